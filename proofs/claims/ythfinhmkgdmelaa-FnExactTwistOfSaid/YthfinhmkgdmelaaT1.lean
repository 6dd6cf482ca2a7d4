import Derived.Test.YthfinhmkgdmelaaTab1
import Derived.Test.YthfinhmkgdmelaaE2
set_option linter.unusedVariables false
set_option linter.unusedSimpArgs false
namespace Go.Proofs.Ythfinhmkgdmelaa.AE
open Go Go.AE Go.Proofs Go.RowKit Go.Maps
set_option linter.unusedVariables false
set_option maxHeartbeats 4000000
set_option maxRecDepth 100000
noncomputable def bB.twX (F:Nat) (aa:Sl) (ag:Int) (H:Hp):OA:=(bif (decide ((IntKind.i64.wrap (ag - (aa.n:Int))) < 0)) then (some ((.int .i64 (-1)),H)) else (some ((.int .i64 (IntKind.i64.wrap (ag - (aa.n:Int)))),H)))
noncomputable def bB.tw (F:Nat) (aa:Sl) (ag:Int) (H:Hp):OA:=bB.twX F aa ag H
noncomputable def bB.code:Go.Code:=(Try.f58.body).getD .skip
noncomputable def bB.lh (F:Nat) (p:Nat) (ks:List Nat) (n:Nat) (tm:Tm) (H:Hp):OA:=none
def bB.pn:Nat→List Nat:=fun i=>(([]:List (Nat×List Nat)).lookup i).getD []
def bB.tb:Nat→List (List Nat):=fun i=>(([]:List (Nat×List (List Nat))).lookup i).getD []
noncomputable def bB.mk (g:Sl→Int→Hp→OA) (args:List AV) (H:Hp):OA:=match args with
 | [(.sl aa),(.int .i64 ag)]=>g aa ag H
 | _=>none
noncomputable def bB.cs (F:Nat):List (FuncId×(List AV→Hp→OA)):=[]
theorem bB.loops (F:Nat):LoopsOk tabs (mkOrc (bB.cs F)) bB.pn (bB.lh F) F [] 1 bB.code (fun tm H=>aresults tabs.ty H tm Try.f58.results.toList fun v=>some (v,H)) (fun _ _ _=>none) (fun tm H=>aresults tabs.ty H tm Try.f58.results.toList fun v=>some (v,H)):=by
 exact loops_none (by kernel_rfl)
theorem bB.eqX (F:Nat) (aa:Sl) (ag:Int) (H:Hp):aCode tabs (mkOrc (bB.cs F)) bB.pn (bB.lh F) F [] 1 bB.code (argTm [(.sl aa),(.int .i64 ag)]) H (fun tm H=>aresults tabs.ty H tm Try.f58.results.toList fun v=>some (v,H)) (fun _ _ _=>none) (fun tm H=>aresults tabs.ty H tm Try.f58.results.toList fun v=>some (v,H)) = bB.twX F aa ag H:=by kernel_rfl
theorem bB.cs_ok (F:Nat):∀ p ∈ bB.cs F,∀ args H v H',p.2 args H = some (v,H')→Go.AE.T Try.prog p.1 args H v H':=by
 intro p hp
 exact absurd (show p ∈ [] from hp) List.not_mem_nil
theorem bB.ok:codeOk bB.pn Try.f58.ntmps bB.tb bB.code = true:=by kernel_rfl
theorem bB.T {F:Nat} {aa:Sl} {ag:Int} {H:Hp} {v:AV} {H':Hp} (h:bB.tw F aa ag H = some (v,H')):Go.AE.T Try.prog 58 [(.sl aa),(.int .i64 ag)] H v H':=
 Go.AE.T.of (Y:=tabs) (C:=mkOrc (bB.cs F)) (PN:=bB.pn) (LH:=bB.lh F) (F:=F) (TB:=bB.tb) (fn:=Try.f58) (code:=bB.code) mixed tabs_ok (mkOrc_ok (bB.cs_ok F)) Try.func58 (by kernel_rfl) (by kernel_rfl) bB.ok (Nat.le_of_ble_eq_true (by kernel_rfl)) (bB.loops F) (Eq.trans (bB.eqX F aa ag H) h)
theorem bB.mk_T {F:Nat} {args:List AV} {H:Hp} {v:AV} {H':Hp} (h:bB.mk (bB.tw F) args H = some (v,H')):Go.AE.T Try.prog 58 args H v H':=by
 unfold bB.mk at h
 split at h
 ·exact bB.T h
 ·cases h
noncomputable def bs.twX (F:Nat) (gK:Sl→Int→Hp→OA) (aa:Sl) (ab:Int) (ah:Int) (H:Hp):OA:=(Hp.new H [(.sl aa),(.int .i64 ab)]).bind fun H4=>(Hp.ldSl H4 H.length 0).bind fun s5=>(gK s5 ah H4).bind fun r6=>((r6.1).asI .i64).bind fun n7=>(bif (decide (n7 < 0)) then (some ((.int .i64 (-1)),r6.2)) else (some ((.int .i64 n7),r6.2)))
noncomputable def bs.tw (F:Nat) (aa:Sl) (ab:Int) (ah:Int) (H:Hp):OA:=bs.twX F (bB.tw F) aa ab ah H
noncomputable def bs.code:Go.Code:=(Try.f15.body).getD .skip
noncomputable def bs.lh (F:Nat) (gK:Sl→Int→Hp→OA) (p:Nat) (ks:List Nat) (n:Nat) (tm:Tm) (H:Hp):OA:=none
def bs.pn:Nat→List Nat:=fun i=>(([]:List (Nat×List Nat)).lookup i).getD []
def bs.tb:Nat→List (List Nat):=fun i=>(([]:List (Nat×List (List Nat))).lookup i).getD []
noncomputable def bs.mk (g:Sl→Int→Int→Hp→OA) (args:List AV) (H:Hp):OA:=match args with
 | [(.agg [(.sl aa),(.int .i64 ab)]),(.int .i64 ah)]=>g aa ab ah H
 | _=>none
noncomputable def bs.cs (F:Nat) (gK:Sl→Int→Hp→OA):List (FuncId×(List AV→Hp→OA)):=[(58,bB.mk gK)]
theorem bs.loops (F:Nat) (gK:Sl→Int→Hp→OA):LoopsOk tabs (mkOrc (bs.cs F gK)) bs.pn (bs.lh F gK) F [] 1 bs.code (fun tm H=>aresults tabs.ty H tm Try.f15.results.toList fun v=>some (v,H)) (fun _ _ _=>none) (fun tm H=>aresults tabs.ty H tm Try.f15.results.toList fun v=>some (v,H)):=by
 exact loops_none (by kernel_rfl)
theorem bs.eqX (F:Nat) (gK:Sl→Int→Hp→OA) (aa:Sl) (ab:Int) (ah:Int) (H:Hp):aCode tabs (mkOrc (bs.cs F gK)) bs.pn (bs.lh F gK) F [] 1 bs.code (argTm [(.agg [(.sl aa),(.int .i64 ab)]),(.int .i64 ah)]) H (fun tm H=>aresults tabs.ty H tm Try.f15.results.toList fun v=>some (v,H)) (fun _ _ _=>none) (fun tm H=>aresults tabs.ty H tm Try.f15.results.toList fun v=>some (v,H)) = bs.twX F gK aa ab ah H:=by kernel_rfl
theorem bs.cs_ok (F:Nat):∀ p ∈ bs.cs F (bB.tw F),∀ args H v H',p.2 args H = some (v,H')→Go.AE.T Try.prog p.1 args H v H':=by
 intro p hp
 simp only [bs.cs,List.mem_cons,List.not_mem_nil,or_false] at hp
 subst hp
 exact fun args H v H' h=>bB.mk_T h
theorem bs.ok:codeOk bs.pn Try.f15.ntmps bs.tb bs.code = true:=by kernel_rfl
theorem bs.T {F:Nat} {aa:Sl} {ab:Int} {ah:Int} {H:Hp} {v:AV} {H':Hp} (h:bs.tw F aa ab ah H = some (v,H')):Go.AE.T Try.prog 15 [(.agg [(.sl aa),(.int .i64 ab)]),(.int .i64 ah)] H v H':=
 Go.AE.T.of (Y:=tabs) (C:=mkOrc (bs.cs F (bB.tw F))) (PN:=bs.pn) (LH:=bs.lh F (bB.tw F)) (F:=F) (TB:=bs.tb) (fn:=Try.f15) (code:=bs.code) mixed tabs_ok (mkOrc_ok (bs.cs_ok F)) Try.func15 (by kernel_rfl) (by kernel_rfl) bs.ok (Nat.le_of_ble_eq_true (by kernel_rfl)) (bs.loops F (bB.tw F)) (Eq.trans (bs.eqX F (bB.tw F) aa ab ah H) h)
theorem bs.mk_T {F:Nat} {args:List AV} {H:Hp} {v:AV} {H':Hp} (h:bs.mk (bs.tw F) args H = some (v,H')):Go.AE.T Try.prog 15 args H v H':=by
 unfold bs.mk at h
 split at h
 ·exact bs.T h
 ·cases h
noncomputable def bC.twX (F:Nat) (aa:Int) (ab:Int) (aA:Int) (aB:Int) (az:Int) (H:Hp):OA:=(Hp.new H [(.int .i64 aa),(.int .i64 ab),(.int .i64 aA),(.int .i64 aB),(.int .i64 az)]).bind fun H6=>(Hp.new H6 [.int .i64 0,.int .i64 0,.int .i64 0,.int .i64 0,.int .i64 0]).bind fun H7=>(Hp.new H7 [.int .i64 0,.int .i64 0,.int .i64 0,.int .i64 0,.int .i64 0]).bind fun H8=>(Hp.ldI H8 .i64 H.length 0).bind fun n9=>(Hp.st H8 H7.length 0 (.int .i64 n9)).bind fun H10=>(Hp.ldI H10 .i64 H.length 1).bind fun n11=>(Hp.st H10 H7.length 1 (.int .i64 n11)).bind fun H12=>(Hp.ldI H12 .i64 H.length 2).bind fun n13=>(Hp.st H12 H7.length 2 (.int .i64 n13)).bind fun H14=>(Hp.ldI H14 .i64 H.length 3).bind fun n15=>(Hp.st H14 H7.length 3 (.int .i64 n15)).bind fun H16=>(Hp.ldI H16 .i64 H.length 4).bind fun n17=>(Hp.st H16 H7.length 4 (.int .i64 n17)).bind fun H18=>(Hp.ldI H18 .i64 H7.length 0).bind fun n19=>(Hp.ldI H18 .i64 H7.length (0 + 1)).bind fun n20=>(Hp.ldI H18 .i64 H7.length (0 + 2)).bind fun n21=>(Hp.ldI H18 .i64 H7.length (0 + 3)).bind fun n22=>(Hp.ldI H18 .i64 H7.length (0 + 4)).bind fun n23=>(Hp.st H18 H6.length 0 (.int .i64 n19)).bind fun H24=>(Hp.st H24 H6.length (0 + 1) (.int .i64 n20)).bind fun H25=>(Hp.st H25 H6.length (0 + 1 + 1) (.int .i64 n21)).bind fun H26=>(Hp.st H26 H6.length (0 + 1 + 1 + 1) (.int .i64 n22)).bind fun H27=>(Hp.st H27 H6.length (0 + 1 + 1 + 1 + 1) (.int .i64 n23)).bind fun H28=>(Hp.ldI H28 .i64 H6.length 0).bind fun n29=>(Hp.ldI H28 .i64 H6.length (0 + 1)).bind fun n30=>(Hp.ldI H28 .i64 H6.length (0 + 2)).bind fun n31=>(Hp.ldI H28 .i64 H6.length (0 + 3)).bind fun n32=>(Hp.ldI H28 .i64 H6.length (0 + 4)).bind fun n33=>some ((.agg [(.int .i64 n29),(.int .i64 n30),(.int .i64 n31),(.int .i64 n32),(.int .i64 n33)]),H28)
noncomputable def bC.tw (F:Nat) (aa:Int) (ab:Int) (aA:Int) (aB:Int) (az:Int) (H:Hp):OA:=bC.twX F aa ab aA aB az H
noncomputable def bC.code:Go.Code:=(Try.f115.body).getD .skip
noncomputable def bC.lh (F:Nat) (p:Nat) (ks:List Nat) (n:Nat) (tm:Tm) (H:Hp):OA:=none
def bC.pn:Nat→List Nat:=fun i=>(([]:List (Nat×List Nat)).lookup i).getD []
def bC.tb:Nat→List (List Nat):=fun i=>(([]:List (Nat×List (List Nat))).lookup i).getD []
noncomputable def bC.mk (g:Int→Int→Int→Int→Int→Hp→OA) (args:List AV) (H:Hp):OA:=match args with
 | [(.agg [(.int .i64 aa),(.int .i64 ab),(.int .i64 aA),(.int .i64 aB),(.int .i64 az)])]=>g aa ab aA aB az H
 | _=>none
noncomputable def bC.cs (F:Nat):List (FuncId×(List AV→Hp→OA)):=[]
theorem bC.loops (F:Nat):LoopsOk tabs (mkOrc (bC.cs F)) bC.pn (bC.lh F) F [] 1 bC.code (fun tm H=>aresults tabs.ty H tm Try.f115.results.toList fun v=>some (v,H)) (fun _ _ _=>none) (fun tm H=>aresults tabs.ty H tm Try.f115.results.toList fun v=>some (v,H)):=by
 exact loops_none (by kernel_rfl)
theorem bC.eqX (F:Nat) (aa:Int) (ab:Int) (aA:Int) (aB:Int) (az:Int) (H:Hp):aCode tabs (mkOrc (bC.cs F)) bC.pn (bC.lh F) F [] 1 bC.code (argTm [(.agg [(.int .i64 aa),(.int .i64 ab),(.int .i64 aA),(.int .i64 aB),(.int .i64 az)])]) H (fun tm H=>aresults tabs.ty H tm Try.f115.results.toList fun v=>some (v,H)) (fun _ _ _=>none) (fun tm H=>aresults tabs.ty H tm Try.f115.results.toList fun v=>some (v,H)) = bC.twX F aa ab aA aB az H:=by kernel_rfl
theorem bC.cs_ok (F:Nat):∀ p ∈ bC.cs F,∀ args H v H',p.2 args H = some (v,H')→Go.AE.T Try.prog p.1 args H v H':=by
 intro p hp
 exact absurd (show p ∈ [] from hp) List.not_mem_nil
theorem bC.ok:codeOk bC.pn Try.f115.ntmps bC.tb bC.code = true:=by kernel_rfl
theorem bC.T {F:Nat} {aa:Int} {ab:Int} {aA:Int} {aB:Int} {az:Int} {H:Hp} {v:AV} {H':Hp} (h:bC.tw F aa ab aA aB az H = some (v,H')):Go.AE.T Try.prog 115 [(.agg [(.int .i64 aa),(.int .i64 ab),(.int .i64 aA),(.int .i64 aB),(.int .i64 az)])] H v H':=
 Go.AE.T.of (Y:=tabs) (C:=mkOrc (bC.cs F)) (PN:=bC.pn) (LH:=bC.lh F) (F:=F) (TB:=bC.tb) (fn:=Try.f115) (code:=bC.code) mixed tabs_ok (mkOrc_ok (bC.cs_ok F)) Try.func115 (by kernel_rfl) (by kernel_rfl) bC.ok (Nat.le_of_ble_eq_true (by kernel_rfl)) (bC.loops F) (Eq.trans (bC.eqX F aa ab aA aB az H) h)
theorem bC.mk_T {F:Nat} {args:List AV} {H:Hp} {v:AV} {H':Hp} (h:bC.mk (bC.tw F) args H = some (v,H')):Go.AE.T Try.prog 115 args H v H':=by
 unfold bC.mk at h
 split at h
 ·exact bC.T h
 ·cases h
noncomputable def aR.l29 (F:Nat) (dt:Int→Int→Int→Int→Int→Hp→OA) :Nat→Sl→Sl→Int→Hp→OA
 | 0,_,_,_,_=>none
 | es + 1,cI,gw,du,H7=>(bif (decide (du < (cI.n:Int))) then ((Sl.idx cI du 5).bind fun p32=>(Hp.ldI H7 .i64 p32.1 p32.2).bind fun n33=>(Hp.ldI H7 .i64 p32.1 (p32.2 + 1)).bind fun n34=>(Hp.ldI H7 .i64 p32.1 (p32.2 + 2)).bind fun n35=>(Hp.ldI H7 .i64 p32.1 (p32.2 + 3)).bind fun n36=>(Hp.ldI H7 .i64 p32.1 (p32.2 + 4)).bind fun n37=>(dt n33 n34 n35 n36 n37 H7).bind fun r38=>((r38.1).asAgg 5).bind fun l39=>(l39[0]?).bind fun v40=>((v40).asI .i64).bind fun n41=>(l39[1]?).bind fun v42=>((v42).asI .i64).bind fun n43=>(l39[2]?).bind fun v44=>((v44).asI .i64).bind fun n45=>(l39[3]?).bind fun v46=>((v46).asI .i64).bind fun n47=>(l39[4]?).bind fun v48=>((v48).asI .i64).bind fun n49=>(Sl.idx gw du 5).bind fun p50=>(Hp.st r38.2 p50.1 p50.2 (.int .i64 n41)).bind fun H51=>(Hp.st H51 p50.1 (p50.2 + 1) (.int .i64 n43)).bind fun H52=>(Hp.st H52 p50.1 (p50.2 + 1 + 1) (.int .i64 n45)).bind fun H53=>(Hp.st H53 p50.1 (p50.2 + 1 + 1 + 1) (.int .i64 n47)).bind fun H54=>(Hp.st H54 p50.1 (p50.2 + 1 + 1 + 1 + 1) (.int .i64 n49)).bind fun H55=>aR.l29 F dt es cI gw (IntKind.i64.wrap (du + 1)) H55) else (some ((.sl gw),H7)))
termination_by structural n=>n
noncomputable def aR.twX (F:Nat) (dt:Int→Int→Int→Int→Int→Hp→OA) (aa:Sl) (H:Hp):OA:=(Hp.mk H [.int .i64 0,.int .i64 0,.int .i64 0,.int .i64 0,.int .i64 0] 40 (aa.n:Int) (aa.n:Int)).bind fun m2=>aR.l29 F dt F aa m2.1 0 m2.2
noncomputable def aR.tw (F:Nat) (aa:Sl) (H:Hp):OA:=aR.twX F (bC.tw F) aa H
noncomputable def aR.code:Go.Code:=(Try.f60.body).getD .skip
noncomputable def aR.lh29 (F:Nat) (dt:Int→Int→Int→Int→Int→Hp→OA) (ks:List Nat) (n:Nat) (tm:Tm) (H:Hp):OA:=match ks,tm 0,tm 3,tm 4 with
 | [],(.sl cI),(.sl gw),(.int .i64 du)=>aR.l29 F dt n cI gw du H
 | _,_,_,_=>none
theorem aR.lh29_inv {F:Nat} {dt:Int→Int→Int→Int→Int→Hp→OA} {ks:List Nat} {n:Nat} {tm:Tm} {H:Hp} {r:AV×Hp} (h:aR.lh29 F dt ks n tm H = some r):∃ cI:Sl,∃ gw:Sl,∃ du:Int,ks = []∧tm 0 = (.sl cI)∧tm 3 = (.sl gw)∧tm 4 = (.int .i64 du)∧aR.l29 F dt n cI gw du H = some r:=by
 unfold aR.lh29 at h
 split at h
 ·exact ⟨_,_,_,rfl,by assumption,by assumption,by assumption,h⟩
 ·cases h
noncomputable def aR.lh (F:Nat) (dt:Int→Int→Int→Int→Int→Hp→OA) (p:Nat) (ks:List Nat) (n:Nat) (tm:Tm) (H:Hp):OA:=bif p.beq 29 then aR.lh29 F dt ks n tm H else (none)
def aR.pn:Nat→List Nat:=fun i=>(([]:List (Nat×List Nat)).lookup i).getD []
def aR.tb:Nat→List (List Nat):=fun i=>(([]:List (Nat×List (List Nat))).lookup i).getD []
noncomputable def aR.mk (g:Sl→Hp→OA) (args:List AV) (H:Hp):OA:=match args with
 | [(.sl aa)]=>g aa H
 | _=>none
noncomputable def aR.cs (F:Nat) (dt:Int→Int→Int→Int→Int→Hp→OA):List (FuncId×(List AV→Hp→OA)):=[(115,bC.mk dt)]
theorem aR.loops (F:Nat) (dt:Int→Int→Int→Int→Int→Hp→OA):LoopsOk tabs (mkOrc (aR.cs F dt)) aR.pn (aR.lh F dt) F [] 1 aR.code (fun tm H=>aresults tabs.ty H tm Try.f60.results.toList fun v=>some (v,H)) (fun _ _ _=>none) (fun tm H=>aresults tabs.ty H tm Try.f60.results.toList fun v=>some (v,H)):=by
 refine LoopsOk.seq ?_ ?_
 ·exact loops_none (by kernel_rfl)
 ·refine LoopsOk.seq ?_ ?_
  ·exact loops_none (by kernel_rfl)
  ·refine LoopsOk.seq ?_ ?_
   ·refine LoopsOk.seq ?_ ?_
    ·exact loops_none (by kernel_rfl)
    ·refine LoopsOk.block ?_
     refine LoopsOk.loop (fun tm H=>?_) (fun k29 tm H r h0=>?_) (fun k29=>?_)
     ·refine none_of fun r h0=>?_
      obtain ⟨cI,gw,du,hks,e0,e3,e4,h⟩:=aR.lh29_inv (show aR.lh29 F dt [] 0 tm H = some r from h0)
      cases h
     ·obtain ⟨cI,gw,du,hks,e0,e3,e4,h⟩:=aR.lh29_inv (show aR.lh29 F dt [] (k29 + 1) tm H = some r from h0)
      have q0:(Tm.put tm 0 (.sl cI)) = tm:=by exact Tm.put_same e0
      have q1:(Tm.put (Tm.put tm 0 (.sl cI)) 3 (.sl gw)) = tm:=by rw [q0]; exact Tm.put_same e3
      have q2:(Tm.put (Tm.put (Tm.put tm 0 (.sl cI)) 3 (.sl gw)) 4 (.int .i64 du)) = tm:=by rw [q1]; exact Tm.put_same e4
      rw [← q2]
      exact Eq.trans (by kernel_rfl) h
     ·exact loops_none (by kernel_rfl)
   ·exact loops_none (by kernel_rfl)
theorem aR.eqX (F:Nat) (dt:Int→Int→Int→Int→Int→Hp→OA) (aa:Sl) (H:Hp):aCode tabs (mkOrc (aR.cs F dt)) aR.pn (aR.lh F dt) F [] 1 aR.code (argTm [(.sl aa)]) H (fun tm H=>aresults tabs.ty H tm Try.f60.results.toList fun v=>some (v,H)) (fun _ _ _=>none) (fun tm H=>aresults tabs.ty H tm Try.f60.results.toList fun v=>some (v,H)) = aR.twX F dt aa H:=by kernel_rfl
theorem aR.cs_ok (F:Nat):∀ p ∈ aR.cs F (bC.tw F),∀ args H v H',p.2 args H = some (v,H')→Go.AE.T Try.prog p.1 args H v H':=by
 intro p hp
 simp only [aR.cs,List.mem_cons,List.not_mem_nil,or_false] at hp
 subst hp
 exact fun args H v H' h=>bC.mk_T h
theorem aR.ok:codeOk aR.pn Try.f60.ntmps aR.tb aR.code = true:=by kernel_rfl
theorem aR.T {F:Nat} {aa:Sl} {H:Hp} {v:AV} {H':Hp} (h:aR.tw F aa H = some (v,H')):Go.AE.T Try.prog 60 [(.sl aa)] H v H':=
 Go.AE.T.of (Y:=tabs) (C:=mkOrc (aR.cs F (bC.tw F))) (PN:=aR.pn) (LH:=aR.lh F (bC.tw F)) (F:=F) (TB:=aR.tb) (fn:=Try.f60) (code:=aR.code) mixed tabs_ok (mkOrc_ok (aR.cs_ok F)) Try.func60 (by kernel_rfl) (by kernel_rfl) aR.ok (Nat.le_of_ble_eq_true (by kernel_rfl)) (aR.loops F (bC.tw F)) (Eq.trans (aR.eqX F (bC.tw F) aa H) h)
theorem aR.mk_T {F:Nat} {args:List AV} {H:Hp} {v:AV} {H':Hp} (h:aR.mk (aR.tw F) args H = some (v,H')):Go.AE.T Try.prog 60 args H v H':=by
 unfold aR.mk at h
 split at h
 ·exact aR.T h
 ·cases h
noncomputable def bq.twX (F:Nat) (gL:Sl→Hp→OA) (aa:Sl) (ab:Int) (H:Hp):OA:=(Hp.new H [(.sl aa),(.int .i64 ab)]).bind fun H3=>(Hp.new H3 [.sl ⟨none,0,.ex 0⟩,.int .i64 0]).bind fun H4=>(Hp.new H4 [.sl ⟨none,0,.ex 0⟩,.int .i64 0]).bind fun H5=>(Hp.ldSl H5 H.length 0).bind fun s6=>(gL s6 H5).bind fun r7=>((r7.1).asSl).bind fun s8=>(Hp.st r7.2 H4.length 0 (.sl s8)).bind fun H9=>(Hp.ldI H9 .i64 H.length 1).bind fun n10=>(Hp.st H9 H4.length 1 (.int .i64 n10)).bind fun H11=>(Hp.ldSl H11 H4.length 0).bind fun s12=>(Hp.ldI H11 .i64 H4.length (0 + 1)).bind fun n13=>(Hp.st H11 H3.length 0 (.sl s12)).bind fun H14=>(Hp.st H14 H3.length (0 + 1) (.int .i64 n13)).bind fun H15=>(Hp.ldSl H15 H3.length 0).bind fun s16=>(Hp.ldI H15 .i64 H3.length (0 + 1)).bind fun n17=>some ((.agg [(.sl s16),(.int .i64 n17)]),H15)
noncomputable def bq.tw (F:Nat) (aa:Sl) (ab:Int) (H:Hp):OA:=bq.twX F (aR.tw F) aa ab H
noncomputable def bq.code:Go.Code:=(Try.f17.body).getD .skip
noncomputable def bq.lh (F:Nat) (gL:Sl→Hp→OA) (p:Nat) (ks:List Nat) (n:Nat) (tm:Tm) (H:Hp):OA:=none
def bq.pn:Nat→List Nat:=fun i=>(([]:List (Nat×List Nat)).lookup i).getD []
def bq.tb:Nat→List (List Nat):=fun i=>(([]:List (Nat×List (List Nat))).lookup i).getD []
noncomputable def bq.mk (g:Sl→Int→Hp→OA) (args:List AV) (H:Hp):OA:=match args with
 | [(.agg [(.sl aa),(.int .i64 ab)])]=>g aa ab H
 | _=>none
noncomputable def bq.cs (F:Nat) (gL:Sl→Hp→OA):List (FuncId×(List AV→Hp→OA)):=[(60,aR.mk gL)]
theorem bq.loops (F:Nat) (gL:Sl→Hp→OA):LoopsOk tabs (mkOrc (bq.cs F gL)) bq.pn (bq.lh F gL) F [] 1 bq.code (fun tm H=>aresults tabs.ty H tm Try.f17.results.toList fun v=>some (v,H)) (fun _ _ _=>none) (fun tm H=>aresults tabs.ty H tm Try.f17.results.toList fun v=>some (v,H)):=by
 exact loops_none (by kernel_rfl)
theorem bq.eqX (F:Nat) (gL:Sl→Hp→OA) (aa:Sl) (ab:Int) (H:Hp):aCode tabs (mkOrc (bq.cs F gL)) bq.pn (bq.lh F gL) F [] 1 bq.code (argTm [(.agg [(.sl aa),(.int .i64 ab)])]) H (fun tm H=>aresults tabs.ty H tm Try.f17.results.toList fun v=>some (v,H)) (fun _ _ _=>none) (fun tm H=>aresults tabs.ty H tm Try.f17.results.toList fun v=>some (v,H)) = bq.twX F gL aa ab H:=by kernel_rfl
theorem bq.cs_ok (F:Nat):∀ p ∈ bq.cs F (aR.tw F),∀ args H v H',p.2 args H = some (v,H')→Go.AE.T Try.prog p.1 args H v H':=by
 intro p hp
 simp only [bq.cs,List.mem_cons,List.not_mem_nil,or_false] at hp
 subst hp
 exact fun args H v H' h=>aR.mk_T h
theorem bq.ok:codeOk bq.pn Try.f17.ntmps bq.tb bq.code = true:=by kernel_rfl
theorem bq.T {F:Nat} {aa:Sl} {ab:Int} {H:Hp} {v:AV} {H':Hp} (h:bq.tw F aa ab H = some (v,H')):Go.AE.T Try.prog 17 [(.agg [(.sl aa),(.int .i64 ab)])] H v H':=
 Go.AE.T.of (Y:=tabs) (C:=mkOrc (bq.cs F (aR.tw F))) (PN:=bq.pn) (LH:=bq.lh F (aR.tw F)) (F:=F) (TB:=bq.tb) (fn:=Try.f17) (code:=bq.code) mixed tabs_ok (mkOrc_ok (bq.cs_ok F)) Try.func17 (by kernel_rfl) (by kernel_rfl) bq.ok (Nat.le_of_ble_eq_true (by kernel_rfl)) (bq.loops F (aR.tw F)) (Eq.trans (bq.eqX F (aR.tw F) aa ab H) h)
theorem bq.mk_T {F:Nat} {args:List AV} {H:Hp} {v:AV} {H':Hp} (h:bq.mk (bq.tw F) args H = some (v,H')):Go.AE.T Try.prog 17 args H v H':=by
 unfold bq.mk at h
 split at h
 ·exact bq.T h
 ·cases h
noncomputable def aY.twX (F:Nat) (aa:Int) (ag:Int) (bj:Int) (H:Hp):OA:=(bif (decide (aa ≥ ag)) then (some ((.bool (decide (aa ≤ bj))),H)) else (some ((.bool false),H)))
noncomputable def aY.tw (F:Nat) (aa:Int) (ag:Int) (bj:Int) (H:Hp):OA:=aY.twX F aa ag bj H
noncomputable def aY.code:Go.Code:=(Try.f65.body).getD .skip
noncomputable def aY.lh (F:Nat) (p:Nat) (ks:List Nat) (n:Nat) (tm:Tm) (H:Hp):OA:=none
def aY.pn:Nat→List Nat:=fun i=>(([]:List (Nat×List Nat)).lookup i).getD []
def aY.tb:Nat→List (List Nat):=fun i=>(([]:List (Nat×List (List Nat))).lookup i).getD []
noncomputable def aY.mk (g:Int→Int→Int→Hp→OA) (args:List AV) (H:Hp):OA:=match args with
 | [(.int .i64 aa),(.int .i64 ag),(.int .i64 bj)]=>g aa ag bj H
 | _=>none
noncomputable def aY.cs (F:Nat):List (FuncId×(List AV→Hp→OA)):=[]
theorem aY.loops (F:Nat):LoopsOk tabs (mkOrc (aY.cs F)) aY.pn (aY.lh F) F [] 1 aY.code (fun tm H=>aresults tabs.ty H tm Try.f65.results.toList fun v=>some (v,H)) (fun _ _ _=>none) (fun tm H=>aresults tabs.ty H tm Try.f65.results.toList fun v=>some (v,H)):=by
 exact loops_none (by kernel_rfl)
theorem aY.eqX (F:Nat) (aa:Int) (ag:Int) (bj:Int) (H:Hp):aCode tabs (mkOrc (aY.cs F)) aY.pn (aY.lh F) F [] 1 aY.code (argTm [(.int .i64 aa),(.int .i64 ag),(.int .i64 bj)]) H (fun tm H=>aresults tabs.ty H tm Try.f65.results.toList fun v=>some (v,H)) (fun _ _ _=>none) (fun tm H=>aresults tabs.ty H tm Try.f65.results.toList fun v=>some (v,H)) = aY.twX F aa ag bj H:=by kernel_rfl
theorem aY.cs_ok (F:Nat):∀ p ∈ aY.cs F,∀ args H v H',p.2 args H = some (v,H')→Go.AE.T Try.prog p.1 args H v H':=by
 intro p hp
 exact absurd (show p ∈ [] from hp) List.not_mem_nil
theorem aY.ok:codeOk aY.pn Try.f65.ntmps aY.tb aY.code = true:=by kernel_rfl
theorem aY.T {F:Nat} {aa:Int} {ag:Int} {bj:Int} {H:Hp} {v:AV} {H':Hp} (h:aY.tw F aa ag bj H = some (v,H')):Go.AE.T Try.prog 65 [(.int .i64 aa),(.int .i64 ag),(.int .i64 bj)] H v H':=
 Go.AE.T.of (Y:=tabs) (C:=mkOrc (aY.cs F)) (PN:=aY.pn) (LH:=aY.lh F) (F:=F) (TB:=aY.tb) (fn:=Try.f65) (code:=aY.code) mixed tabs_ok (mkOrc_ok (aY.cs_ok F)) Try.func65 (by kernel_rfl) (by kernel_rfl) aY.ok (Nat.le_of_ble_eq_true (by kernel_rfl)) (aY.loops F) (Eq.trans (aY.eqX F aa ag bj H) h)
theorem aY.mk_T {F:Nat} {args:List AV} {H:Hp} {v:AV} {H':Hp} (h:aY.mk (aY.tw F) args H = some (v,H')):Go.AE.T Try.prog 65 args H v H':=by
 unfold aY.mk at h
 split at h
 ·exact aY.T h
 ·cases h
noncomputable def aV.twX (F:Nat) (aa:Int) (ab:Int) (aA:Int) (aB:Int) (az:Int) (bc:Int) (H:Hp):OA:=(Hp.new H [(.int .i64 aa),(.int .i64 ab),(.int .i64 aA),(.int .i64 aB),(.int .i64 az)]).bind fun H7=>(Hp.ldI H7 .i64 H.length 0).bind fun n8=>(Hp.ldI H7 .i64 H.length 1).bind fun n9=>(Hp.ldI H7 .i64 H.length 2).bind fun n10=>(Hp.ldI H7 .i64 H.length 3).bind fun n11=>(Hp.new H7 [(.int .i64 n8),(.int .i64 n9),(.int .i64 n10),(.int .i64 n11)]).bind fun H12=>(Sl.idx (⟨some (H7.length,0),4,.ex 4⟩:Sl) bc 1).bind fun p13=>(Hp.ldI H12 .i64 p13.1 p13.2).bind fun n14=>some ((.int .i64 n14),H12)
noncomputable def aV.tw (F:Nat) (aa:Int) (ab:Int) (aA:Int) (aB:Int) (az:Int) (bc:Int) (H:Hp):OA:=aV.twX F aa ab aA aB az bc H
noncomputable def aV.code:Go.Code:=(Try.f140.body).getD .skip
noncomputable def aV.lh (F:Nat) (p:Nat) (ks:List Nat) (n:Nat) (tm:Tm) (H:Hp):OA:=none
def aV.pn:Nat→List Nat:=fun i=>(([]:List (Nat×List Nat)).lookup i).getD []
def aV.tb:Nat→List (List Nat):=fun i=>(([]:List (Nat×List (List Nat))).lookup i).getD []
noncomputable def aV.mk (g:Int→Int→Int→Int→Int→Int→Hp→OA) (args:List AV) (H:Hp):OA:=match args with
 | [(.agg [(.int .i64 aa),(.int .i64 ab),(.int .i64 aA),(.int .i64 aB),(.int .i64 az)]),(.int .i64 bc)]=>g aa ab aA aB az bc H
 | _=>none
noncomputable def aV.cs (F:Nat):List (FuncId×(List AV→Hp→OA)):=[]
theorem aV.loops (F:Nat):LoopsOk tabs (mkOrc (aV.cs F)) aV.pn (aV.lh F) F [] 1 aV.code (fun tm H=>aresults tabs.ty H tm Try.f140.results.toList fun v=>some (v,H)) (fun _ _ _=>none) (fun tm H=>aresults tabs.ty H tm Try.f140.results.toList fun v=>some (v,H)):=by
 exact loops_none (by kernel_rfl)
theorem aV.eqX (F:Nat) (aa:Int) (ab:Int) (aA:Int) (aB:Int) (az:Int) (bc:Int) (H:Hp):aCode tabs (mkOrc (aV.cs F)) aV.pn (aV.lh F) F [] 1 aV.code (argTm [(.agg [(.int .i64 aa),(.int .i64 ab),(.int .i64 aA),(.int .i64 aB),(.int .i64 az)]),(.int .i64 bc)]) H (fun tm H=>aresults tabs.ty H tm Try.f140.results.toList fun v=>some (v,H)) (fun _ _ _=>none) (fun tm H=>aresults tabs.ty H tm Try.f140.results.toList fun v=>some (v,H)) = aV.twX F aa ab aA aB az bc H:=by kernel_rfl
theorem aV.cs_ok (F:Nat):∀ p ∈ aV.cs F,∀ args H v H',p.2 args H = some (v,H')→Go.AE.T Try.prog p.1 args H v H':=by
 intro p hp
 exact absurd (show p ∈ [] from hp) List.not_mem_nil
theorem aV.ok:codeOk aV.pn Try.f140.ntmps aV.tb aV.code = true:=by kernel_rfl
theorem aV.T {F:Nat} {aa:Int} {ab:Int} {aA:Int} {aB:Int} {az:Int} {bc:Int} {H:Hp} {v:AV} {H':Hp} (h:aV.tw F aa ab aA aB az bc H = some (v,H')):Go.AE.T Try.prog 140 [(.agg [(.int .i64 aa),(.int .i64 ab),(.int .i64 aA),(.int .i64 aB),(.int .i64 az)]),(.int .i64 bc)] H v H':=
 Go.AE.T.of (Y:=tabs) (C:=mkOrc (aV.cs F)) (PN:=aV.pn) (LH:=aV.lh F) (F:=F) (TB:=aV.tb) (fn:=Try.f140) (code:=aV.code) mixed tabs_ok (mkOrc_ok (aV.cs_ok F)) Try.func140 (by kernel_rfl) (by kernel_rfl) aV.ok (Nat.le_of_ble_eq_true (by kernel_rfl)) (aV.loops F) (Eq.trans (aV.eqX F aa ab aA aB az bc H) h)
theorem aV.mk_T {F:Nat} {args:List AV} {H:Hp} {v:AV} {H':Hp} (h:aV.mk (aV.tw F) args H = some (v,H')):Go.AE.T Try.prog 140 args H v H':=by
 unfold aV.mk at h
 split at h
 ·exact aV.T h
 ·cases h
noncomputable def aW.twX (F:Nat) (aa:Int) (ab:Int) (aA:Int) (aB:Int) (az:Int) (bc:Int) (H:Hp):OA:=(Hp.new H [(.int .i64 aa),(.int .i64 ab),(.int .i64 aA),(.int .i64 aB),(.int .i64 az)]).bind fun H7=>(bif (bc == 0) then (some ((.bool true),H7)) else ((bif (bc == 3) then ((Hp.ldI H7 .i64 H.length 4).bind fun n8=>(bif (n8 == 1) then (some ((.bool true),H7)) else ((bif (bc == 1) then ((Hp.ldI H7 .i64 H.length 4).bind fun n9=>some ((.bool (n9 == (-1))),H7)) else (some ((.bool false),H7)))))) else ((bif (bc == 1) then ((Hp.ldI H7 .i64 H.length 4).bind fun n10=>some ((.bool (n10 == (-1))),H7)) else (some ((.bool false),H7)))))))
noncomputable def aW.tw (F:Nat) (aa:Int) (ab:Int) (aA:Int) (aB:Int) (az:Int) (bc:Int) (H:Hp):OA:=aW.twX F aa ab aA aB az bc H
noncomputable def aW.code:Go.Code:=(Try.f141.body).getD .skip
noncomputable def aW.lh (F:Nat) (p:Nat) (ks:List Nat) (n:Nat) (tm:Tm) (H:Hp):OA:=none
def aW.pn:Nat→List Nat:=fun i=>(([]:List (Nat×List Nat)).lookup i).getD []
def aW.tb:Nat→List (List Nat):=fun i=>(([]:List (Nat×List (List Nat))).lookup i).getD []
noncomputable def aW.mk (g:Int→Int→Int→Int→Int→Int→Hp→OA) (args:List AV) (H:Hp):OA:=match args with
 | [(.agg [(.int .i64 aa),(.int .i64 ab),(.int .i64 aA),(.int .i64 aB),(.int .i64 az)]),(.int .i64 bc)]=>g aa ab aA aB az bc H
 | _=>none
noncomputable def aW.cs (F:Nat):List (FuncId×(List AV→Hp→OA)):=[]
theorem aW.loops (F:Nat):LoopsOk tabs (mkOrc (aW.cs F)) aW.pn (aW.lh F) F [] 1 aW.code (fun tm H=>aresults tabs.ty H tm Try.f141.results.toList fun v=>some (v,H)) (fun _ _ _=>none) (fun tm H=>aresults tabs.ty H tm Try.f141.results.toList fun v=>some (v,H)):=by
 exact loops_none (by kernel_rfl)
theorem aW.eqX (F:Nat) (aa:Int) (ab:Int) (aA:Int) (aB:Int) (az:Int) (bc:Int) (H:Hp):aCode tabs (mkOrc (aW.cs F)) aW.pn (aW.lh F) F [] 1 aW.code (argTm [(.agg [(.int .i64 aa),(.int .i64 ab),(.int .i64 aA),(.int .i64 aB),(.int .i64 az)]),(.int .i64 bc)]) H (fun tm H=>aresults tabs.ty H tm Try.f141.results.toList fun v=>some (v,H)) (fun _ _ _=>none) (fun tm H=>aresults tabs.ty H tm Try.f141.results.toList fun v=>some (v,H)) = aW.twX F aa ab aA aB az bc H:=by kernel_rfl
theorem aW.cs_ok (F:Nat):∀ p ∈ aW.cs F,∀ args H v H',p.2 args H = some (v,H')→Go.AE.T Try.prog p.1 args H v H':=by
 intro p hp
 exact absurd (show p ∈ [] from hp) List.not_mem_nil
theorem aW.ok:codeOk aW.pn Try.f141.ntmps aW.tb aW.code = true:=by kernel_rfl
theorem aW.T {F:Nat} {aa:Int} {ab:Int} {aA:Int} {aB:Int} {az:Int} {bc:Int} {H:Hp} {v:AV} {H':Hp} (h:aW.tw F aa ab aA aB az bc H = some (v,H')):Go.AE.T Try.prog 141 [(.agg [(.int .i64 aa),(.int .i64 ab),(.int .i64 aA),(.int .i64 aB),(.int .i64 az)]),(.int .i64 bc)] H v H':=
 Go.AE.T.of (Y:=tabs) (C:=mkOrc (aW.cs F)) (PN:=aW.pn) (LH:=aW.lh F) (F:=F) (TB:=aW.tb) (fn:=Try.f141) (code:=aW.code) mixed tabs_ok (mkOrc_ok (aW.cs_ok F)) Try.func141 (by kernel_rfl) (by kernel_rfl) aW.ok (Nat.le_of_ble_eq_true (by kernel_rfl)) (aW.loops F) (Eq.trans (aW.eqX F aa ab aA aB az bc H) h)
theorem aW.mk_T {F:Nat} {args:List AV} {H:Hp} {v:AV} {H':Hp} (h:aW.mk (aW.tw F) args H = some (v,H')):Go.AE.T Try.prog 141 args H v H':=by
 unfold aW.mk at h
 split at h
 ·exact aW.T h
 ·cases h
noncomputable def au.l3927 (F:Nat) (aS:Int→Int→Int→Int→Int→Int→Hp→OA) (bu:Int→Int→Int→Hp→OA) (aT:Int→Int→Int→Int→Int→Int→Hp→OA) (C61_:Nat→Nat→Int→Sl→Sl→Int→Hp→OA):Nat→Nat→Nat→Int→Sl→Sl→Int→Nat→Nat→Int→Hp→OA
 | 0,_,_,_,_,_,_,_,_,_,_=>none
 | wq + 1,dv,eW,cJ,eX,fj,ck,cN,dV,cX,H126=>(bif (decide (cX < 4)) then ((Hp.ldI H126 .i64 cN dV).bind fun n151=>(Hp.ldI H126 .i64 cN (dV + 1)).bind fun n152=>(Hp.ldI H126 .i64 cN (dV + 2)).bind fun n153=>(Hp.ldI H126 .i64 cN (dV + 3)).bind fun n154=>(Hp.ldI H126 .i64 cN (dV + 4)).bind fun n155=>(aS n151 n152 n153 n154 n155 cX H126).bind fun r156=>((r156.1).asI .i64).bind fun n157=>(bu n157 0 (IntKind.i64.wrap (cJ - 1)) r156.2).bind fun r158=>((r158.1).asB).bind fun b159=>(bif (!b159) then (some ((.bool false),r158.2)) else ((Hp.ldI r158.2 .i64 cN dV).bind fun n160=>(Hp.ldI r158.2 .i64 cN (dV + 1)).bind fun n161=>(Hp.ldI r158.2 .i64 cN (dV + 2)).bind fun n162=>(Hp.ldI r158.2 .i64 cN (dV + 3)).bind fun n163=>(Hp.ldI r158.2 .i64 cN (dV + 4)).bind fun n164=>(aT n160 n161 n162 n163 n164 cX r158.2).bind fun r165=>((r165.1).asB).bind fun b166=>(bif b166 then ((Sl.idx eX n157 1).bind fun p167=>(Hp.ldB r165.2 p167.1 p167.2).bind fun b168=>(bif b168 then (some ((.bool false),r165.2)) else ((Sl.idx eX n157 1).bind fun p169=>(Hp.st r165.2 p169.1 p169.2 (.bool true)).bind fun H170=>au.l3927 F aS bu aT C61_ wq dv eW cJ eX fj ck cN dV (IntKind.i64.wrap (cX + 1)) H170))) else ((Sl.idx fj n157 1).bind fun p171=>(Hp.ldB r165.2 p171.1 p171.2).bind fun b172=>(bif b172 then (some ((.bool false),r165.2)) else ((Sl.idx fj n157 1).bind fun p173=>(Hp.st r165.2 p173.1 p173.2 (.bool true)).bind fun H174=>au.l3927 F aS bu aT C61_ wq dv eW cJ eX fj ck cN dV (IntKind.i64.wrap (cX + 1)) H174))))))) else (C61_ dv eW cJ eX fj (IntKind.i64.wrap (ck + 1)) H126))
termination_by structural n=>n
noncomputable def au.l61 (F:Nat) (aS:Int→Int→Int→Int→Int→Int→Hp→OA) (bu:Int→Int→Int→Hp→OA) (aT:Int→Int→Int→Int→Int→Int→Hp→OA) :Nat→Nat→Nat→Int→Sl→Sl→Int→Hp→OA
 | 0,_,_,_,_,_,_,_=>none
 | bo + 1,bU,cq,cd,cO,cb,dw,H16=>(Hp.ldSl H16 bU cq).bind fun s96=>(bif (decide (dw < (s96.n:Int))) then ((Hp.ldSl H16 bU cq).bind fun s97=>(Sl.idx s97 dw 5).bind fun p98=>(Hp.ldI H16 .i64 p98.1 p98.2).bind fun n99=>(Hp.ldI H16 .i64 p98.1 (p98.2 + 1)).bind fun n100=>(Hp.ldI H16 .i64 p98.1 (p98.2 + 2)).bind fun n101=>(Hp.ldI H16 .i64 p98.1 (p98.2 + 3)).bind fun n102=>(Hp.ldI H16 .i64 p98.1 (p98.2 + 4)).bind fun n103=>(Hp.new H16 [.int .i64 0,.int .i64 0,.int .i64 0,.int .i64 0,.int .i64 0]).bind fun H104=>(Hp.st H104 H16.length 0 (.int .i64 n99)).bind fun H105=>(Hp.st H105 H16.length (0 + 1) (.int .i64 n100)).bind fun H106=>(Hp.st H106 H16.length (0 + 1 + 1) (.int .i64 n101)).bind fun H107=>(Hp.st H107 H16.length (0 + 1 + 1 + 1) (.int .i64 n102)).bind fun H108=>(Hp.st H108 H16.length (0 + 1 + 1 + 1 + 1) (.int .i64 n103)).bind fun H109=>(Hp.ldI H109 .i64 H16.length 4).bind fun n110=>(bif (n110 != 1) then ((Hp.ldI H109 .i64 H16.length 4).bind fun n111=>(bif (n111 != (-1)) then (some ((.bool false),H109)) else (au.l3927 F aS bu aT (au.l61 F aS bu aT bo) F bU cq cd cO cb dw H16.length 0 0 H109))) else (au.l3927 F aS bu aT (au.l61 F aS bu aT bo) F bU cq cd cO cb dw H16.length 0 0 H109))) else (some ((.bool true),H16)))
termination_by structural n=>n
noncomputable def au.twX (F:Nat) (aS:Int→Int→Int→Int→Int→Int→Hp→OA) (bu:Int→Int→Int→Hp→OA) (aT:Int→Int→Int→Int→Int→Int→Hp→OA) (aa:Sl) (ab:Int) (H:Hp):OA:=(Hp.new H [(.sl aa),(.int .i64 ab)]).bind fun H3=>(Hp.ldSl H3 H.length 0).bind fun s4=>(Hp.mk H3 [.bool false] 1 (IntKind.i64.wrap (2 * (s4.n:Int))) (IntKind.i64.wrap (2 * (s4.n:Int)))).bind fun m5=>(Hp.mk m5.2 [.bool false] 1 (IntKind.i64.wrap (2 * (s4.n:Int))) (IntKind.i64.wrap (2 * (s4.n:Int)))).bind fun m6=>au.l61 F aS bu aT F H.length 0 (IntKind.i64.wrap (2 * (s4.n:Int))) m5.1 m6.1 0 m6.2
noncomputable def au.tw (F:Nat) (aa:Sl) (ab:Int) (H:Hp):OA:=au.twX F (aV.tw F) (aY.tw F) (aW.tw F) aa ab H
noncomputable def au.code:Go.Code:=(Try.f104.body).getD .skip
noncomputable def au.lh61 (F:Nat) (aS:Int→Int→Int→Int→Int→Int→Hp→OA) (bu:Int→Int→Int→Hp→OA) (aT:Int→Int→Int→Int→Int→Int→Hp→OA) (ks:List Nat) (n:Nat) (tm:Tm) (H:Hp):OA:=match ks,tm 1,tm 3,tm 4,tm 5,tm 6 with
 | [],(.ptr bU cq),(.int .i64 cd),(.sl cO),(.sl cb),(.int .i64 dw)=>au.l61 F aS bu aT n bU cq cd cO cb dw H
 | _,_,_,_,_,_=>none
theorem au.lh61_inv {F:Nat} {aS:Int→Int→Int→Int→Int→Int→Hp→OA} {bu:Int→Int→Int→Hp→OA} {aT:Int→Int→Int→Int→Int→Int→Hp→OA} {ks:List Nat} {n:Nat} {tm:Tm} {H:Hp} {r:AV×Hp} (h:au.lh61 F aS bu aT ks n tm H = some r):∃ bU:Nat,∃ cq:Nat,∃ cd:Int,∃ cO:Sl,∃ cb:Sl,∃ dw:Int,ks = []∧tm 1 = (.ptr bU cq)∧tm 3 = (.int .i64 cd)∧tm 4 = (.sl cO)∧tm 5 = (.sl cb)∧tm 6 = (.int .i64 dw)∧au.l61 F aS bu aT n bU cq cd cO cb dw H = some r:=by
 unfold au.lh61 at h
 split at h
 ·exact ⟨_,_,_,_,_,_,rfl,by assumption,by assumption,by assumption,by assumption,by assumption,h⟩
 ·cases h
noncomputable def au.lh3927 (F:Nat) (aS:Int→Int→Int→Int→Int→Int→Hp→OA) (bu:Int→Int→Int→Hp→OA) (aT:Int→Int→Int→Int→Int→Int→Hp→OA) (ks:List Nat) (n:Nat) (tm:Tm) (H:Hp):OA:=match ks,tm 1,tm 3,tm 4,tm 5,tm 6,tm 7,tm 8 with
 | [bo],(.ptr dv eW),(.int .i64 cJ),(.sl eX),(.sl fj),(.int .i64 ck),(.ptr cN dV),(.int .i64 cX)=>au.l3927 F aS bu aT (au.l61 F aS bu aT bo) n dv eW cJ eX fj ck cN dV cX H
 | _,_,_,_,_,_,_,_=>none
theorem au.lh3927_inv {F:Nat} {aS:Int→Int→Int→Int→Int→Int→Hp→OA} {bu:Int→Int→Int→Hp→OA} {aT:Int→Int→Int→Int→Int→Int→Hp→OA} {ks:List Nat} {n:Nat} {tm:Tm} {H:Hp} {r:AV×Hp} (h:au.lh3927 F aS bu aT ks n tm H = some r):∃ bo:Nat,∃ dv:Nat,∃ eW:Nat,∃ cJ:Int,∃ eX:Sl,∃ fj:Sl,∃ ck:Int,∃ cN:Nat,∃ dV:Nat,∃ cX:Int,ks = [bo]∧tm 1 = (.ptr dv eW)∧tm 3 = (.int .i64 cJ)∧tm 4 = (.sl eX)∧tm 5 = (.sl fj)∧tm 6 = (.int .i64 ck)∧tm 7 = (.ptr cN dV)∧tm 8 = (.int .i64 cX)∧au.l3927 F aS bu aT (au.l61 F aS bu aT bo) n dv eW cJ eX fj ck cN dV cX H = some r:=by
 unfold au.lh3927 at h
 split at h
 ·exact ⟨_,_,_,_,_,_,_,_,_,_,rfl,by assumption,by assumption,by assumption,by assumption,by assumption,by assumption,by assumption,h⟩
 ·cases h
noncomputable def au.lh (F:Nat) (aS:Int→Int→Int→Int→Int→Int→Hp→OA) (bu:Int→Int→Int→Hp→OA) (aT:Int→Int→Int→Int→Int→Int→Hp→OA) (p:Nat) (ks:List Nat) (n:Nat) (tm:Tm) (H:Hp):OA:=bif p.beq 3927 then au.lh3927 F aS bu aT ks n tm H else (bif p.beq 61 then au.lh61 F aS bu aT ks n tm H else (none))
def au.pn:Nat→List Nat:=fun i=>(([(2,[])]:List (Nat×List Nat)).lookup i).getD []
def au.tb:Nat→List (List Nat):=fun i=>(([(2,[[],[0],[],[2],[0,1],[0,1,2,3,4]])]:List (Nat×List (List Nat))).lookup i).getD []
noncomputable def au.mk (g:Sl→Int→Hp→OA) (args:List AV) (H:Hp):OA:=match args with
 | [(.agg [(.sl aa),(.int .i64 ab)])]=>g aa ab H
 | _=>none
noncomputable def au.cs (F:Nat) (aS:Int→Int→Int→Int→Int→Int→Hp→OA) (bu:Int→Int→Int→Hp→OA) (aT:Int→Int→Int→Int→Int→Int→Hp→OA):List (FuncId×(List AV→Hp→OA)):=[(140,aV.mk aS),(65,aY.mk bu),(141,aW.mk aT)]
theorem au.loops (F:Nat) (aS:Int→Int→Int→Int→Int→Int→Hp→OA) (bu:Int→Int→Int→Hp→OA) (aT:Int→Int→Int→Int→Int→Int→Hp→OA):LoopsOk tabs (mkOrc (au.cs F aS bu aT)) au.pn (au.lh F aS bu aT) F [] 1 au.code (fun tm H=>aresults tabs.ty H tm Try.f104.results.toList fun v=>some (v,H)) (fun _ _ _=>none) (fun tm H=>aresults tabs.ty H tm Try.f104.results.toList fun v=>some (v,H)):=by
 refine LoopsOk.seq ?_ ?_
 ·exact loops_none (by kernel_rfl)
 ·refine LoopsOk.seq ?_ ?_
  ·exact loops_none (by kernel_rfl)
  ·refine LoopsOk.seq ?_ ?_
   ·exact loops_none (by kernel_rfl)
   ·refine LoopsOk.seq ?_ ?_
    ·refine LoopsOk.seq ?_ ?_
     ·exact loops_none (by kernel_rfl)
     ·refine LoopsOk.block ?_
      refine LoopsOk.loop (fun tm H=>?_) (fun k61 tm H r h0=>?_) (fun k61=>?_)
      ·refine none_of fun r h0=>?_
       obtain ⟨bU,cq,cd,cO,cb,dw,hks,e1,e3,e4,e5,e6,h⟩:=au.lh61_inv (show au.lh61 F aS bu aT [] 0 tm H = some r from h0)
       cases h
      ·obtain ⟨bU,cq,cd,cO,cb,dw,hks,e1,e3,e4,e5,e6,h⟩:=au.lh61_inv (show au.lh61 F aS bu aT [] (k61 + 1) tm H = some r from h0)
       have q0:(Tm.put tm 1 (.ptr bU cq)) = tm:=by exact Tm.put_same e1
       have q1:(Tm.put (Tm.put tm 1 (.ptr bU cq)) 3 (.int .i64 cd)) = tm:=by rw [q0]; exact Tm.put_same e3
       have q2:(Tm.put (Tm.put (Tm.put tm 1 (.ptr bU cq)) 3 (.int .i64 cd)) 4 (.sl cO)) = tm:=by rw [q1]; exact Tm.put_same e4
       have q3:(Tm.put (Tm.put (Tm.put (Tm.put tm 1 (.ptr bU cq)) 3 (.int .i64 cd)) 4 (.sl cO)) 5 (.sl cb)) = tm:=by rw [q2]; exact Tm.put_same e5
       have q4:(Tm.put (Tm.put (Tm.put (Tm.put (Tm.put tm 1 (.ptr bU cq)) 3 (.int .i64 cd)) 4 (.sl cO)) 5 (.sl cb)) 6 (.int .i64 dw)) = tm:=by rw [q3]; exact Tm.put_same e6
       rw [← q4]
       exact Eq.trans (by kernel_rfl) h
      ·refine LoopsOk.seq ?_ ?_
       ·exact loops_none (by kernel_rfl)
       ·refine LoopsOk.seq ?_ ?_
        ·refine LoopsOk.block ?_
         refine LoopsOk.seq ?_ ?_
         ·exact loops_none (by kernel_rfl)
         ·refine LoopsOk.seq ?_ ?_
          ·exact loops_none (by kernel_rfl)
          ·refine LoopsOk.seq ?_ ?_
           ·exact loops_none (by kernel_rfl)
           ·refine LoopsOk.block ?_
            refine LoopsOk.loop (fun tm H=>?_) (fun k3927 tm H r h0=>?_) (fun k3927=>?_)
            ·refine none_of fun r h0=>?_
             obtain ⟨bo,dv,eW,cJ,eX,fj,ck,cN,dV,cX,hks,e1,e3,e4,e5,e6,e7,e8,h⟩:=au.lh3927_inv (show au.lh3927 F aS bu aT [k61] 0 tm H = some r from h0)
             cases h
            ·obtain ⟨bo,dv,eW,cJ,eX,fj,ck,cN,dV,cX,hks,e1,e3,e4,e5,e6,e7,e8,h⟩:=au.lh3927_inv (show au.lh3927 F aS bu aT [k61] (k3927 + 1) tm H = some r from h0)
             obtain rfl:bo = k61:=by simpa [eq_comm] using hks
             have q0:(Tm.put tm 1 (.ptr dv eW)) = tm:=by exact Tm.put_same e1
             have q1:(Tm.put (Tm.put tm 1 (.ptr dv eW)) 3 (.int .i64 cJ)) = tm:=by rw [q0]; exact Tm.put_same e3
             have q2:(Tm.put (Tm.put (Tm.put tm 1 (.ptr dv eW)) 3 (.int .i64 cJ)) 4 (.sl eX)) = tm:=by rw [q1]; exact Tm.put_same e4
             have q3:(Tm.put (Tm.put (Tm.put (Tm.put tm 1 (.ptr dv eW)) 3 (.int .i64 cJ)) 4 (.sl eX)) 5 (.sl fj)) = tm:=by rw [q2]; exact Tm.put_same e5
             have q4:(Tm.put (Tm.put (Tm.put (Tm.put (Tm.put tm 1 (.ptr dv eW)) 3 (.int .i64 cJ)) 4 (.sl eX)) 5 (.sl fj)) 6 (.int .i64 ck)) = tm:=by rw [q3]; exact Tm.put_same e6
             have q5:(Tm.put (Tm.put (Tm.put (Tm.put (Tm.put (Tm.put tm 1 (.ptr dv eW)) 3 (.int .i64 cJ)) 4 (.sl eX)) 5 (.sl fj)) 6 (.int .i64 ck)) 7 (.ptr cN dV)) = tm:=by rw [q4]; exact Tm.put_same e7
             have q6:(Tm.put (Tm.put (Tm.put (Tm.put (Tm.put (Tm.put (Tm.put tm 1 (.ptr dv eW)) 3 (.int .i64 cJ)) 4 (.sl eX)) 5 (.sl fj)) 6 (.int .i64 ck)) 7 (.ptr cN dV)) 8 (.int .i64 cX)) = tm:=by rw [q5]; exact Tm.put_same e8
             rw [← q6]
             exact Eq.trans (by kernel_rfl) h
            ·exact loops_none (by kernel_rfl)
        ·exact loops_none (by kernel_rfl)
    ·exact loops_none (by kernel_rfl)
theorem au.eqX (F:Nat) (aS:Int→Int→Int→Int→Int→Int→Hp→OA) (bu:Int→Int→Int→Hp→OA) (aT:Int→Int→Int→Int→Int→Int→Hp→OA) (aa:Sl) (ab:Int) (H:Hp):aCode tabs (mkOrc (au.cs F aS bu aT)) au.pn (au.lh F aS bu aT) F [] 1 au.code (argTm [(.agg [(.sl aa),(.int .i64 ab)])]) H (fun tm H=>aresults tabs.ty H tm Try.f104.results.toList fun v=>some (v,H)) (fun _ _ _=>none) (fun tm H=>aresults tabs.ty H tm Try.f104.results.toList fun v=>some (v,H)) = au.twX F aS bu aT aa ab H:=by kernel_rfl
theorem au.cs_ok (F:Nat):∀ p ∈ au.cs F (aV.tw F) (aY.tw F) (aW.tw F),∀ args H v H',p.2 args H = some (v,H')→Go.AE.T Try.prog p.1 args H v H':=by
 intro p hp
 simp only [au.cs,List.mem_cons,List.not_mem_nil,or_false] at hp
 rcases hp with rfl | rfl | rfl
 ·exact fun args H v H' h=>aV.mk_T h
 ·exact fun args H v H' h=>aY.mk_T h
 ·exact fun args H v H' h=>aW.mk_T h
theorem au.ok:codeOk au.pn Try.f104.ntmps au.tb au.code = true:=by kernel_rfl
theorem au.T {F:Nat} {aa:Sl} {ab:Int} {H:Hp} {v:AV} {H':Hp} (h:au.tw F aa ab H = some (v,H')):Go.AE.T Try.prog 104 [(.agg [(.sl aa),(.int .i64 ab)])] H v H':=
 Go.AE.T.of (Y:=tabs) (C:=mkOrc (au.cs F (aV.tw F) (aY.tw F) (aW.tw F))) (PN:=au.pn) (LH:=au.lh F (aV.tw F) (aY.tw F) (aW.tw F)) (F:=F) (TB:=au.tb) (fn:=Try.f104) (code:=au.code) mixed tabs_ok (mkOrc_ok (au.cs_ok F)) Try.func104 (by kernel_rfl) (by kernel_rfl) au.ok (Nat.le_of_ble_eq_true (by kernel_rfl)) (au.loops F (aV.tw F) (aY.tw F) (aW.tw F)) (Eq.trans (au.eqX F (aV.tw F) (aY.tw F) (aW.tw F) aa ab H) h)
theorem au.mk_T {F:Nat} {args:List AV} {H:Hp} {v:AV} {H':Hp} (h:au.mk (au.tw F) args H = some (v,H')):Go.AE.T Try.prog 104 args H v H':=by
 unfold au.mk at h
 split at h
 ·exact au.T h
 ·cases h
noncomputable def ak.j3 (F:Nat) (aS:Int→Int→Int→Int→Int→Int→Hp→OA) (aT:Int→Int→Int→Int→Int→Int→Hp→OA) (C13_:Int→Bool→Nat→Nat→Int→Hp→OA) (iY:Int) (jW:Bool) (jX:Nat) (Dl:Nat) (jY:Int) (H147:Hp):OA:=C13_ iY jW jX Dl (IntKind.i64.wrap (jY + 1)) H147
noncomputable def ak.j4 (F:Nat) (aS:Int→Int→Int→Int→Int→Int→Hp→OA) (aT:Int→Int→Int→Int→Int→Int→Hp→OA) (C13_:Int→Bool→Nat→Nat→Int→Hp→OA) (jZ:Int) (j_:Bool) (oV:Nat) (Dm:Nat) (ka:Int) (H134:Hp):OA:=ak.j3 F aS aT C13_ jZ j_ oV Dm ka H134
noncomputable def ak.l213 (F:Nat) (aS:Int→Int→Int→Int→Int→Int→Hp→OA) (aT:Int→Int→Int→Int→Int→Int→Hp→OA) (C13_:Int→Bool→Nat→Nat→Int→Hp→OA):Nat→Int→Bool→Nat→Nat→Int→Int→Hp→OA
 | 0,_,_,_,_,_,_,_=>none
 | wt + 1,cP,cU,eb,fv,cK,cQ,H103=>(bif (decide (cQ < 4)) then ((Hp.ldSl H103 eb fv).bind fun s148=>(Sl.idx s148 cK 5).bind fun p149=>(Hp.ldI H103 .i64 p149.1 p149.2).bind fun n150=>(Hp.ldI H103 .i64 p149.1 (p149.2 + 1)).bind fun n151=>(Hp.ldI H103 .i64 p149.1 (p149.2 + 2)).bind fun n152=>(Hp.ldI H103 .i64 p149.1 (p149.2 + 3)).bind fun n153=>(Hp.ldI H103 .i64 p149.1 (p149.2 + 4)).bind fun n154=>(aS n150 n151 n152 n153 n154 cQ H103).bind fun r155=>((r155.1).asI .i64).bind fun n156=>(bif (n156 == cP) then ((Hp.ldSl r155.2 eb fv).bind fun s157=>(Sl.idx s157 cK 5).bind fun p158=>(Hp.ldI r155.2 .i64 p158.1 p158.2).bind fun n159=>(Hp.ldI r155.2 .i64 p158.1 (p158.2 + 1)).bind fun n160=>(Hp.ldI r155.2 .i64 p158.1 (p158.2 + 2)).bind fun n161=>(Hp.ldI r155.2 .i64 p158.1 (p158.2 + 3)).bind fun n162=>(Hp.ldI r155.2 .i64 p158.1 (p158.2 + 4)).bind fun n163=>(aT n159 n160 n161 n162 n163 cQ r155.2).bind fun r164=>((r164.1).asB).bind fun b165=>(bif (b165 == cU) then (some ((.tup [(.int .i64 cK),(.int .i64 cQ)]),r164.2)) else (ak.l213 F aS aT C13_ wt cP cU eb fv cK (IntKind.i64.wrap (cQ + 1)) r164.2))) else (ak.l213 F aS aT C13_ wt cP cU eb fv cK (IntKind.i64.wrap (cQ + 1)) r155.2))) else (ak.j4 F aS aT C13_ cP cU eb fv cK H103))
termination_by structural n=>n
noncomputable def ak.l13 (F:Nat) (aS:Int→Int→Int→Int→Int→Int→Hp→OA) (aT:Int→Int→Int→Int→Int→Int→Hp→OA) :Nat→Int→Bool→Nat→Nat→Int→Hp→OA
 | 0,_,_,_,_,_,_=>none
 | gM + 1,cl,eK,cv,cm,eL,H15=>(Hp.ldSl H15 cv cm).bind fun s91=>(bif (decide (eL < (s91.n:Int))) then (ak.l213 F aS aT (ak.l13 F aS aT gM) F cl eK cv cm eL 0 H15) else (some ((.tup [(.int .i64 (-1)),(.int .i64 (-1))]),H15)))
termination_by structural n=>n
noncomputable def ak.twX (F:Nat) (aS:Int→Int→Int→Int→Int→Int→Hp→OA) (aT:Int→Int→Int→Int→Int→Int→Hp→OA) (aa:Sl) (ab:Int) (ah:Int) (bb:Bool) (H:Hp):OA:=(Hp.new H [(.sl aa),(.int .i64 ab)]).bind fun H5=>ak.l13 F aS aT F ah bb H.length 0 0 H5
noncomputable def ak.tw (F:Nat) (aa:Sl) (ab:Int) (ah:Int) (bb:Bool) (H:Hp):OA:=ak.twX F (aV.tw F) (aW.tw F) aa ab ah bb H
noncomputable def ak.code:Go.Code:=(Try.f152.body).getD .skip
noncomputable def ak.lh13 (F:Nat) (aS:Int→Int→Int→Int→Int→Int→Hp→OA) (aT:Int→Int→Int→Int→Int→Int→Hp→OA) (ks:List Nat) (n:Nat) (tm:Tm) (H:Hp):OA:=match ks,tm 1,tm 2,tm 3,tm 8 with
 | [],(.int .i64 cl),(.bool eK),(.ptr cv cm),(.int .i64 eL)=>ak.l13 F aS aT n cl eK cv cm eL H
 | _,_,_,_,_=>none
theorem ak.lh13_inv {F:Nat} {aS:Int→Int→Int→Int→Int→Int→Hp→OA} {aT:Int→Int→Int→Int→Int→Int→Hp→OA} {ks:List Nat} {n:Nat} {tm:Tm} {H:Hp} {r:AV×Hp} (h:ak.lh13 F aS aT ks n tm H = some r):∃ cl:Int,∃ eK:Bool,∃ cv:Nat,∃ cm:Nat,∃ eL:Int,ks = []∧tm 1 = (.int .i64 cl)∧tm 2 = (.bool eK)∧tm 3 = (.ptr cv cm)∧tm 8 = (.int .i64 eL)∧ak.l13 F aS aT n cl eK cv cm eL H = some r:=by
 unfold ak.lh13 at h
 split at h
 ·exact ⟨_,_,_,_,_,rfl,by assumption,by assumption,by assumption,by assumption,h⟩
 ·cases h
noncomputable def ak.lh213 (F:Nat) (aS:Int→Int→Int→Int→Int→Int→Hp→OA) (aT:Int→Int→Int→Int→Int→Int→Hp→OA) (ks:List Nat) (n:Nat) (tm:Tm) (H:Hp):OA:=match ks,tm 1,tm 2,tm 3,tm 8,tm 9 with
 | [gM],(.int .i64 cP),(.bool cU),(.ptr eb fv),(.int .i64 cK),(.int .i64 cQ)=>ak.l213 F aS aT (ak.l13 F aS aT gM) n cP cU eb fv cK cQ H
 | _,_,_,_,_,_=>none
theorem ak.lh213_inv {F:Nat} {aS:Int→Int→Int→Int→Int→Int→Hp→OA} {aT:Int→Int→Int→Int→Int→Int→Hp→OA} {ks:List Nat} {n:Nat} {tm:Tm} {H:Hp} {r:AV×Hp} (h:ak.lh213 F aS aT ks n tm H = some r):∃ gM:Nat,∃ cP:Int,∃ cU:Bool,∃ eb:Nat,∃ fv:Nat,∃ cK:Int,∃ cQ:Int,ks = [gM]∧tm 1 = (.int .i64 cP)∧tm 2 = (.bool cU)∧tm 3 = (.ptr eb fv)∧tm 8 = (.int .i64 cK)∧tm 9 = (.int .i64 cQ)∧ak.l213 F aS aT (ak.l13 F aS aT gM) n cP cU eb fv cK cQ H = some r:=by
 unfold ak.lh213 at h
 split at h
 ·exact ⟨_,_,_,_,_,_,_,rfl,by assumption,by assumption,by assumption,by assumption,by assumption,h⟩
 ·cases h
noncomputable def ak.lh (F:Nat) (aS:Int→Int→Int→Int→Int→Int→Hp→OA) (aT:Int→Int→Int→Int→Int→Int→Hp→OA) (p:Nat) (ks:List Nat) (n:Nat) (tm:Tm) (H:Hp):OA:=bif p.beq 213 then ak.lh213 F aS aT ks n tm H else (bif p.beq 13 then ak.lh13 F aS aT ks n tm H else (none))
def ak.pn:Nat→List Nat:=fun i=>(([]:List (Nat×List Nat)).lookup i).getD []
def ak.tb:Nat→List (List Nat):=fun i=>(([]:List (Nat×List (List Nat))).lookup i).getD []
noncomputable def ak.mk (g:Sl→Int→Int→Bool→Hp→OA) (args:List AV) (H:Hp):OA:=match args with
 | [(.agg [(.sl aa),(.int .i64 ab)]),(.int .i64 ah),(.bool bb)]=>g aa ab ah bb H
 | _=>none
noncomputable def ak.cs (F:Nat) (aS:Int→Int→Int→Int→Int→Int→Hp→OA) (aT:Int→Int→Int→Int→Int→Int→Hp→OA):List (FuncId×(List AV→Hp→OA)):=[(140,aV.mk aS),(141,aW.mk aT)]
theorem ak.loops (F:Nat) (aS:Int→Int→Int→Int→Int→Int→Hp→OA) (aT:Int→Int→Int→Int→Int→Int→Hp→OA):LoopsOk tabs (mkOrc (ak.cs F aS aT)) ak.pn (ak.lh F aS aT) F [] 1 ak.code (fun tm H=>aresults tabs.ty H tm Try.f152.results.toList fun v=>some (v,H)) (fun _ _ _=>none) (fun tm H=>aresults tabs.ty H tm Try.f152.results.toList fun v=>some (v,H)):=by
 refine LoopsOk.seq ?_ ?_
 ·exact loops_none (by kernel_rfl)
 ·refine LoopsOk.seq ?_ ?_
  ·refine LoopsOk.seq ?_ ?_
   ·exact loops_none (by kernel_rfl)
   ·refine LoopsOk.block ?_
    refine LoopsOk.loop (fun tm H=>?_) (fun k13 tm H r h0=>?_) (fun k13=>?_)
    ·refine none_of fun r h0=>?_
     obtain ⟨cl,eK,cv,cm,eL,hks,e1,e2,e3,e8,h⟩:=ak.lh13_inv (show ak.lh13 F aS aT [] 0 tm H = some r from h0)
     cases h
    ·obtain ⟨cl,eK,cv,cm,eL,hks,e1,e2,e3,e8,h⟩:=ak.lh13_inv (show ak.lh13 F aS aT [] (k13 + 1) tm H = some r from h0)
     have q0:(Tm.put tm 1 (.int .i64 cl)) = tm:=by exact Tm.put_same e1
     have q1:(Tm.put (Tm.put tm 1 (.int .i64 cl)) 2 (.bool eK)) = tm:=by rw [q0]; exact Tm.put_same e2
     have q2:(Tm.put (Tm.put (Tm.put tm 1 (.int .i64 cl)) 2 (.bool eK)) 3 (.ptr cv cm)) = tm:=by rw [q1]; exact Tm.put_same e3
     have q3:(Tm.put (Tm.put (Tm.put (Tm.put tm 1 (.int .i64 cl)) 2 (.bool eK)) 3 (.ptr cv cm)) 8 (.int .i64 eL)) = tm:=by rw [q2]; exact Tm.put_same e8
     rw [← q3]
     exact Eq.trans (by kernel_rfl) h
    ·refine LoopsOk.seq ?_ ?_
     ·exact loops_none (by kernel_rfl)
     ·refine LoopsOk.seq ?_ ?_
      ·refine LoopsOk.block ?_
       refine LoopsOk.seq ?_ ?_
       ·exact loops_none (by kernel_rfl)
       ·refine LoopsOk.block ?_
        refine LoopsOk.loop (fun tm H=>?_) (fun k213 tm H r h0=>?_) (fun k213=>?_)
        ·refine none_of fun r h0=>?_
         obtain ⟨gM,cP,cU,eb,fv,cK,cQ,hks,e1,e2,e3,e8,e9,h⟩:=ak.lh213_inv (show ak.lh213 F aS aT [k13] 0 tm H = some r from h0)
         cases h
        ·obtain ⟨gM,cP,cU,eb,fv,cK,cQ,hks,e1,e2,e3,e8,e9,h⟩:=ak.lh213_inv (show ak.lh213 F aS aT [k13] (k213 + 1) tm H = some r from h0)
         obtain rfl:gM = k13:=by simpa [eq_comm] using hks
         have q0:(Tm.put tm 1 (.int .i64 cP)) = tm:=by exact Tm.put_same e1
         have q1:(Tm.put (Tm.put tm 1 (.int .i64 cP)) 2 (.bool cU)) = tm:=by rw [q0]; exact Tm.put_same e2
         have q2:(Tm.put (Tm.put (Tm.put tm 1 (.int .i64 cP)) 2 (.bool cU)) 3 (.ptr eb fv)) = tm:=by rw [q1]; exact Tm.put_same e3
         have q3:(Tm.put (Tm.put (Tm.put (Tm.put tm 1 (.int .i64 cP)) 2 (.bool cU)) 3 (.ptr eb fv)) 8 (.int .i64 cK)) = tm:=by rw [q2]; exact Tm.put_same e8
         have q4:(Tm.put (Tm.put (Tm.put (Tm.put (Tm.put tm 1 (.int .i64 cP)) 2 (.bool cU)) 3 (.ptr eb fv)) 8 (.int .i64 cK)) 9 (.int .i64 cQ)) = tm:=by rw [q3]; exact Tm.put_same e9
         rw [← q4]
         exact Eq.trans (by kernel_rfl) h
        ·exact loops_none (by kernel_rfl)
      ·exact loops_none (by kernel_rfl)
  ·exact loops_none (by kernel_rfl)
theorem ak.eqX (F:Nat) (aS:Int→Int→Int→Int→Int→Int→Hp→OA) (aT:Int→Int→Int→Int→Int→Int→Hp→OA) (aa:Sl) (ab:Int) (ah:Int) (bb:Bool) (H:Hp):aCode tabs (mkOrc (ak.cs F aS aT)) ak.pn (ak.lh F aS aT) F [] 1 ak.code (argTm [(.agg [(.sl aa),(.int .i64 ab)]),(.int .i64 ah),(.bool bb)]) H (fun tm H=>aresults tabs.ty H tm Try.f152.results.toList fun v=>some (v,H)) (fun _ _ _=>none) (fun tm H=>aresults tabs.ty H tm Try.f152.results.toList fun v=>some (v,H)) = ak.twX F aS aT aa ab ah bb H:=by kernel_rfl
theorem ak.cs_ok (F:Nat):∀ p ∈ ak.cs F (aV.tw F) (aW.tw F),∀ args H v H',p.2 args H = some (v,H')→Go.AE.T Try.prog p.1 args H v H':=by
 intro p hp
 simp only [ak.cs,List.mem_cons,List.not_mem_nil,or_false] at hp
 rcases hp with rfl | rfl
 ·exact fun args H v H' h=>aV.mk_T h
 ·exact fun args H v H' h=>aW.mk_T h
theorem ak.ok:codeOk ak.pn Try.f152.ntmps ak.tb ak.code = true:=by kernel_rfl
theorem ak.T {F:Nat} {aa:Sl} {ab:Int} {ah:Int} {bb:Bool} {H:Hp} {v:AV} {H':Hp} (h:ak.tw F aa ab ah bb H = some (v,H')):Go.AE.T Try.prog 152 [(.agg [(.sl aa),(.int .i64 ab)]),(.int .i64 ah),(.bool bb)] H v H':=
 Go.AE.T.of (Y:=tabs) (C:=mkOrc (ak.cs F (aV.tw F) (aW.tw F))) (PN:=ak.pn) (LH:=ak.lh F (aV.tw F) (aW.tw F)) (F:=F) (TB:=ak.tb) (fn:=Try.f152) (code:=ak.code) mixed tabs_ok (mkOrc_ok (ak.cs_ok F)) Try.func152 (by kernel_rfl) (by kernel_rfl) ak.ok (Nat.le_of_ble_eq_true (by kernel_rfl)) (ak.loops F (aV.tw F) (aW.tw F)) (Eq.trans (ak.eqX F (aV.tw F) (aW.tw F) aa ab ah bb H) h)
theorem ak.mk_T {F:Nat} {args:List AV} {H:Hp} {v:AV} {H':Hp} (h:ak.mk (ak.tw F) args H = some (v,H')):Go.AE.T Try.prog 152 args H v H':=by
 unfold ak.mk at h
 split at h
 ·exact ak.T h
 ·cases h
noncomputable def bp.twX (F:Nat) (aS:Int→Int→Int→Int→Int→Int→Hp→OA) (aT:Int→Int→Int→Int→Int→Int→Hp→OA) (bk:Sl→Int→Int→Bool→Hp→OA) (aa:Sl) (ab:Int) (ah:Int) (H:Hp):OA:=(Hp.new H [(.sl aa),(.int .i64 ab)]).bind fun H4=>(Hp.ldSl H4 H.length 0).bind fun s5=>(Sl.idx s5 (IntKind.i64.wrap (Int.tdiv ah 4)) 5).bind fun p6=>(Hp.ldI H4 .i64 p6.1 p6.2).bind fun n7=>(Hp.ldI H4 .i64 p6.1 (p6.2 + 1)).bind fun n8=>(Hp.ldI H4 .i64 p6.1 (p6.2 + 2)).bind fun n9=>(Hp.ldI H4 .i64 p6.1 (p6.2 + 3)).bind fun n10=>(Hp.ldI H4 .i64 p6.1 (p6.2 + 4)).bind fun n11=>(Hp.new H4 [.int .i64 0,.int .i64 0,.int .i64 0,.int .i64 0,.int .i64 0]).bind fun H12=>(Hp.st H12 H4.length 0 (.int .i64 n7)).bind fun H13=>(Hp.st H13 H4.length (0 + 1) (.int .i64 n8)).bind fun H14=>(Hp.st H14 H4.length (0 + 1 + 1) (.int .i64 n9)).bind fun H15=>(Hp.st H15 H4.length (0 + 1 + 1 + 1) (.int .i64 n10)).bind fun H16=>(Hp.st H16 H4.length (0 + 1 + 1 + 1 + 1) (.int .i64 n11)).bind fun H17=>(Hp.ldSl H17 H.length 0).bind fun s18=>(Hp.ldI H17 .i64 H.length (0 + 1)).bind fun n19=>(Hp.ldI H17 .i64 H4.length 0).bind fun n20=>(Hp.ldI H17 .i64 H4.length (0 + 1)).bind fun n21=>(Hp.ldI H17 .i64 H4.length (0 + 2)).bind fun n22=>(Hp.ldI H17 .i64 H4.length (0 + 3)).bind fun n23=>(Hp.ldI H17 .i64 H4.length (0 + 4)).bind fun n24=>(aS n20 n21 n22 n23 n24 (Int.tmod (IntKind.i64.wrap ((Int.tmod ah 4) + 1)) 4) H17).bind fun r25=>((r25.1).asI .i64).bind fun n26=>(if Cons H17 r25.2 then ((Hp.ldI r25.2 .i64 H4.length 0).bind fun n27=>(Hp.ldI r25.2 .i64 H4.length (0 + 1)).bind fun n28=>(Hp.ldI r25.2 .i64 H4.length (0 + 2)).bind fun n29=>(Hp.ldI r25.2 .i64 H4.length (0 + 3)).bind fun n30=>(Hp.ldI r25.2 .i64 H4.length (0 + 4)).bind fun n31=>(aT n27 n28 n29 n30 n31 (Int.tmod (IntKind.i64.wrap ((Int.tmod ah 4) + 1)) 4) r25.2).bind fun r32=>((r32.1).asB).bind fun b33=>(if Cons r25.2 r32.2 then ((bk s18 n19 n26 (!b33) r32.2).bind fun r34=>((r34.1).asTup 2).bind fun l35=>(l35[0]?).bind fun v36=>((v36).asI .i64).bind fun n37=>(l35[1]?).bind fun v38=>((v38).asI .i64).bind fun n39=>some ((.int .i64 (IntKind.i64.wrap ((IntKind.i64.wrap (4 * n37)) + n39))),r34.2)) else none)) else none)
noncomputable def bp.tw (F:Nat) (aa:Sl) (ab:Int) (ah:Int) (H:Hp):OA:=bp.twX F (aV.tw F) (aW.tw F) (ak.tw F) aa ab ah H
noncomputable def bp.code:Go.Code:=(Try.f142.body).getD .skip
noncomputable def bp.lh (F:Nat) (aS:Int→Int→Int→Int→Int→Int→Hp→OA) (aT:Int→Int→Int→Int→Int→Int→Hp→OA) (bk:Sl→Int→Int→Bool→Hp→OA) (p:Nat) (ks:List Nat) (n:Nat) (tm:Tm) (H:Hp):OA:=none
def bp.pn:Nat→List Nat:=fun i=>(([(3,[8])]:List (Nat×List Nat)).lookup i).getD []
def bp.tb:Nat→List (List Nat):=fun i=>(([(3,[[],[],[],[1,2],[],[],[1,2,3,4,5],[1,2,3,4,5,6],[0,1,2,3,4,5,6,7],[0,1,2,3,4,5,6,7,8],[0,1,2,3,4,5,6,7,8,9],[0,1,2,3,4,5,6,7,8,9],[0,1,2,3,4,5,6,7,8,9,10],[0,1,2,3,4,5,6,7,8,9,10,11,12]])]:List (Nat×List (List Nat))).lookup i).getD []
noncomputable def bp.mk (g:Sl→Int→Int→Hp→OA) (args:List AV) (H:Hp):OA:=match args with
 | [(.agg [(.sl aa),(.int .i64 ab)]),(.int .i64 ah)]=>g aa ab ah H
 | _=>none
noncomputable def bp.cs (F:Nat) (aS:Int→Int→Int→Int→Int→Int→Hp→OA) (aT:Int→Int→Int→Int→Int→Int→Hp→OA) (bk:Sl→Int→Int→Bool→Hp→OA):List (FuncId×(List AV→Hp→OA)):=[(140,aV.mk aS),(141,aW.mk aT),(152,ak.mk bk)]
theorem bp.loops (F:Nat) (aS:Int→Int→Int→Int→Int→Int→Hp→OA) (aT:Int→Int→Int→Int→Int→Int→Hp→OA) (bk:Sl→Int→Int→Bool→Hp→OA):LoopsOk tabs (mkOrc (bp.cs F aS aT bk)) bp.pn (bp.lh F aS aT bk) F [] 1 bp.code (fun tm H=>aresults tabs.ty H tm Try.f142.results.toList fun v=>some (v,H)) (fun _ _ _=>none) (fun tm H=>aresults tabs.ty H tm Try.f142.results.toList fun v=>some (v,H)):=by
 exact loops_none (by kernel_rfl)
theorem bp.eqX (F:Nat) (aS:Int→Int→Int→Int→Int→Int→Hp→OA) (aT:Int→Int→Int→Int→Int→Int→Hp→OA) (bk:Sl→Int→Int→Bool→Hp→OA) (aa:Sl) (ab:Int) (ah:Int) (H:Hp):aCode tabs (mkOrc (bp.cs F aS aT bk)) bp.pn (bp.lh F aS aT bk) F [] 1 bp.code (argTm [(.agg [(.sl aa),(.int .i64 ab)]),(.int .i64 ah)]) H (fun tm H=>aresults tabs.ty H tm Try.f142.results.toList fun v=>some (v,H)) (fun _ _ _=>none) (fun tm H=>aresults tabs.ty H tm Try.f142.results.toList fun v=>some (v,H)) = bp.twX F aS aT bk aa ab ah H:=by kernel_rfl
theorem bp.cs_ok (F:Nat):∀ p ∈ bp.cs F (aV.tw F) (aW.tw F) (ak.tw F),∀ args H v H',p.2 args H = some (v,H')→Go.AE.T Try.prog p.1 args H v H':=by
 intro p hp
 simp only [bp.cs,List.mem_cons,List.not_mem_nil,or_false] at hp
 rcases hp with rfl | rfl | rfl
 ·exact fun args H v H' h=>aV.mk_T h
 ·exact fun args H v H' h=>aW.mk_T h
 ·exact fun args H v H' h=>ak.mk_T h
theorem bp.ok:codeOk bp.pn Try.f142.ntmps bp.tb bp.code = true:=by kernel_rfl
theorem bp.T {F:Nat} {aa:Sl} {ab:Int} {ah:Int} {H:Hp} {v:AV} {H':Hp} (h:bp.tw F aa ab ah H = some (v,H')):Go.AE.T Try.prog 142 [(.agg [(.sl aa),(.int .i64 ab)]),(.int .i64 ah)] H v H':=
 Go.AE.T.of (Y:=tabs) (C:=mkOrc (bp.cs F (aV.tw F) (aW.tw F) (ak.tw F))) (PN:=bp.pn) (LH:=bp.lh F (aV.tw F) (aW.tw F) (ak.tw F)) (F:=F) (TB:=bp.tb) (fn:=Try.f142) (code:=bp.code) mixed tabs_ok (mkOrc_ok (bp.cs_ok F)) Try.func142 (by kernel_rfl) (by kernel_rfl) bp.ok (Nat.le_of_ble_eq_true (by kernel_rfl)) (bp.loops F (aV.tw F) (aW.tw F) (ak.tw F)) (Eq.trans (bp.eqX F (aV.tw F) (aW.tw F) (ak.tw F) aa ab ah H) h)
theorem bp.mk_T {F:Nat} {args:List AV} {H:Hp} {v:AV} {H':Hp} (h:bp.mk (bp.tw F) args H = some (v,H')):Go.AE.T Try.prog 142 args H v H':=by
 unfold bp.mk at h
 split at h
 ·exact bp.T h
 ·cases h
noncomputable def ai.j4 (F:Nat) (bS:Sl→Int→Int→Hp→OA) (C61_:Nat→Nat→Sl→Sl→Int→Hp→OA) (oW:Nat) (Dn:Nat) (Do:Sl) (Dp:Sl) (kb:Int) (H108:Hp):OA:=C61_ oW Dn Do Dp (IntKind.i64.wrap (kb + 1)) H108
noncomputable def ai.j5 (F:Nat) (bS:Sl→Int→Int→Hp→OA) (C61_:Nat→Nat→Sl→Sl→Int→Hp→OA) (oX:Nat) (Dq:Nat) (Dr:Sl) (Ds:Sl) (kd:Int) (H164:Hp):OA:=C61_ oX Dq Dr Ds (IntKind.i64.wrap (kd + 1)) H164
noncomputable def ai.j6 (F:Nat) (bS:Sl→Int→Int→Hp→OA) (C61_:Nat→Nat→Sl→Sl→Int→Hp→OA) (oY:Nat) (iY:Nat) (jX:Sl) (Dt:Sl) (ke:Int) (Du:Sl) (H147:Hp):OA:=(Hp.new H147 [(.sl Du)]).bind fun H148=>(Sl.row H148 (⟨some (H147.length,0),1,.ex 1⟩:Sl) 1).bind fun xs150=>(Hp.app H148 1 24 jX (⟨some (H147.length,0),1,.ex 1⟩:Sl).n xs150).bind fun a149=>ai.j5 F bS C61_ oY iY a149.1 Dt ke a149.2
noncomputable def ai.l7853 (F:Nat) (bS:Sl→Int→Int→Hp→OA) (C61_:Nat→Nat→Sl→Sl→Int→Hp→OA):Nat→Nat→Nat→Sl→Sl→Int→Sl→Int→Hp→OA
 | 0,_,_,_,_,_,_,_,_=>none
 | Dv + 1,dx,eY,fE,fw,ec,ck,cY,H122=>(Sl.idx fw cY 1).bind fun p165=>(Hp.ldB H122 p165.1 p165.2).bind fun b166=>(bif (!b166) then ((Sl.idx fw cY 1).bind fun p167=>(Hp.st H122 p167.1 p167.2 (.bool true)).bind fun H168=>(Hp.new H168 [(.int .i64 cY)]).bind fun H169=>(Sl.row H169 (⟨some (H168.length,0),1,.ex 1⟩:Sl) 1).bind fun xs171=>(Hp.app H169 1 8 ck (⟨some (H168.length,0),1,.ex 1⟩:Sl).n xs171).bind fun a170=>(Hp.ldSl a170.2 dx eY).bind fun s172=>(Hp.ldI a170.2 .i64 dx (eY + 1)).bind fun n173=>(bS s172 n173 cY a170.2).bind fun r174=>((r174.1).asI .i64).bind fun n175=>ai.l7853 F bS C61_ Dv dx eY fE fw ec a170.1 n175 r174.2) else (ai.j6 F bS C61_ dx eY fE fw ec ck H122))
termination_by structural n=>n
noncomputable def ai.l61 (F:Nat) (bS:Sl→Int→Int→Hp→OA) :Nat→Nat→Nat→Sl→Sl→Int→Hp→OA
 | 0,_,_,_,_,_,_=>none
 | bo + 1,bU,cq,cd,cO,cb,H15=>(bif (decide (cb < (cO.n:Int))) then ((Sl.idx cO cb 1).bind fun p96=>(Hp.ldB H15 p96.1 p96.2).bind fun b97=>(bif b97 then (ai.j4 F bS (ai.l61 F bS bo) bU cq cd cO cb H15) else ((Hp.new H15 []).bind fun H109=>ai.l7853 F bS (ai.l61 F bS bo) F bU cq cd cO cb (⟨some (H15.length,0),0,.ex 0⟩:Sl) cb H109))) else (some ((.sl cd),H15)))
termination_by structural n=>n
noncomputable def ai.twX (F:Nat) (bS:Sl→Int→Int→Hp→OA) (aa:Sl) (ab:Int) (H:Hp):OA:=(Hp.new H [(.sl aa),(.int .i64 ab)]).bind fun H3=>(Hp.new H3 []).bind fun H4=>(Hp.ldSl H4 H.length 0).bind fun s5=>(Hp.mk H4 [.bool false] 1 (IntKind.i64.wrap (4 * (s5.n:Int))) (IntKind.i64.wrap (4 * (s5.n:Int)))).bind fun m6=>ai.l61 F bS F H.length 0 (⟨some (H3.length,0),0,.ex 0⟩:Sl) m6.1 0 m6.2
noncomputable def ai.tw (F:Nat) (aa:Sl) (ab:Int) (H:Hp):OA:=ai.twX F (bp.tw F) aa ab H
noncomputable def ai.code:Go.Code:=(Try.f105.body).getD .skip
noncomputable def ai.lh61 (F:Nat) (bS:Sl→Int→Int→Hp→OA) (ks:List Nat) (n:Nat) (tm:Tm) (H:Hp):OA:=match ks,tm 1,tm 3,tm 4,tm 5 with
 | [],(.ptr bU cq),(.sl cd),(.sl cO),(.int .i64 cb)=>ai.l61 F bS n bU cq cd cO cb H
 | _,_,_,_,_=>none
theorem ai.lh61_inv {F:Nat} {bS:Sl→Int→Int→Hp→OA} {ks:List Nat} {n:Nat} {tm:Tm} {H:Hp} {r:AV×Hp} (h:ai.lh61 F bS ks n tm H = some r):∃ bU:Nat,∃ cq:Nat,∃ cd:Sl,∃ cO:Sl,∃ cb:Int,ks = []∧tm 1 = (.ptr bU cq)∧tm 3 = (.sl cd)∧tm 4 = (.sl cO)∧tm 5 = (.int .i64 cb)∧ai.l61 F bS n bU cq cd cO cb H = some r:=by
 unfold ai.lh61 at h
 split at h
 ·exact ⟨_,_,_,_,_,rfl,by assumption,by assumption,by assumption,by assumption,h⟩
 ·cases h
noncomputable def ai.lh7853 (F:Nat) (bS:Sl→Int→Int→Hp→OA) (ks:List Nat) (n:Nat) (tm:Tm) (H:Hp):OA:=match ks,tm 1,tm 3,tm 4,tm 5,tm 6,tm 7 with
 | [bo],(.ptr dx eY),(.sl fE),(.sl fw),(.int .i64 ec),(.sl ck),(.int .i64 cY)=>ai.l7853 F bS (ai.l61 F bS bo) n dx eY fE fw ec ck cY H
 | _,_,_,_,_,_,_=>none
theorem ai.lh7853_inv {F:Nat} {bS:Sl→Int→Int→Hp→OA} {ks:List Nat} {n:Nat} {tm:Tm} {H:Hp} {r:AV×Hp} (h:ai.lh7853 F bS ks n tm H = some r):∃ bo:Nat,∃ dx:Nat,∃ eY:Nat,∃ fE:Sl,∃ fw:Sl,∃ ec:Int,∃ ck:Sl,∃ cY:Int,ks = [bo]∧tm 1 = (.ptr dx eY)∧tm 3 = (.sl fE)∧tm 4 = (.sl fw)∧tm 5 = (.int .i64 ec)∧tm 6 = (.sl ck)∧tm 7 = (.int .i64 cY)∧ai.l7853 F bS (ai.l61 F bS bo) n dx eY fE fw ec ck cY H = some r:=by
 unfold ai.lh7853 at h
 split at h
 ·exact ⟨_,_,_,_,_,_,_,_,rfl,by assumption,by assumption,by assumption,by assumption,by assumption,by assumption,h⟩
 ·cases h
noncomputable def ai.lh (F:Nat) (bS:Sl→Int→Int→Hp→OA) (p:Nat) (ks:List Nat) (n:Nat) (tm:Tm) (H:Hp):OA:=bif p.beq 7853 then ai.lh7853 F bS ks n tm H else (bif p.beq 61 then ai.lh61 F bS ks n tm H else (none))
def ai.pn:Nat→List Nat:=fun i=>(([]:List (Nat×List Nat)).lookup i).getD []
def ai.tb:Nat→List (List Nat):=fun i=>(([]:List (Nat×List (List Nat))).lookup i).getD []
noncomputable def ai.mk (g:Sl→Int→Hp→OA) (args:List AV) (H:Hp):OA:=match args with
 | [(.agg [(.sl aa),(.int .i64 ab)])]=>g aa ab H
 | _=>none
noncomputable def ai.cs (F:Nat) (bS:Sl→Int→Int→Hp→OA):List (FuncId×(List AV→Hp→OA)):=[(142,bp.mk bS)]
theorem ai.loops (F:Nat) (bS:Sl→Int→Int→Hp→OA):LoopsOk tabs (mkOrc (ai.cs F bS)) ai.pn (ai.lh F bS) F [] 1 ai.code (fun tm H=>aresults tabs.ty H tm Try.f105.results.toList fun v=>some (v,H)) (fun _ _ _=>none) (fun tm H=>aresults tabs.ty H tm Try.f105.results.toList fun v=>some (v,H)):=by
 refine LoopsOk.seq ?_ ?_
 ·exact loops_none (by kernel_rfl)
 ·refine LoopsOk.seq ?_ ?_
  ·exact loops_none (by kernel_rfl)
  ·refine LoopsOk.seq ?_ ?_
   ·exact loops_none (by kernel_rfl)
   ·refine LoopsOk.seq ?_ ?_
    ·refine LoopsOk.seq ?_ ?_
     ·exact loops_none (by kernel_rfl)
     ·refine LoopsOk.block ?_
      refine LoopsOk.loop (fun tm H=>?_) (fun k61 tm H r h0=>?_) (fun k61=>?_)
      ·refine none_of fun r h0=>?_
       obtain ⟨bU,cq,cd,cO,cb,hks,e1,e3,e4,e5,h⟩:=ai.lh61_inv (show ai.lh61 F bS [] 0 tm H = some r from h0)
       cases h
      ·obtain ⟨bU,cq,cd,cO,cb,hks,e1,e3,e4,e5,h⟩:=ai.lh61_inv (show ai.lh61 F bS [] (k61 + 1) tm H = some r from h0)
       have q0:(Tm.put tm 1 (.ptr bU cq)) = tm:=by exact Tm.put_same e1
       have q1:(Tm.put (Tm.put tm 1 (.ptr bU cq)) 3 (.sl cd)) = tm:=by rw [q0]; exact Tm.put_same e3
       have q2:(Tm.put (Tm.put (Tm.put tm 1 (.ptr bU cq)) 3 (.sl cd)) 4 (.sl cO)) = tm:=by rw [q1]; exact Tm.put_same e4
       have q3:(Tm.put (Tm.put (Tm.put (Tm.put tm 1 (.ptr bU cq)) 3 (.sl cd)) 4 (.sl cO)) 5 (.int .i64 cb)) = tm:=by rw [q2]; exact Tm.put_same e5
       rw [← q3]
       exact Eq.trans (by kernel_rfl) h
      ·refine LoopsOk.seq ?_ ?_
       ·exact loops_none (by kernel_rfl)
       ·refine LoopsOk.seq ?_ ?_
        ·refine LoopsOk.block ?_
         refine LoopsOk.seq ?_ ?_
         ·exact loops_none (by kernel_rfl)
         ·refine LoopsOk.seq ?_ ?_
          ·exact loops_none (by kernel_rfl)
          ·refine LoopsOk.seq ?_ ?_
           ·refine LoopsOk.seq ?_ ?_
            ·exact loops_none (by kernel_rfl)
            ·refine LoopsOk.block ?_
             refine LoopsOk.loop (fun tm H=>?_) (fun k7853 tm H r h0=>?_) (fun k7853=>?_)
             ·refine none_of fun r h0=>?_
              obtain ⟨bo,dx,eY,fE,fw,ec,ck,cY,hks,e1,e3,e4,e5,e6,e7,h⟩:=ai.lh7853_inv (show ai.lh7853 F bS [k61] 0 tm H = some r from h0)
              cases h
             ·obtain ⟨bo,dx,eY,fE,fw,ec,ck,cY,hks,e1,e3,e4,e5,e6,e7,h⟩:=ai.lh7853_inv (show ai.lh7853 F bS [k61] (k7853 + 1) tm H = some r from h0)
              obtain rfl:bo = k61:=by simpa [eq_comm] using hks
              have q0:(Tm.put tm 1 (.ptr dx eY)) = tm:=by exact Tm.put_same e1
              have q1:(Tm.put (Tm.put tm 1 (.ptr dx eY)) 3 (.sl fE)) = tm:=by rw [q0]; exact Tm.put_same e3
              have q2:(Tm.put (Tm.put (Tm.put tm 1 (.ptr dx eY)) 3 (.sl fE)) 4 (.sl fw)) = tm:=by rw [q1]; exact Tm.put_same e4
              have q3:(Tm.put (Tm.put (Tm.put (Tm.put tm 1 (.ptr dx eY)) 3 (.sl fE)) 4 (.sl fw)) 5 (.int .i64 ec)) = tm:=by rw [q2]; exact Tm.put_same e5
              have q4:(Tm.put (Tm.put (Tm.put (Tm.put (Tm.put tm 1 (.ptr dx eY)) 3 (.sl fE)) 4 (.sl fw)) 5 (.int .i64 ec)) 6 (.sl ck)) = tm:=by rw [q3]; exact Tm.put_same e6
              have q5:(Tm.put (Tm.put (Tm.put (Tm.put (Tm.put (Tm.put tm 1 (.ptr dx eY)) 3 (.sl fE)) 4 (.sl fw)) 5 (.int .i64 ec)) 6 (.sl ck)) 7 (.int .i64 cY)) = tm:=by rw [q4]; exact Tm.put_same e7
              rw [← q5]
              exact Eq.trans (by kernel_rfl) h
             ·exact loops_none (by kernel_rfl)
           ·exact loops_none (by kernel_rfl)
        ·exact loops_none (by kernel_rfl)
    ·exact loops_none (by kernel_rfl)
theorem ai.eqX (F:Nat) (bS:Sl→Int→Int→Hp→OA) (aa:Sl) (ab:Int) (H:Hp):aCode tabs (mkOrc (ai.cs F bS)) ai.pn (ai.lh F bS) F [] 1 ai.code (argTm [(.agg [(.sl aa),(.int .i64 ab)])]) H (fun tm H=>aresults tabs.ty H tm Try.f105.results.toList fun v=>some (v,H)) (fun _ _ _=>none) (fun tm H=>aresults tabs.ty H tm Try.f105.results.toList fun v=>some (v,H)) = ai.twX F bS aa ab H:=by kernel_rfl
theorem ai.cs_ok (F:Nat):∀ p ∈ ai.cs F (bp.tw F),∀ args H v H',p.2 args H = some (v,H')→Go.AE.T Try.prog p.1 args H v H':=by
 intro p hp
 simp only [ai.cs,List.mem_cons,List.not_mem_nil,or_false] at hp
 subst hp
 exact fun args H v H' h=>bp.mk_T h
theorem ai.ok:codeOk ai.pn Try.f105.ntmps ai.tb ai.code = true:=by kernel_rfl
theorem ai.T {F:Nat} {aa:Sl} {ab:Int} {H:Hp} {v:AV} {H':Hp} (h:ai.tw F aa ab H = some (v,H')):Go.AE.T Try.prog 105 [(.agg [(.sl aa),(.int .i64 ab)])] H v H':=
 Go.AE.T.of (Y:=tabs) (C:=mkOrc (ai.cs F (bp.tw F))) (PN:=ai.pn) (LH:=ai.lh F (bp.tw F)) (F:=F) (TB:=ai.tb) (fn:=Try.f105) (code:=ai.code) mixed tabs_ok (mkOrc_ok (ai.cs_ok F)) Try.func105 (by kernel_rfl) (by kernel_rfl) ai.ok (Nat.le_of_ble_eq_true (by kernel_rfl)) (ai.loops F (bp.tw F)) (Eq.trans (ai.eqX F (bp.tw F) aa ab H) h)
theorem ai.mk_T {F:Nat} {args:List AV} {H:Hp} {v:AV} {H':Hp} (h:ai.mk (ai.tw F) args H = some (v,H')):Go.AE.T Try.prog 105 args H v H':=by
 unfold ai.mk at h
 split at h
 ·exact ai.T h
 ·cases h
noncomputable def ae.j6 (F:Nat) (bk:Sl→Int→Int→Bool→Hp→OA) (C61_:Nat→Nat→Sl→Int→Hp→OA) (oZ:Nat) (Dw:Nat) (Dx:Sl) (kf:Int) (H243:Hp):OA:=C61_ oZ Dw Dx (IntKind.i64.wrap (kf + 1)) H243
noncomputable def ae.j7 (F:Nat) (bk:Sl→Int→Int→Bool→Hp→OA) (C61_:Nat→Nat→Sl→Int→Hp→OA) (o_:Nat) (Dy:Nat) (kg:Sl) (iZ:Int) (H226:Hp):OA:=ae.j6 F bk C61_ o_ Dy kg iZ H226
noncomputable def ae.j8 (F:Nat) (bk:Sl→Int→Int→Bool→Hp→OA) (C7855_:Nat→Nat→Sl→Int→Int→Int→Int→Hp→OA) (pa:Nat) (Dz:Nat) (DA:Sl) (kh:Int) (ki:Int) (kj:Int) (kk:Int) (H265:Hp):OA:=C7855_ pa Dz DA kh ki kj (IntKind.i64.wrap (kk + 1)) H265
noncomputable def ae.l7855 (F:Nat) (bk:Sl→Int→Int→Bool→Hp→OA) (C61_:Nat→Nat→Sl→Int→Hp→OA):Nat→Nat→Nat→Sl→Int→Int→Int→Int→Hp→OA
 | 0,_,_,_,_,_,_,_,_=>none
 | wu + 1,dW,fk,eM,dh,cw,cL,cZ,H187=>(bif (decide (cZ < (eM.n:Int))) then ((Sl.idx eM cZ 1).bind fun p244=>(Hp.ldI H187 .i64 p244.1 p244.2).bind fun n245=>(bif (n245 == (if cL > cw then cL else cw)) then ((Sl.idx eM cZ 1).bind fun p246=>(Hp.st H187 p246.1 p246.2 (.int .i64 (if cL < cw then cL else cw))).bind fun H247=>ae.j8 F bk (ae.l7855 F bk C61_ wu) dW fk eM dh cw cL cZ H247) else (ae.j8 F bk (ae.l7855 F bk C61_ wu) dW fk eM dh cw cL cZ H187))) else (ae.j7 F bk C61_ dW fk eM dh H187))
termination_by structural n=>n
noncomputable def ae.l61 (F:Nat) (bk:Sl→Int→Int→Bool→Hp→OA) :Nat→Nat→Nat→Sl→Int→Hp→OA
 | 0,_,_,_,_,_=>none
 | bo + 1,dX,fl,fS,dy,H35=>(Hp.ldSl H35 dX fl).bind fun s151=>(bif (decide (dy < (IntKind.i64.wrap (2 * (s151.n:Int))))) then ((Hp.ldSl H35 dX fl).bind fun s152=>(Hp.ldI H35 .i64 dX (fl + 1)).bind fun n153=>(bk s152 n153 dy true H35).bind fun r154=>((r154.1).asTup 2).bind fun l155=>(l155[0]?).bind fun v156=>((v156).asI .i64).bind fun n157=>(l155[1]?).bind fun v158=>((v158).asI .i64).bind fun n159=>(Hp.ldSl r154.2 dX fl).bind fun s160=>(Hp.ldI r154.2 .i64 dX (fl + 1)).bind fun n161=>(bk s160 n161 dy false r154.2).bind fun r162=>((r162.1).asTup 2).bind fun l163=>(l163[0]?).bind fun v164=>((v164).asI .i64).bind fun n165=>(l163[1]?).bind fun v166=>((v166).asI .i64).bind fun n167=>(Sl.idx fS n157 1).bind fun p168=>(Hp.ldI r162.2 .i64 p168.1 p168.2).bind fun n169=>(Sl.idx fS n165 1).bind fun p170=>(Hp.ldI r162.2 .i64 p170.1 p170.2).bind fun n171=>ae.l7855 F bk (ae.l61 F bk bo) F dX fl fS dy n169 n171 0 r162.2) else (some ((.sl fS),H35)))
termination_by structural n=>n
noncomputable def ae.j9 (F:Nat) (bk:Sl→Int→Int→Bool→Hp→OA) (pb:Nat) (DB:Nat) (DC:Sl) (H25:Hp):OA:=ae.l61 F bk F pb DB DC 0 H25
noncomputable def ae.l29 (F:Nat) (bk:Sl→Int→Int→Bool→Hp→OA) :Nat→Nat→Nat→Sl→Int→Hp→OA
 | 0,_,_,_,_,_=>none
 | es + 1,eN,cl,cv,dz,H12=>(Hp.ldSl H12 eN cl).bind fun s266=>(bif (decide (dz < (s266.n:Int))) then ((Hp.new H12 [(.int .i64 dz)]).bind fun H267=>(Sl.row H267 (⟨some (H12.length,0),1,.ex 1⟩:Sl) 1).bind fun xs269=>(Hp.app H267 1 8 cv (⟨some (H12.length,0),1,.ex 1⟩:Sl).n xs269).bind fun a268=>ae.l29 F bk es eN cl a268.1 (IntKind.i64.wrap (dz + 1)) a268.2) else (ae.j9 F bk eN cl cv H12))
termination_by structural n=>n
noncomputable def ae.twX (F:Nat) (bk:Sl→Int→Int→Bool→Hp→OA) (aa:Sl) (ab:Int) (H:Hp):OA:=(Hp.new H [(.sl aa),(.int .i64 ab)]).bind fun H3=>(Hp.new H3 []).bind fun H4=>ae.l29 F bk F H.length 0 (⟨some (H3.length,0),0,.ex 0⟩:Sl) 0 H4
noncomputable def ae.tw (F:Nat) (aa:Sl) (ab:Int) (H:Hp):OA:=ae.twX F (ak.tw F) aa ab H
noncomputable def ae.code:Go.Code:=(Try.f122.body).getD .skip
noncomputable def ae.lh29 (F:Nat) (bk:Sl→Int→Int→Bool→Hp→OA) (ks:List Nat) (n:Nat) (tm:Tm) (H:Hp):OA:=match ks,tm 1,tm 3,tm 4 with
 | [],(.ptr eN cl),(.sl cv),(.int .i64 dz)=>ae.l29 F bk n eN cl cv dz H
 | _,_,_,_=>none
theorem ae.lh29_inv {F:Nat} {bk:Sl→Int→Int→Bool→Hp→OA} {ks:List Nat} {n:Nat} {tm:Tm} {H:Hp} {r:AV×Hp} (h:ae.lh29 F bk ks n tm H = some r):∃ eN:Nat,∃ cl:Nat,∃ cv:Sl,∃ dz:Int,ks = []∧tm 1 = (.ptr eN cl)∧tm 3 = (.sl cv)∧tm 4 = (.int .i64 dz)∧ae.l29 F bk n eN cl cv dz H = some r:=by
 unfold ae.lh29 at h
 split at h
 ·exact ⟨_,_,_,_,rfl,by assumption,by assumption,by assumption,h⟩
 ·cases h
noncomputable def ae.lh61 (F:Nat) (bk:Sl→Int→Int→Bool→Hp→OA) (ks:List Nat) (n:Nat) (tm:Tm) (H:Hp):OA:=match ks,tm 1,tm 3,tm 5 with
 | [],(.ptr dX fl),(.sl fS),(.int .i64 dy)=>ae.l61 F bk n dX fl fS dy H
 | _,_,_,_=>none
theorem ae.lh61_inv {F:Nat} {bk:Sl→Int→Int→Bool→Hp→OA} {ks:List Nat} {n:Nat} {tm:Tm} {H:Hp} {r:AV×Hp} (h:ae.lh61 F bk ks n tm H = some r):∃ dX:Nat,∃ fl:Nat,∃ fS:Sl,∃ dy:Int,ks = []∧tm 1 = (.ptr dX fl)∧tm 3 = (.sl fS)∧tm 5 = (.int .i64 dy)∧ae.l61 F bk n dX fl fS dy H = some r:=by
 unfold ae.lh61 at h
 split at h
 ·exact ⟨_,_,_,_,rfl,by assumption,by assumption,by assumption,h⟩
 ·cases h
noncomputable def ae.lh7855 (F:Nat) (bk:Sl→Int→Int→Bool→Hp→OA) (ks:List Nat) (n:Nat) (tm:Tm) (H:Hp):OA:=match ks,tm 1,tm 3,tm 5,tm 10,tm 11,tm 12 with
 | [bo],(.ptr dW fk),(.sl eM),(.int .i64 dh),(.int .i64 cw),(.int .i64 cL),(.int .i64 cZ)=>ae.l7855 F bk (ae.l61 F bk bo) n dW fk eM dh cw cL cZ H
 | _,_,_,_,_,_,_=>none
theorem ae.lh7855_inv {F:Nat} {bk:Sl→Int→Int→Bool→Hp→OA} {ks:List Nat} {n:Nat} {tm:Tm} {H:Hp} {r:AV×Hp} (h:ae.lh7855 F bk ks n tm H = some r):∃ bo:Nat,∃ dW:Nat,∃ fk:Nat,∃ eM:Sl,∃ dh:Int,∃ cw:Int,∃ cL:Int,∃ cZ:Int,ks = [bo]∧tm 1 = (.ptr dW fk)∧tm 3 = (.sl eM)∧tm 5 = (.int .i64 dh)∧tm 10 = (.int .i64 cw)∧tm 11 = (.int .i64 cL)∧tm 12 = (.int .i64 cZ)∧ae.l7855 F bk (ae.l61 F bk bo) n dW fk eM dh cw cL cZ H = some r:=by
 unfold ae.lh7855 at h
 split at h
 ·exact ⟨_,_,_,_,_,_,_,_,rfl,by assumption,by assumption,by assumption,by assumption,by assumption,by assumption,h⟩
 ·cases h
noncomputable def ae.lh (F:Nat) (bk:Sl→Int→Int→Bool→Hp→OA) (p:Nat) (ks:List Nat) (n:Nat) (tm:Tm) (H:Hp):OA:=bif p.beq 7855 then ae.lh7855 F bk ks n tm H else (bif p.beq 61 then ae.lh61 F bk ks n tm H else (bif p.beq 29 then ae.lh29 F bk ks n tm H else (none)))
def ae.pn:Nat→List Nat:=fun i=>(([(11,[])]:List (Nat×List Nat)).lookup i).getD []
def ae.tb:Nat→List (List Nat):=fun i=>(([(11,[[],[],[0,1],[0,1,2],[],[],[4,5],[4,5,6],[0,1,2,3],[0,1,2,3,4,5,6,7,8]])]:List (Nat×List (List Nat))).lookup i).getD []
noncomputable def ae.mk (g:Sl→Int→Hp→OA) (args:List AV) (H:Hp):OA:=match args with
 | [(.agg [(.sl aa),(.int .i64 ab)])]=>g aa ab H
 | _=>none
noncomputable def ae.cs (F:Nat) (bk:Sl→Int→Int→Bool→Hp→OA):List (FuncId×(List AV→Hp→OA)):=[(152,ak.mk bk)]
theorem ae.loops (F:Nat) (bk:Sl→Int→Int→Bool→Hp→OA):LoopsOk tabs (mkOrc (ae.cs F bk)) ae.pn (ae.lh F bk) F [] 1 ae.code (fun tm H=>aresults tabs.ty H tm Try.f122.results.toList fun v=>some (v,H)) (fun _ _ _=>none) (fun tm H=>aresults tabs.ty H tm Try.f122.results.toList fun v=>some (v,H)):=by
 refine LoopsOk.seq ?_ ?_
 ·exact loops_none (by kernel_rfl)
 ·refine LoopsOk.seq ?_ ?_
  ·exact loops_none (by kernel_rfl)
  ·refine LoopsOk.seq ?_ ?_
   ·refine LoopsOk.seq ?_ ?_
    ·exact loops_none (by kernel_rfl)
    ·refine LoopsOk.block ?_
     refine LoopsOk.loop (fun tm H=>?_) (fun k29 tm H r h0=>?_) (fun k29=>?_)
     ·refine none_of fun r h0=>?_
      obtain ⟨eN,cl,cv,dz,hks,e1,e3,e4,h⟩:=ae.lh29_inv (show ae.lh29 F bk [] 0 tm H = some r from h0)
      cases h
     ·obtain ⟨eN,cl,cv,dz,hks,e1,e3,e4,h⟩:=ae.lh29_inv (show ae.lh29 F bk [] (k29 + 1) tm H = some r from h0)
      have q0:(Tm.put tm 1 (.ptr eN cl)) = tm:=by exact Tm.put_same e1
      have q1:(Tm.put (Tm.put tm 1 (.ptr eN cl)) 3 (.sl cv)) = tm:=by rw [q0]; exact Tm.put_same e3
      have q2:(Tm.put (Tm.put (Tm.put tm 1 (.ptr eN cl)) 3 (.sl cv)) 4 (.int .i64 dz)) = tm:=by rw [q1]; exact Tm.put_same e4
      rw [← q2]
      exact Eq.trans (by kernel_rfl) h
     ·exact loops_none (by kernel_rfl)
   ·refine LoopsOk.seq ?_ ?_
    ·refine LoopsOk.seq ?_ ?_
     ·exact loops_none (by kernel_rfl)
     ·refine LoopsOk.block ?_
      refine LoopsOk.loop (fun tm H=>?_) (fun k61 tm H r h0=>?_) (fun k61=>?_)
      ·refine none_of fun r h0=>?_
       obtain ⟨dX,fl,fS,dy,hks,e1,e3,e5,h⟩:=ae.lh61_inv (show ae.lh61 F bk [] 0 tm H = some r from h0)
       cases h
      ·obtain ⟨dX,fl,fS,dy,hks,e1,e3,e5,h⟩:=ae.lh61_inv (show ae.lh61 F bk [] (k61 + 1) tm H = some r from h0)
       have q0:(Tm.put tm 1 (.ptr dX fl)) = tm:=by exact Tm.put_same e1
       have q1:(Tm.put (Tm.put tm 1 (.ptr dX fl)) 3 (.sl fS)) = tm:=by rw [q0]; exact Tm.put_same e3
       have q2:(Tm.put (Tm.put (Tm.put tm 1 (.ptr dX fl)) 3 (.sl fS)) 5 (.int .i64 dy)) = tm:=by rw [q1]; exact Tm.put_same e5
       rw [← q2]
       exact Eq.trans (by kernel_rfl) h
      ·refine LoopsOk.seq ?_ ?_
       ·exact loops_none (by kernel_rfl)
       ·refine LoopsOk.seq ?_ ?_
        ·refine LoopsOk.block ?_
         refine LoopsOk.seq ?_ ?_
         ·exact loops_none (by kernel_rfl)
         ·refine LoopsOk.seq ?_ ?_
          ·exact loops_none (by kernel_rfl)
          ·refine LoopsOk.seq ?_ ?_
           ·exact loops_none (by kernel_rfl)
           ·refine LoopsOk.seq ?_ ?_
            ·exact loops_none (by kernel_rfl)
            ·refine LoopsOk.block ?_
             refine LoopsOk.loop (fun tm H=>?_) (fun k7855 tm H r h0=>?_) (fun k7855=>?_)
             ·refine none_of fun r h0=>?_
              obtain ⟨bo,dW,fk,eM,dh,cw,cL,cZ,hks,e1,e3,e5,e10,e11,e12,h⟩:=ae.lh7855_inv (show ae.lh7855 F bk [k61] 0 tm H = some r from h0)
              cases h
             ·obtain ⟨bo,dW,fk,eM,dh,cw,cL,cZ,hks,e1,e3,e5,e10,e11,e12,h⟩:=ae.lh7855_inv (show ae.lh7855 F bk [k61] (k7855 + 1) tm H = some r from h0)
              obtain rfl:bo = k61:=by simpa [eq_comm] using hks
              have q0:(Tm.put tm 1 (.ptr dW fk)) = tm:=by exact Tm.put_same e1
              have q1:(Tm.put (Tm.put tm 1 (.ptr dW fk)) 3 (.sl eM)) = tm:=by rw [q0]; exact Tm.put_same e3
              have q2:(Tm.put (Tm.put (Tm.put tm 1 (.ptr dW fk)) 3 (.sl eM)) 5 (.int .i64 dh)) = tm:=by rw [q1]; exact Tm.put_same e5
              have q3:(Tm.put (Tm.put (Tm.put (Tm.put tm 1 (.ptr dW fk)) 3 (.sl eM)) 5 (.int .i64 dh)) 10 (.int .i64 cw)) = tm:=by rw [q2]; exact Tm.put_same e10
              have q4:(Tm.put (Tm.put (Tm.put (Tm.put (Tm.put tm 1 (.ptr dW fk)) 3 (.sl eM)) 5 (.int .i64 dh)) 10 (.int .i64 cw)) 11 (.int .i64 cL)) = tm:=by rw [q3]; exact Tm.put_same e11
              have q5:(Tm.put (Tm.put (Tm.put (Tm.put (Tm.put (Tm.put tm 1 (.ptr dW fk)) 3 (.sl eM)) 5 (.int .i64 dh)) 10 (.int .i64 cw)) 11 (.int .i64 cL)) 12 (.int .i64 cZ)) = tm:=by rw [q4]; exact Tm.put_same e12
              rw [← q5]
              exact Eq.trans (by kernel_rfl) h
             ·exact loops_none (by kernel_rfl)
        ·exact loops_none (by kernel_rfl)
    ·exact loops_none (by kernel_rfl)
theorem ae.eqX (F:Nat) (bk:Sl→Int→Int→Bool→Hp→OA) (aa:Sl) (ab:Int) (H:Hp):aCode tabs (mkOrc (ae.cs F bk)) ae.pn (ae.lh F bk) F [] 1 ae.code (argTm [(.agg [(.sl aa),(.int .i64 ab)])]) H (fun tm H=>aresults tabs.ty H tm Try.f122.results.toList fun v=>some (v,H)) (fun _ _ _=>none) (fun tm H=>aresults tabs.ty H tm Try.f122.results.toList fun v=>some (v,H)) = ae.twX F bk aa ab H:=by kernel_rfl
theorem ae.cs_ok (F:Nat):∀ p ∈ ae.cs F (ak.tw F),∀ args H v H',p.2 args H = some (v,H')→Go.AE.T Try.prog p.1 args H v H':=by
 intro p hp
 simp only [ae.cs,List.mem_cons,List.not_mem_nil,or_false] at hp
 subst hp
 exact fun args H v H' h=>ak.mk_T h
theorem ae.ok:codeOk ae.pn Try.f122.ntmps ae.tb ae.code = true:=by kernel_rfl
theorem ae.T {F:Nat} {aa:Sl} {ab:Int} {H:Hp} {v:AV} {H':Hp} (h:ae.tw F aa ab H = some (v,H')):Go.AE.T Try.prog 122 [(.agg [(.sl aa),(.int .i64 ab)])] H v H':=
 Go.AE.T.of (Y:=tabs) (C:=mkOrc (ae.cs F (ak.tw F))) (PN:=ae.pn) (LH:=ae.lh F (ak.tw F)) (F:=F) (TB:=ae.tb) (fn:=Try.f122) (code:=ae.code) mixed tabs_ok (mkOrc_ok (ae.cs_ok F)) Try.func122 (by kernel_rfl) (by kernel_rfl) ae.ok (Nat.le_of_ble_eq_true (by kernel_rfl)) (ae.loops F (ak.tw F)) (Eq.trans (ae.eqX F (ak.tw F) aa ab H) h)
theorem ae.mk_T {F:Nat} {args:List AV} {H:Hp} {v:AV} {H':Hp} (h:ae.mk (ae.tw F) args H = some (v,H')):Go.AE.T Try.prog 122 args H v H':=by
 unfold ae.mk at h
 split at h
 ·exact ae.T h
 ·cases h
noncomputable def aF.j2 (F:Nat) (aC:Sl→Int→Hp→OA) (C61_:Int→Sl→Int→Hp→OA) (kl:Int) (DD:Sl) (km:Int) (H42:Hp):OA:=C61_ kl DD (IntKind.i64.wrap (km + 1)) H42
noncomputable def aF.l61 (F:Nat) (aC:Sl→Int→Hp→OA) :Nat→Int→Sl→Int→Hp→OA
 | 0,_,_,_,_=>none
 | bo + 1,dA,fT,c_,H16=>(bif (decide (c_ < (fT.n:Int))) then ((Sl.idx fT c_ 1).bind fun p30=>(Hp.ldI H16 .i64 p30.1 p30.2).bind fun n31=>(bif (n31 == c_) then (aF.j2 F aC (aF.l61 F aC bo) (IntKind.i64.wrap (dA + 1)) fT c_ H16) else (aF.j2 F aC (aF.l61 F aC bo) dA fT c_ H16))) else (some ((.int .i64 dA),H16)))
termination_by structural n=>n
noncomputable def aF.twX (F:Nat) (aC:Sl→Int→Hp→OA) (aa:Sl) (ab:Int) (H:Hp):OA:=(Hp.new H [(.sl aa),(.int .i64 ab)]).bind fun H3=>(Hp.ldSl H3 H.length 0).bind fun s4=>(Hp.ldI H3 .i64 H.length (0 + 1)).bind fun n5=>(aC s4 n5 H3).bind fun r6=>((r6.1).asSl).bind fun s7=>aF.l61 F aC F 0 s7 0 r6.2
noncomputable def aF.tw (F:Nat) (aa:Sl) (ab:Int) (H:Hp):OA:=aF.twX F (ae.tw F) aa ab H
noncomputable def aF.code:Go.Code:=(Try.f97.body).getD .skip
noncomputable def aF.lh61 (F:Nat) (aC:Sl→Int→Hp→OA) (ks:List Nat) (n:Nat) (tm:Tm) (H:Hp):OA:=match ks,tm 3,tm 4,tm 5 with
 | [],(.int .i64 dA),(.sl fT),(.int .i64 c_)=>aF.l61 F aC n dA fT c_ H
 | _,_,_,_=>none
theorem aF.lh61_inv {F:Nat} {aC:Sl→Int→Hp→OA} {ks:List Nat} {n:Nat} {tm:Tm} {H:Hp} {r:AV×Hp} (h:aF.lh61 F aC ks n tm H = some r):∃ dA:Int,∃ fT:Sl,∃ c_:Int,ks = []∧tm 3 = (.int .i64 dA)∧tm 4 = (.sl fT)∧tm 5 = (.int .i64 c_)∧aF.l61 F aC n dA fT c_ H = some r:=by
 unfold aF.lh61 at h
 split at h
 ·exact ⟨_,_,_,rfl,by assumption,by assumption,by assumption,h⟩
 ·cases h
noncomputable def aF.lh (F:Nat) (aC:Sl→Int→Hp→OA) (p:Nat) (ks:List Nat) (n:Nat) (tm:Tm) (H:Hp):OA:=bif p.beq 61 then aF.lh61 F aC ks n tm H else (none)
def aF.pn:Nat→List Nat:=fun i=>(([]:List (Nat×List Nat)).lookup i).getD []
def aF.tb:Nat→List (List Nat):=fun i=>(([]:List (Nat×List (List Nat))).lookup i).getD []
noncomputable def aF.mk (g:Sl→Int→Hp→OA) (args:List AV) (H:Hp):OA:=match args with
 | [(.agg [(.sl aa),(.int .i64 ab)])]=>g aa ab H
 | _=>none
noncomputable def aF.cs (F:Nat) (aC:Sl→Int→Hp→OA):List (FuncId×(List AV→Hp→OA)):=[(122,ae.mk aC)]
theorem aF.loops (F:Nat) (aC:Sl→Int→Hp→OA):LoopsOk tabs (mkOrc (aF.cs F aC)) aF.pn (aF.lh F aC) F [] 1 aF.code (fun tm H=>aresults tabs.ty H tm Try.f97.results.toList fun v=>some (v,H)) (fun _ _ _=>none) (fun tm H=>aresults tabs.ty H tm Try.f97.results.toList fun v=>some (v,H)):=by
 refine LoopsOk.seq ?_ ?_
 ·exact loops_none (by kernel_rfl)
 ·refine LoopsOk.seq ?_ ?_
  ·exact loops_none (by kernel_rfl)
  ·refine LoopsOk.seq ?_ ?_
   ·exact loops_none (by kernel_rfl)
   ·refine LoopsOk.seq ?_ ?_
    ·refine LoopsOk.seq ?_ ?_
     ·exact loops_none (by kernel_rfl)
     ·refine LoopsOk.block ?_
      refine LoopsOk.loop (fun tm H=>?_) (fun k61 tm H r h0=>?_) (fun k61=>?_)
      ·refine none_of fun r h0=>?_
       obtain ⟨dA,fT,c_,hks,e3,e4,e5,h⟩:=aF.lh61_inv (show aF.lh61 F aC [] 0 tm H = some r from h0)
       cases h
      ·obtain ⟨dA,fT,c_,hks,e3,e4,e5,h⟩:=aF.lh61_inv (show aF.lh61 F aC [] (k61 + 1) tm H = some r from h0)
       have q0:(Tm.put tm 3 (.int .i64 dA)) = tm:=by exact Tm.put_same e3
       have q1:(Tm.put (Tm.put tm 3 (.int .i64 dA)) 4 (.sl fT)) = tm:=by rw [q0]; exact Tm.put_same e4
       have q2:(Tm.put (Tm.put (Tm.put tm 3 (.int .i64 dA)) 4 (.sl fT)) 5 (.int .i64 c_)) = tm:=by rw [q1]; exact Tm.put_same e5
       rw [← q2]
       exact Eq.trans (by kernel_rfl) h
      ·exact loops_none (by kernel_rfl)
    ·exact loops_none (by kernel_rfl)
theorem aF.eqX (F:Nat) (aC:Sl→Int→Hp→OA) (aa:Sl) (ab:Int) (H:Hp):aCode tabs (mkOrc (aF.cs F aC)) aF.pn (aF.lh F aC) F [] 1 aF.code (argTm [(.agg [(.sl aa),(.int .i64 ab)])]) H (fun tm H=>aresults tabs.ty H tm Try.f97.results.toList fun v=>some (v,H)) (fun _ _ _=>none) (fun tm H=>aresults tabs.ty H tm Try.f97.results.toList fun v=>some (v,H)) = aF.twX F aC aa ab H:=by kernel_rfl
theorem aF.cs_ok (F:Nat):∀ p ∈ aF.cs F (ae.tw F),∀ args H v H',p.2 args H = some (v,H')→Go.AE.T Try.prog p.1 args H v H':=by
 intro p hp
 simp only [aF.cs,List.mem_cons,List.not_mem_nil,or_false] at hp
 subst hp
 exact fun args H v H' h=>ae.mk_T h
theorem aF.ok:codeOk aF.pn Try.f97.ntmps aF.tb aF.code = true:=by kernel_rfl
theorem aF.T {F:Nat} {aa:Sl} {ab:Int} {H:Hp} {v:AV} {H':Hp} (h:aF.tw F aa ab H = some (v,H')):Go.AE.T Try.prog 97 [(.agg [(.sl aa),(.int .i64 ab)])] H v H':=
 Go.AE.T.of (Y:=tabs) (C:=mkOrc (aF.cs F (ae.tw F))) (PN:=aF.pn) (LH:=aF.lh F (ae.tw F)) (F:=F) (TB:=aF.tb) (fn:=Try.f97) (code:=aF.code) mixed tabs_ok (mkOrc_ok (aF.cs_ok F)) Try.func97 (by kernel_rfl) (by kernel_rfl) aF.ok (Nat.le_of_ble_eq_true (by kernel_rfl)) (aF.loops F (ae.tw F)) (Eq.trans (aF.eqX F (ae.tw F) aa ab H) h)
theorem aF.mk_T {F:Nat} {args:List AV} {H:Hp} {v:AV} {H':Hp} (h:aF.mk (aF.tw F) args H = some (v,H')):Go.AE.T Try.prog 97 args H v H':=by
 unfold aF.mk at h
 split at h
 ·exact aF.T h
 ·cases h
noncomputable def bt.twX (F:Nat) (bu:Int→Int→Int→Hp→OA) (gN:Sl→Int→Hp→OA) (av:Sl→Int→Hp→OA) (gO:Sl→Int→Hp→OA) (aa:Sl) (ab:Int) (H:Hp):OA:=(Hp.new H [(.sl aa),(.int .i64 ab)]).bind fun H3=>(Hp.ldSl H3 H.length 0).bind fun s4=>(bif (decide ((s4.n:Int) > 10)) then (some ((.bool false),H3)) else ((Hp.ldI H3 .i64 H.length 1).bind fun n5=>(bu n5 0 8 H3).bind fun r6=>((r6.1).asB).bind fun b7=>(bif (!b7) then (some ((.bool false),r6.2)) else ((Hp.ldSl r6.2 H.length 0).bind fun s8=>(Hp.ldI r6.2 .i64 H.length (0 + 1)).bind fun n9=>(gN s8 n9 r6.2).bind fun r10=>((r10.1).asB).bind fun b11=>(bif (!b11) then (some ((.bool false),r10.2)) else ((Hp.ldSl r10.2 H.length 0).bind fun s12=>(Hp.ldI r10.2 .i64 H.length (0 + 1)).bind fun n13=>(av s12 n13 r10.2).bind fun r14=>((r14.1).asSl).bind fun s15=>(if Cons r10.2 r14.2 then ((Hp.ldSl r14.2 H.length 0).bind fun s16=>(Hp.ldSl r14.2 H.length 0).bind fun s17=>(Hp.ldI r14.2 .i64 H.length (0 + 1)).bind fun n18=>(gO s17 n18 r14.2).bind fun r19=>((r19.1).asI .i64).bind fun n20=>(if Cons r14.2 r19.2 then (some ((.bool ((s15.n:Int) == (IntKind.i64.wrap ((s16.n:Int) + (IntKind.i64.wrap (2 * n20)))))),r19.2)) else none)) else none)))))))
noncomputable def bt.tw (F:Nat) (aa:Sl) (ab:Int) (H:Hp):OA:=bt.twX F (aY.tw F) (au.tw F) (ai.tw F) (aF.tw F) aa ab H
noncomputable def bt.code:Go.Code:=(Try.f50.body).getD .skip
noncomputable def bt.lh (F:Nat) (bu:Int→Int→Int→Hp→OA) (gN:Sl→Int→Hp→OA) (av:Sl→Int→Hp→OA) (gO:Sl→Int→Hp→OA) (p:Nat) (ks:List Nat) (n:Nat) (tm:Tm) (H:Hp):OA:=none
def bt.pn:Nat→List Nat:=fun i=>(([(3,[])]:List (Nat×List Nat)).lookup i).getD []
def bt.tb:Nat→List (List Nat):=fun i=>(([(3,[[],[0],[0,1],[],[3],[3,4],[],[0,1,6],[0,1,6,7],[0,1,3,4,5,6,7,8],[0,1,2,3,4,5,6,7,8,9],[0,1,2,3,4,5,6,7,8,9,10]])]:List (Nat×List (List Nat))).lookup i).getD []
noncomputable def bt.mk (g:Sl→Int→Hp→OA) (args:List AV) (H:Hp):OA:=match args with
 | [(.agg [(.sl aa),(.int .i64 ab)])]=>g aa ab H
 | _=>none
noncomputable def bt.cs (F:Nat) (bu:Int→Int→Int→Hp→OA) (gN:Sl→Int→Hp→OA) (av:Sl→Int→Hp→OA) (gO:Sl→Int→Hp→OA):List (FuncId×(List AV→Hp→OA)):=[(65,aY.mk bu),(104,au.mk gN),(105,ai.mk av),(97,aF.mk gO)]
theorem bt.loops (F:Nat) (bu:Int→Int→Int→Hp→OA) (gN:Sl→Int→Hp→OA) (av:Sl→Int→Hp→OA) (gO:Sl→Int→Hp→OA):LoopsOk tabs (mkOrc (bt.cs F bu gN av gO)) bt.pn (bt.lh F bu gN av gO) F [] 1 bt.code (fun tm H=>aresults tabs.ty H tm Try.f50.results.toList fun v=>some (v,H)) (fun _ _ _=>none) (fun tm H=>aresults tabs.ty H tm Try.f50.results.toList fun v=>some (v,H)):=by
 exact loops_none (by kernel_rfl)
theorem bt.eqX (F:Nat) (bu:Int→Int→Int→Hp→OA) (gN:Sl→Int→Hp→OA) (av:Sl→Int→Hp→OA) (gO:Sl→Int→Hp→OA) (aa:Sl) (ab:Int) (H:Hp):aCode tabs (mkOrc (bt.cs F bu gN av gO)) bt.pn (bt.lh F bu gN av gO) F [] 1 bt.code (argTm [(.agg [(.sl aa),(.int .i64 ab)])]) H (fun tm H=>aresults tabs.ty H tm Try.f50.results.toList fun v=>some (v,H)) (fun _ _ _=>none) (fun tm H=>aresults tabs.ty H tm Try.f50.results.toList fun v=>some (v,H)) = bt.twX F bu gN av gO aa ab H:=by kernel_rfl
theorem bt.cs_ok (F:Nat):∀ p ∈ bt.cs F (aY.tw F) (au.tw F) (ai.tw F) (aF.tw F),∀ args H v H',p.2 args H = some (v,H')→Go.AE.T Try.prog p.1 args H v H':=by
 intro p hp
 simp only [bt.cs,List.mem_cons,List.not_mem_nil,or_false] at hp
 rcases hp with rfl | rfl | rfl | rfl
 ·exact fun args H v H' h=>aY.mk_T h
 ·exact fun args H v H' h=>au.mk_T h
 ·exact fun args H v H' h=>ai.mk_T h
 ·exact fun args H v H' h=>aF.mk_T h
theorem bt.ok:codeOk bt.pn Try.f50.ntmps bt.tb bt.code = true:=by kernel_rfl
theorem bt.T {F:Nat} {aa:Sl} {ab:Int} {H:Hp} {v:AV} {H':Hp} (h:bt.tw F aa ab H = some (v,H')):Go.AE.T Try.prog 50 [(.agg [(.sl aa),(.int .i64 ab)])] H v H':=
 Go.AE.T.of (Y:=tabs) (C:=mkOrc (bt.cs F (aY.tw F) (au.tw F) (ai.tw F) (aF.tw F))) (PN:=bt.pn) (LH:=bt.lh F (aY.tw F) (au.tw F) (ai.tw F) (aF.tw F)) (F:=F) (TB:=bt.tb) (fn:=Try.f50) (code:=bt.code) mixed tabs_ok (mkOrc_ok (bt.cs_ok F)) Try.func50 (by kernel_rfl) (by kernel_rfl) bt.ok (Nat.le_of_ble_eq_true (by kernel_rfl)) (bt.loops F (aY.tw F) (au.tw F) (ai.tw F) (aF.tw F)) (Eq.trans (bt.eqX F (aY.tw F) (au.tw F) (ai.tw F) (aF.tw F) aa ab H) h)
theorem bt.mk_T {F:Nat} {args:List AV} {H:Hp} {v:AV} {H':Hp} (h:bt.mk (bt.tw F) args H = some (v,H')):Go.AE.T Try.prog 50 args H v H':=by
 unfold bt.mk at h
 split at h
 ·exact bt.T h
 ·cases h
noncomputable def ao.j3 (F:Nat) (av:Sl→Int→Hp→OA) (C61_:Sl→Sl→Int→Hp→OA) (DE:Sl) (DF:Sl) (kn:Int) (H112:Hp):OA:=C61_ DE DF (IntKind.i64.wrap (kn + 1)) H112
noncomputable def ao.j4 (F:Nat) (av:Sl→Int→Hp→OA) (C61_:Sl→Sl→Int→Hp→OA) (DH:Sl) (DI:Sl) (ko:Int) (H100:Hp):OA:=ao.j3 F av C61_ DH DI ko H100
noncomputable def ao.l981 (F:Nat) (av:Sl→Int→Hp→OA) (C61_:Sl→Sl→Int→Hp→OA):Nat→Sl→Sl→Int→Int→Hp→OA
 | 0,_,_,_,_,_=>none
 | DJ + 1,fF,fG,cV,ed,H80=>(Sl.idx fG cV 1).bind fun p113=>(Hp.ldSl H80 p113.1 p113.2).bind fun s114=>(bif (decide (ed < (s114.n:Int))) then ((Sl.idx fG cV 1).bind fun p115=>(Hp.ldSl H80 p115.1 p115.2).bind fun s116=>(Sl.idx s116 ed 1).bind fun p117=>(Hp.ldI H80 .i64 p117.1 p117.2).bind fun n118=>(Sl.idx fF n118 1).bind fun p119=>(Hp.st H80 p119.1 p119.2 (.int .i64 cV)).bind fun H120=>ao.l981 F av C61_ DJ fF fG cV (IntKind.i64.wrap (ed + 1)) H120) else (ao.j4 F av C61_ fF fG cV H80))
termination_by structural n=>n
noncomputable def ao.l61 (F:Nat) (av:Sl→Int→Hp→OA) :Nat→Sl→Sl→Int→Hp→OA
 | 0,_,_,_,_=>none
 | bo + 1,co,gP,eO,H18=>(bif (decide (eO < (gP.n:Int))) then (ao.l981 F av (ao.l61 F av bo) F co gP eO 0 H18) else (some ((.sl co),H18)))
termination_by structural n=>n
noncomputable def ao.twX (F:Nat) (av:Sl→Int→Hp→OA) (aa:Sl) (ab:Int) (H:Hp):OA:=(Hp.new H [(.sl aa),(.int .i64 ab)]).bind fun H3=>(Hp.ldSl H3 H.length 0).bind fun s4=>(Hp.mk H3 [.int .i64 0] 8 (IntKind.i64.wrap (4 * (s4.n:Int))) (IntKind.i64.wrap (4 * (s4.n:Int)))).bind fun m5=>(Hp.ldSl m5.2 H.length 0).bind fun s6=>(Hp.ldI m5.2 .i64 H.length (0 + 1)).bind fun n7=>(av s6 n7 m5.2).bind fun r8=>((r8.1).asSl).bind fun s9=>ao.l61 F av F m5.1 s9 0 r8.2
noncomputable def ao.tw (F:Nat) (aa:Sl) (ab:Int) (H:Hp):OA:=ao.twX F (ai.tw F) aa ab H
noncomputable def ao.code:Go.Code:=(Try.f67.body).getD .skip
noncomputable def ao.lh61 (F:Nat) (av:Sl→Int→Hp→OA) (ks:List Nat) (n:Nat) (tm:Tm) (H:Hp):OA:=match ks,tm 3,tm 4,tm 5 with
 | [],(.sl co),(.sl gP),(.int .i64 eO)=>ao.l61 F av n co gP eO H
 | _,_,_,_=>none
theorem ao.lh61_inv {F:Nat} {av:Sl→Int→Hp→OA} {ks:List Nat} {n:Nat} {tm:Tm} {H:Hp} {r:AV×Hp} (h:ao.lh61 F av ks n tm H = some r):∃ co:Sl,∃ gP:Sl,∃ eO:Int,ks = []∧tm 3 = (.sl co)∧tm 4 = (.sl gP)∧tm 5 = (.int .i64 eO)∧ao.l61 F av n co gP eO H = some r:=by
 unfold ao.lh61 at h
 split at h
 ·exact ⟨_,_,_,rfl,by assumption,by assumption,by assumption,h⟩
 ·cases h
noncomputable def ao.lh981 (F:Nat) (av:Sl→Int→Hp→OA) (ks:List Nat) (n:Nat) (tm:Tm) (H:Hp):OA:=match ks,tm 3,tm 4,tm 5,tm 6 with
 | [bo],(.sl fF),(.sl fG),(.int .i64 cV),(.int .i64 ed)=>ao.l981 F av (ao.l61 F av bo) n fF fG cV ed H
 | _,_,_,_,_=>none
theorem ao.lh981_inv {F:Nat} {av:Sl→Int→Hp→OA} {ks:List Nat} {n:Nat} {tm:Tm} {H:Hp} {r:AV×Hp} (h:ao.lh981 F av ks n tm H = some r):∃ bo:Nat,∃ fF:Sl,∃ fG:Sl,∃ cV:Int,∃ ed:Int,ks = [bo]∧tm 3 = (.sl fF)∧tm 4 = (.sl fG)∧tm 5 = (.int .i64 cV)∧tm 6 = (.int .i64 ed)∧ao.l981 F av (ao.l61 F av bo) n fF fG cV ed H = some r:=by
 unfold ao.lh981 at h
 split at h
 ·exact ⟨_,_,_,_,_,rfl,by assumption,by assumption,by assumption,by assumption,h⟩
 ·cases h
noncomputable def ao.lh (F:Nat) (av:Sl→Int→Hp→OA) (p:Nat) (ks:List Nat) (n:Nat) (tm:Tm) (H:Hp):OA:=bif p.beq 981 then ao.lh981 F av ks n tm H else (bif p.beq 61 then ao.lh61 F av ks n tm H else (none))
def ao.pn:Nat→List Nat:=fun i=>(([]:List (Nat×List Nat)).lookup i).getD []
def ao.tb:Nat→List (List Nat):=fun i=>(([]:List (Nat×List (List Nat))).lookup i).getD []
noncomputable def ao.mk (g:Sl→Int→Hp→OA) (args:List AV) (H:Hp):OA:=match args with
 | [(.agg [(.sl aa),(.int .i64 ab)])]=>g aa ab H
 | _=>none
noncomputable def ao.cs (F:Nat) (av:Sl→Int→Hp→OA):List (FuncId×(List AV→Hp→OA)):=[(105,ai.mk av)]
theorem ao.loops (F:Nat) (av:Sl→Int→Hp→OA):LoopsOk tabs (mkOrc (ao.cs F av)) ao.pn (ao.lh F av) F [] 1 ao.code (fun tm H=>aresults tabs.ty H tm Try.f67.results.toList fun v=>some (v,H)) (fun _ _ _=>none) (fun tm H=>aresults tabs.ty H tm Try.f67.results.toList fun v=>some (v,H)):=by
 refine LoopsOk.seq ?_ ?_
 ·exact loops_none (by kernel_rfl)
 ·refine LoopsOk.seq ?_ ?_
  ·exact loops_none (by kernel_rfl)
  ·refine LoopsOk.seq ?_ ?_
   ·exact loops_none (by kernel_rfl)
   ·refine LoopsOk.seq ?_ ?_
    ·refine LoopsOk.seq ?_ ?_
     ·exact loops_none (by kernel_rfl)
     ·refine LoopsOk.block ?_
      refine LoopsOk.loop (fun tm H=>?_) (fun k61 tm H r h0=>?_) (fun k61=>?_)
      ·refine none_of fun r h0=>?_
       obtain ⟨co,gP,eO,hks,e3,e4,e5,h⟩:=ao.lh61_inv (show ao.lh61 F av [] 0 tm H = some r from h0)
       cases h
      ·obtain ⟨co,gP,eO,hks,e3,e4,e5,h⟩:=ao.lh61_inv (show ao.lh61 F av [] (k61 + 1) tm H = some r from h0)
       have q0:(Tm.put tm 3 (.sl co)) = tm:=by exact Tm.put_same e3
       have q1:(Tm.put (Tm.put tm 3 (.sl co)) 4 (.sl gP)) = tm:=by rw [q0]; exact Tm.put_same e4
       have q2:(Tm.put (Tm.put (Tm.put tm 3 (.sl co)) 4 (.sl gP)) 5 (.int .i64 eO)) = tm:=by rw [q1]; exact Tm.put_same e5
       rw [← q2]
       exact Eq.trans (by kernel_rfl) h
      ·refine LoopsOk.seq ?_ ?_
       ·exact loops_none (by kernel_rfl)
       ·refine LoopsOk.seq ?_ ?_
        ·refine LoopsOk.block ?_
         refine LoopsOk.seq ?_ ?_
         ·exact loops_none (by kernel_rfl)
         ·refine LoopsOk.block ?_
          refine LoopsOk.loop (fun tm H=>?_) (fun k981 tm H r h0=>?_) (fun k981=>?_)
          ·refine none_of fun r h0=>?_
           obtain ⟨bo,fF,fG,cV,ed,hks,e3,e4,e5,e6,h⟩:=ao.lh981_inv (show ao.lh981 F av [k61] 0 tm H = some r from h0)
           cases h
          ·obtain ⟨bo,fF,fG,cV,ed,hks,e3,e4,e5,e6,h⟩:=ao.lh981_inv (show ao.lh981 F av [k61] (k981 + 1) tm H = some r from h0)
           obtain rfl:bo = k61:=by simpa [eq_comm] using hks
           have q0:(Tm.put tm 3 (.sl fF)) = tm:=by exact Tm.put_same e3
           have q1:(Tm.put (Tm.put tm 3 (.sl fF)) 4 (.sl fG)) = tm:=by rw [q0]; exact Tm.put_same e4
           have q2:(Tm.put (Tm.put (Tm.put tm 3 (.sl fF)) 4 (.sl fG)) 5 (.int .i64 cV)) = tm:=by rw [q1]; exact Tm.put_same e5
           have q3:(Tm.put (Tm.put (Tm.put (Tm.put tm 3 (.sl fF)) 4 (.sl fG)) 5 (.int .i64 cV)) 6 (.int .i64 ed)) = tm:=by rw [q2]; exact Tm.put_same e6
           rw [← q3]
           exact Eq.trans (by kernel_rfl) h
          ·exact loops_none (by kernel_rfl)
        ·exact loops_none (by kernel_rfl)
    ·exact loops_none (by kernel_rfl)
theorem ao.eqX (F:Nat) (av:Sl→Int→Hp→OA) (aa:Sl) (ab:Int) (H:Hp):aCode tabs (mkOrc (ao.cs F av)) ao.pn (ao.lh F av) F [] 1 ao.code (argTm [(.agg [(.sl aa),(.int .i64 ab)])]) H (fun tm H=>aresults tabs.ty H tm Try.f67.results.toList fun v=>some (v,H)) (fun _ _ _=>none) (fun tm H=>aresults tabs.ty H tm Try.f67.results.toList fun v=>some (v,H)) = ao.twX F av aa ab H:=by kernel_rfl
theorem ao.cs_ok (F:Nat):∀ p ∈ ao.cs F (ai.tw F),∀ args H v H',p.2 args H = some (v,H')→Go.AE.T Try.prog p.1 args H v H':=by
 intro p hp
 simp only [ao.cs,List.mem_cons,List.not_mem_nil,or_false] at hp
 subst hp
 exact fun args H v H' h=>ai.mk_T h
theorem ao.ok:codeOk ao.pn Try.f67.ntmps ao.tb ao.code = true:=by kernel_rfl
theorem ao.T {F:Nat} {aa:Sl} {ab:Int} {H:Hp} {v:AV} {H':Hp} (h:ao.tw F aa ab H = some (v,H')):Go.AE.T Try.prog 67 [(.agg [(.sl aa),(.int .i64 ab)])] H v H':=
 Go.AE.T.of (Y:=tabs) (C:=mkOrc (ao.cs F (ai.tw F))) (PN:=ao.pn) (LH:=ao.lh F (ai.tw F)) (F:=F) (TB:=ao.tb) (fn:=Try.f67) (code:=ao.code) mixed tabs_ok (mkOrc_ok (ao.cs_ok F)) Try.func67 (by kernel_rfl) (by kernel_rfl) ao.ok (Nat.le_of_ble_eq_true (by kernel_rfl)) (ao.loops F (ai.tw F)) (Eq.trans (ao.eqX F (ai.tw F) aa ab H) h)
theorem ao.mk_T {F:Nat} {args:List AV} {H:Hp} {v:AV} {H':Hp} (h:ao.mk (ao.tw F) args H = some (v,H')):Go.AE.T Try.prog 67 args H v H':=by
 unfold ao.mk at h
 split at h
 ·exact ao.T h
 ·cases h
noncomputable def ac.j20 (F:Nat) (aK:Sl→Int→Hp→OA) (aC:Sl→Int→Hp→OA) (av:Sl→Int→Hp→OA) (C509_:Sl→Sl→Bool→Hp→OA) (DK:Sl) (DL:Sl) (kp:Bool) (H630:Hp):OA:=C509_ DK DL kp H630
noncomputable def ac.j21 (F:Nat) (aK:Sl→Int→Hp→OA) (aC:Sl→Int→Hp→OA) (av:Sl→Int→Hp→OA) (C509_:Sl→Sl→Bool→Hp→OA) (DM:Sl) (DN:Sl) (kq:Bool) (H613:Hp):OA:=ac.j20 F aK aC av C509_ DM DN kq H613
noncomputable def ac.j22 (F:Nat) (aK:Sl→Int→Hp→OA) (aC:Sl→Int→Hp→OA) (av:Sl→Int→Hp→OA) (C8151_:Sl→Sl→Bool→Int→Hp→OA) (DO:Sl) (DP:Sl) (kr:Bool) (kt:Int) (H696:Hp):OA:=C8151_ DO DP kr (IntKind.i64.wrap (kt + 1)) H696
noncomputable def ac.j23 (F:Nat) (aK:Sl→Int→Hp→OA) (aC:Sl→Int→Hp→OA) (av:Sl→Int→Hp→OA) (C8151_:Sl→Sl→Bool→Int→Hp→OA) (DQ:Sl) (DR:Sl) (ku:Bool) (kv:Int) (H716:Hp):OA:=C8151_ DQ DR ku (IntKind.i64.wrap (kv + 1)) H716
noncomputable def ac.j24 (F:Nat) (aK:Sl→Int→Hp→OA) (aC:Sl→Int→Hp→OA) (av:Sl→Int→Hp→OA) (C8151_:Sl→Sl→Bool→Int→Hp→OA) (ll:Sl) (jJ:Sl) (i_:Bool) (fH:Int) (ja:Int) (H663:Hp):OA:=(Sl.idx jJ ja 1).bind fun p664=>(Hp.ldI H663 .i64 p664.1 p664.2).bind fun n665=>(bif (decide (n665 ≥ 0)) then ((Sl.idx ll fH 1).bind fun p666=>(Hp.ldI H663 .i64 p666.1 p666.2).bind fun n667=>(Sl.idx jJ n667 1).bind fun p668=>(Hp.ldI H663 .i64 p668.1 p668.2).bind fun n669=>(bif (decide (n669 < 0)) then ((Sl.idx ll fH 1).bind fun p670=>(Hp.ldI H663 .i64 p670.1 p670.2).bind fun n671=>(Sl.idx jJ ja 1).bind fun p672=>(Hp.ldI H663 .i64 p672.1 p672.2).bind fun n673=>(Sl.idx jJ n671 1).bind fun p674=>(Hp.st H663 p674.1 p674.2 (.int .i64 (IntKind.i64.wrap (1 - n673)))).bind fun H675=>ac.j22 F aK aC av C8151_ ll jJ true fH H675) else (ac.j23 F aK aC av C8151_ ll jJ i_ fH H663))) else (C8151_ ll jJ i_ (IntKind.i64.wrap (fH + 1)) H663))
noncomputable def ac.j25 (F:Nat) (aK:Sl→Int→Hp→OA) (aC:Sl→Int→Hp→OA) (av:Sl→Int→Hp→OA) (C8151_:Sl→Sl→Bool→Int→Hp→OA) (DS:Sl) (DT:Sl) (kw:Bool) (kx:Int) (H749:Hp):OA:=C8151_ DS DT kw (IntKind.i64.wrap (kx + 1)) H749
noncomputable def ac.j26 (F:Nat) (aK:Sl→Int→Hp→OA) (aC:Sl→Int→Hp→OA) (av:Sl→Int→Hp→OA) (C8151_:Sl→Sl→Bool→Int→Hp→OA) (DU:Sl) (DV:Sl) (ky:Bool) (kz:Int) (H769:Hp):OA:=C8151_ DU DV ky (IntKind.i64.wrap (kz + 1)) H769
noncomputable def ac.l8151 (F:Nat) (aK:Sl→Int→Hp→OA) (aC:Sl→Int→Hp→OA) (av:Sl→Int→Hp→OA) (C509_:Sl→Sl→Bool→Hp→OA):Nat→Sl→Sl→Bool→Int→Hp→OA
 | 0,_,_,_,_,_=>none
 | lm + 1,di,da,dj,bY,H457=>(bif (decide (bY < (di.n:Int))) then ((Sl.idx di (IntKind.i64.wrap ((IntKind.i64.wrap ((IntKind.i64.wrap (Int.tdiv bY 4)) * 4)) + (Int.tmod (IntKind.i64.wrap (bY + 1)) 4))) 1).bind fun p631=>(Hp.ldI H457 .i64 p631.1 p631.2).bind fun n632=>(Sl.idx di bY 1).bind fun p633=>(Hp.ldI H457 .i64 p633.1 p633.2).bind fun n634=>(Sl.idx da n634 1).bind fun p635=>(Hp.ldI H457 .i64 p635.1 p635.2).bind fun n636=>(bif (decide (n636 ≥ 0)) then ((Sl.idx da n632 1).bind fun p637=>(Hp.ldI H457 .i64 p637.1 p637.2).bind fun n638=>(bif (decide (n638 < 0)) then ((Sl.idx di bY 1).bind fun p639=>(Hp.ldI H457 .i64 p639.1 p639.2).bind fun n640=>(Sl.idx da n640 1).bind fun p641=>(Hp.ldI H457 .i64 p641.1 p641.2).bind fun n642=>(Sl.idx da n632 1).bind fun p643=>(Hp.st H457 p643.1 p643.2 (.int .i64 (IntKind.i64.wrap (1 - n642)))).bind fun H644=>ac.j24 F aK aC av (ac.l8151 F aK aC av C509_ lm) di da true bY n632 H644) else (ac.j24 F aK aC av (ac.l8151 F aK aC av C509_ lm) di da dj bY n632 H457))) else ((Sl.idx da n632 1).bind fun p717=>(Hp.ldI H457 .i64 p717.1 p717.2).bind fun n718=>(bif (decide (n718 ≥ 0)) then ((Sl.idx di bY 1).bind fun p719=>(Hp.ldI H457 .i64 p719.1 p719.2).bind fun n720=>(Sl.idx da n720 1).bind fun p721=>(Hp.ldI H457 .i64 p721.1 p721.2).bind fun n722=>(bif (decide (n722 < 0)) then ((Sl.idx di bY 1).bind fun p723=>(Hp.ldI H457 .i64 p723.1 p723.2).bind fun n724=>(Sl.idx da n632 1).bind fun p725=>(Hp.ldI H457 .i64 p725.1 p725.2).bind fun n726=>(Sl.idx da n724 1).bind fun p727=>(Hp.st H457 p727.1 p727.2 (.int .i64 (IntKind.i64.wrap (1 - n726)))).bind fun H728=>ac.j25 F aK aC av (ac.l8151 F aK aC av C509_ lm) di da true bY H728) else (ac.j26 F aK aC av (ac.l8151 F aK aC av C509_ lm) di da dj bY H457))) else (ac.l8151 F aK aC av C509_ lm di da dj (IntKind.i64.wrap (bY + 1)) H457))))) else (ac.j21 F aK aC av C509_ di da dj H457))
termination_by structural n=>n
noncomputable def ac.l509 (F:Nat) (aK:Sl→Int→Hp→OA) (aC:Sl→Int→Hp→OA) (av:Sl→Int→Hp→OA) :Nat→Sl→Sl→Bool→Hp→OA
 | 0,_,_,_,_=>none
 | et + 1,gQ,gR,fm,H113=>(bif fm then (ac.l8151 F aK aC av (ac.l509 F aK aC av et) F gQ gR false 0 H113) else (some ((.sl gR),H113)))
termination_by structural n=>n
noncomputable def ac.j27 (F:Nat) (aK:Sl→Int→Hp→OA) (aC:Sl→Int→Hp→OA) (av:Sl→Int→Hp→OA) (DW:Sl) (DX:Sl) (H99:Hp):OA:=ac.l509 F aK aC av F DW DX true H99
noncomputable def ac.j28 (F:Nat) (aK:Sl→Int→Hp→OA) (aC:Sl→Int→Hp→OA) (av:Sl→Int→Hp→OA) (C253_:Sl→Sl→Sl→Int→Hp→OA) (DY:Sl) (DZ:Sl) (D_:Sl) (kA:Int) (H790:Hp):OA:=C253_ DY DZ D_ (IntKind.i64.wrap (kA + 1)) H790
noncomputable def ac.j29 (F:Nat) (aK:Sl→Int→Hp→OA) (aC:Sl→Int→Hp→OA) (av:Sl→Int→Hp→OA) (C253_:Sl→Sl→Sl→Int→Hp→OA) (Ea:Sl) (Ec:Sl) (Ed:Sl) (kB:Int) (H804:Hp):OA:=C253_ Ea Ec Ed (IntKind.i64.wrap (kB + 1)) H804
noncomputable def ac.l253 (F:Nat) (aK:Sl→Int→Hp→OA) (aC:Sl→Int→Hp→OA) (av:Sl→Int→Hp→OA) :Nat→Sl→Sl→Sl→Int→Hp→OA
 | 0,_,_,_,_,_=>none
 | ln + 1,fx,fI,fU,cR,H51=>(bif (decide (cR < (fI.n:Int))) then ((Sl.idx fI cR 1).bind fun p770=>(Hp.ldI H51 .i64 p770.1 p770.2).bind fun n771=>(bif (n771 == cR) then ((Sl.idx fx (IntKind.i64.wrap (4 * cR)) 1).bind fun p772=>(Hp.ldI H51 .i64 p772.1 p772.2).bind fun n773=>(Sl.idx fU n773 1).bind fun p774=>(Hp.st H51 p774.1 p774.2 (.int .i64 0)).bind fun H775=>ac.j28 F aK aC av (ac.l253 F aK aC av ln) fx fI fU cR H775) else (ac.j29 F aK aC av (ac.l253 F aK aC av ln) fx fI fU cR H51))) else (ac.j27 F aK aC av fx fU H51))
termination_by structural n=>n
noncomputable def ac.j30 (F:Nat) (aK:Sl→Int→Hp→OA) (aC:Sl→Int→Hp→OA) (av:Sl→Int→Hp→OA) (Ee:Sl) (Ef:Sl) (Eg:Sl) (H39:Hp):OA:=ac.l253 F aK aC av F Ee Ef Eg 0 H39
noncomputable def ac.l125 (F:Nat) (aK:Sl→Int→Hp→OA) (aC:Sl→Int→Hp→OA) (av:Sl→Int→Hp→OA) :Nat→Sl→Sl→Sl→Int→Hp→OA
 | 0,_,_,_,_,_=>none
 | Eh + 1,fV,gx,bO,ee,H26=>(bif (decide (ee < (bO.n:Int))) then ((Sl.idx bO ee 1).bind fun p805=>(Hp.st H26 p805.1 p805.2 (.int .i64 (-1))).bind fun H806=>ac.l125 F aK aC av Eh fV gx bO (IntKind.i64.wrap (ee + 1)) H806) else (ac.j30 F aK aC av fV gx bO H26))
termination_by structural n=>n
noncomputable def ac.twX (F:Nat) (aK:Sl→Int→Hp→OA) (aC:Sl→Int→Hp→OA) (av:Sl→Int→Hp→OA) (aa:Sl) (ab:Int) (H:Hp):OA:=(Hp.new H [(.sl aa),(.int .i64 ab)]).bind fun H3=>(Hp.ldSl H3 H.length 0).bind fun s4=>(Hp.ldI H3 .i64 H.length (0 + 1)).bind fun n5=>(aK s4 n5 H3).bind fun r6=>((r6.1).asSl).bind fun s7=>(Hp.ldSl r6.2 H.length 0).bind fun s8=>(Hp.ldI r6.2 .i64 H.length (0 + 1)).bind fun n9=>(aC s8 n9 r6.2).bind fun r10=>((r10.1).asSl).bind fun s11=>(Hp.ldSl r10.2 H.length 0).bind fun s12=>(Hp.ldI r10.2 .i64 H.length (0 + 1)).bind fun n13=>(av s12 n13 r10.2).bind fun r14=>((r14.1).asSl).bind fun s15=>(Hp.mk r14.2 [.int .i64 0] 8 (s15.n:Int) (s15.n:Int)).bind fun m16=>ac.l125 F aK aC av F s7 s11 m16.1 0 m16.2
noncomputable def ac.tw (F:Nat) (aa:Sl) (ab:Int) (H:Hp):OA:=ac.twX F (ao.tw F) (ae.tw F) (ai.tw F) aa ab H
noncomputable def ac.code:Go.Code:=(Try.f68.body).getD .skip
noncomputable def ac.lh125 (F:Nat) (aK:Sl→Int→Hp→OA) (aC:Sl→Int→Hp→OA) (av:Sl→Int→Hp→OA) (ks:List Nat) (n:Nat) (tm:Tm) (H:Hp):OA:=match ks,tm 3,tm 4,tm 5,tm 6 with
 | [],(.sl fV),(.sl gx),(.sl bO),(.int .i64 ee)=>ac.l125 F aK aC av n fV gx bO ee H
 | _,_,_,_,_=>none
theorem ac.lh125_inv {F:Nat} {aK:Sl→Int→Hp→OA} {aC:Sl→Int→Hp→OA} {av:Sl→Int→Hp→OA} {ks:List Nat} {n:Nat} {tm:Tm} {H:Hp} {r:AV×Hp} (h:ac.lh125 F aK aC av ks n tm H = some r):∃ fV:Sl,∃ gx:Sl,∃ bO:Sl,∃ ee:Int,ks = []∧tm 3 = (.sl fV)∧tm 4 = (.sl gx)∧tm 5 = (.sl bO)∧tm 6 = (.int .i64 ee)∧ac.l125 F aK aC av n fV gx bO ee H = some r:=by
 unfold ac.lh125 at h
 split at h
 ·exact ⟨_,_,_,_,rfl,by assumption,by assumption,by assumption,by assumption,h⟩
 ·cases h
noncomputable def ac.lh253 (F:Nat) (aK:Sl→Int→Hp→OA) (aC:Sl→Int→Hp→OA) (av:Sl→Int→Hp→OA) (ks:List Nat) (n:Nat) (tm:Tm) (H:Hp):OA:=match ks,tm 3,tm 4,tm 5,tm 7 with
 | [],(.sl fx),(.sl fI),(.sl fU),(.int .i64 cR)=>ac.l253 F aK aC av n fx fI fU cR H
 | _,_,_,_,_=>none
theorem ac.lh253_inv {F:Nat} {aK:Sl→Int→Hp→OA} {aC:Sl→Int→Hp→OA} {av:Sl→Int→Hp→OA} {ks:List Nat} {n:Nat} {tm:Tm} {H:Hp} {r:AV×Hp} (h:ac.lh253 F aK aC av ks n tm H = some r):∃ fx:Sl,∃ fI:Sl,∃ fU:Sl,∃ cR:Int,ks = []∧tm 3 = (.sl fx)∧tm 4 = (.sl fI)∧tm 5 = (.sl fU)∧tm 7 = (.int .i64 cR)∧ac.l253 F aK aC av n fx fI fU cR H = some r:=by
 unfold ac.lh253 at h
 split at h
 ·exact ⟨_,_,_,_,rfl,by assumption,by assumption,by assumption,by assumption,h⟩
 ·cases h
noncomputable def ac.lh509 (F:Nat) (aK:Sl→Int→Hp→OA) (aC:Sl→Int→Hp→OA) (av:Sl→Int→Hp→OA) (ks:List Nat) (n:Nat) (tm:Tm) (H:Hp):OA:=match ks,tm 3,tm 5,tm 9 with
 | [],(.sl gQ),(.sl gR),(.bool fm)=>ac.l509 F aK aC av n gQ gR fm H
 | _,_,_,_=>none
theorem ac.lh509_inv {F:Nat} {aK:Sl→Int→Hp→OA} {aC:Sl→Int→Hp→OA} {av:Sl→Int→Hp→OA} {ks:List Nat} {n:Nat} {tm:Tm} {H:Hp} {r:AV×Hp} (h:ac.lh509 F aK aC av ks n tm H = some r):∃ gQ:Sl,∃ gR:Sl,∃ fm:Bool,ks = []∧tm 3 = (.sl gQ)∧tm 5 = (.sl gR)∧tm 9 = (.bool fm)∧ac.l509 F aK aC av n gQ gR fm H = some r:=by
 unfold ac.lh509 at h
 split at h
 ·exact ⟨_,_,_,rfl,by assumption,by assumption,by assumption,h⟩
 ·cases h
noncomputable def ac.lh8151 (F:Nat) (aK:Sl→Int→Hp→OA) (aC:Sl→Int→Hp→OA) (av:Sl→Int→Hp→OA) (ks:List Nat) (n:Nat) (tm:Tm) (H:Hp):OA:=match ks,tm 3,tm 5,tm 9,tm 10 with
 | [et],(.sl di),(.sl da),(.bool dj),(.int .i64 bY)=>ac.l8151 F aK aC av (ac.l509 F aK aC av et) n di da dj bY H
 | _,_,_,_,_=>none
theorem ac.lh8151_inv {F:Nat} {aK:Sl→Int→Hp→OA} {aC:Sl→Int→Hp→OA} {av:Sl→Int→Hp→OA} {ks:List Nat} {n:Nat} {tm:Tm} {H:Hp} {r:AV×Hp} (h:ac.lh8151 F aK aC av ks n tm H = some r):∃ et:Nat,∃ di:Sl,∃ da:Sl,∃ dj:Bool,∃ bY:Int,ks = [et]∧tm 3 = (.sl di)∧tm 5 = (.sl da)∧tm 9 = (.bool dj)∧tm 10 = (.int .i64 bY)∧ac.l8151 F aK aC av (ac.l509 F aK aC av et) n di da dj bY H = some r:=by
 unfold ac.lh8151 at h
 split at h
 ·exact ⟨_,_,_,_,_,rfl,by assumption,by assumption,by assumption,by assumption,h⟩
 ·cases h
noncomputable def ac.lh (F:Nat) (aK:Sl→Int→Hp→OA) (aC:Sl→Int→Hp→OA) (av:Sl→Int→Hp→OA) (p:Nat) (ks:List Nat) (n:Nat) (tm:Tm) (H:Hp):OA:=bif p.beq 8151 then ac.lh8151 F aK aC av ks n tm H else (bif p.beq 509 then ac.lh509 F aK aC av ks n tm H else (bif p.beq 253 then ac.lh253 F aK aC av ks n tm H else (bif p.beq 125 then ac.lh125 F aK aC av ks n tm H else (none))))
def ac.pn:Nat→List Nat:=fun i=>(([]:List (Nat×List Nat)).lookup i).getD []
def ac.tb:Nat→List (List Nat):=fun i=>(([]:List (Nat×List (List Nat))).lookup i).getD []
noncomputable def ac.mk (g:Sl→Int→Hp→OA) (args:List AV) (H:Hp):OA:=match args with
 | [(.agg [(.sl aa),(.int .i64 ab)])]=>g aa ab H
 | _=>none
noncomputable def ac.cs (F:Nat) (aK:Sl→Int→Hp→OA) (aC:Sl→Int→Hp→OA) (av:Sl→Int→Hp→OA):List (FuncId×(List AV→Hp→OA)):=[(67,ao.mk aK),(122,ae.mk aC),(105,ai.mk av)]
theorem ac.loops (F:Nat) (aK:Sl→Int→Hp→OA) (aC:Sl→Int→Hp→OA) (av:Sl→Int→Hp→OA):LoopsOk tabs (mkOrc (ac.cs F aK aC av)) ac.pn (ac.lh F aK aC av) F [] 1 ac.code (fun tm H=>aresults tabs.ty H tm Try.f68.results.toList fun v=>some (v,H)) (fun _ _ _=>none) (fun tm H=>aresults tabs.ty H tm Try.f68.results.toList fun v=>some (v,H)):=by
 refine LoopsOk.seq ?_ ?_
 ·exact loops_none (by kernel_rfl)
 ·refine LoopsOk.seq ?_ ?_
  ·exact loops_none (by kernel_rfl)
  ·refine LoopsOk.seq ?_ ?_
   ·exact loops_none (by kernel_rfl)
   ·refine LoopsOk.seq ?_ ?_
    ·exact loops_none (by kernel_rfl)
    ·refine LoopsOk.seq ?_ ?_
     ·refine LoopsOk.seq ?_ ?_
      ·exact loops_none (by kernel_rfl)
      ·refine LoopsOk.block ?_
       refine LoopsOk.loop (fun tm H=>?_) (fun k125 tm H r h0=>?_) (fun k125=>?_)
       ·refine none_of fun r h0=>?_
        obtain ⟨fV,gx,bO,ee,hks,e3,e4,e5,e6,h⟩:=ac.lh125_inv (show ac.lh125 F aK aC av [] 0 tm H = some r from h0)
        cases h
       ·obtain ⟨fV,gx,bO,ee,hks,e3,e4,e5,e6,h⟩:=ac.lh125_inv (show ac.lh125 F aK aC av [] (k125 + 1) tm H = some r from h0)
        have q0:(Tm.put tm 3 (.sl fV)) = tm:=by exact Tm.put_same e3
        have q1:(Tm.put (Tm.put tm 3 (.sl fV)) 4 (.sl gx)) = tm:=by rw [q0]; exact Tm.put_same e4
        have q2:(Tm.put (Tm.put (Tm.put tm 3 (.sl fV)) 4 (.sl gx)) 5 (.sl bO)) = tm:=by rw [q1]; exact Tm.put_same e5
        have q3:(Tm.put (Tm.put (Tm.put (Tm.put tm 3 (.sl fV)) 4 (.sl gx)) 5 (.sl bO)) 6 (.int .i64 ee)) = tm:=by rw [q2]; exact Tm.put_same e6
        rw [← q3]
        exact Eq.trans (by kernel_rfl) h
       ·exact loops_none (by kernel_rfl)
     ·refine LoopsOk.seq ?_ ?_
      ·refine LoopsOk.seq ?_ ?_
       ·exact loops_none (by kernel_rfl)
       ·refine LoopsOk.block ?_
        refine LoopsOk.loop (fun tm H=>?_) (fun k253 tm H r h0=>?_) (fun k253=>?_)
        ·refine none_of fun r h0=>?_
         obtain ⟨fx,fI,fU,cR,hks,e3,e4,e5,e7,h⟩:=ac.lh253_inv (show ac.lh253 F aK aC av [] 0 tm H = some r from h0)
         cases h
        ·obtain ⟨fx,fI,fU,cR,hks,e3,e4,e5,e7,h⟩:=ac.lh253_inv (show ac.lh253 F aK aC av [] (k253 + 1) tm H = some r from h0)
         have q0:(Tm.put tm 3 (.sl fx)) = tm:=by exact Tm.put_same e3
         have q1:(Tm.put (Tm.put tm 3 (.sl fx)) 4 (.sl fI)) = tm:=by rw [q0]; exact Tm.put_same e4
         have q2:(Tm.put (Tm.put (Tm.put tm 3 (.sl fx)) 4 (.sl fI)) 5 (.sl fU)) = tm:=by rw [q1]; exact Tm.put_same e5
         have q3:(Tm.put (Tm.put (Tm.put (Tm.put tm 3 (.sl fx)) 4 (.sl fI)) 5 (.sl fU)) 7 (.int .i64 cR)) = tm:=by rw [q2]; exact Tm.put_same e7
         rw [← q3]
         exact Eq.trans (by kernel_rfl) h
        ·exact loops_none (by kernel_rfl)
      ·refine LoopsOk.seq ?_ ?_
       ·refine LoopsOk.seq ?_ ?_
        ·exact loops_none (by kernel_rfl)
        ·refine LoopsOk.block ?_
         refine LoopsOk.loop (fun tm H=>?_) (fun k509 tm H r h0=>?_) (fun k509=>?_)
         ·refine none_of fun r h0=>?_
          obtain ⟨gQ,gR,fm,hks,e3,e5,e9,h⟩:=ac.lh509_inv (show ac.lh509 F aK aC av [] 0 tm H = some r from h0)
          cases h
         ·obtain ⟨gQ,gR,fm,hks,e3,e5,e9,h⟩:=ac.lh509_inv (show ac.lh509 F aK aC av [] (k509 + 1) tm H = some r from h0)
          have q0:(Tm.put tm 3 (.sl gQ)) = tm:=by exact Tm.put_same e3
          have q1:(Tm.put (Tm.put tm 3 (.sl gQ)) 5 (.sl gR)) = tm:=by rw [q0]; exact Tm.put_same e5
          have q2:(Tm.put (Tm.put (Tm.put tm 3 (.sl gQ)) 5 (.sl gR)) 9 (.bool fm)) = tm:=by rw [q1]; exact Tm.put_same e9
          rw [← q2]
          exact Eq.trans (by kernel_rfl) h
         ·refine LoopsOk.seq ?_ ?_
          ·exact loops_none (by kernel_rfl)
          ·refine LoopsOk.block ?_
           refine LoopsOk.seq ?_ ?_
           ·exact loops_none (by kernel_rfl)
           ·refine LoopsOk.seq ?_ ?_
            ·exact loops_none (by kernel_rfl)
            ·refine LoopsOk.block ?_
             refine LoopsOk.loop (fun tm H=>?_) (fun k8151 tm H r h0=>?_) (fun k8151=>?_)
             ·refine none_of fun r h0=>?_
              obtain ⟨et,di,da,dj,bY,hks,e3,e5,e9,e10,h⟩:=ac.lh8151_inv (show ac.lh8151 F aK aC av [k509] 0 tm H = some r from h0)
              cases h
             ·obtain ⟨et,di,da,dj,bY,hks,e3,e5,e9,e10,h⟩:=ac.lh8151_inv (show ac.lh8151 F aK aC av [k509] (k8151 + 1) tm H = some r from h0)
              obtain rfl:et = k509:=by simpa [eq_comm] using hks
              have q0:(Tm.put tm 3 (.sl di)) = tm:=by exact Tm.put_same e3
              have q1:(Tm.put (Tm.put tm 3 (.sl di)) 5 (.sl da)) = tm:=by rw [q0]; exact Tm.put_same e5
              have q2:(Tm.put (Tm.put (Tm.put tm 3 (.sl di)) 5 (.sl da)) 9 (.bool dj)) = tm:=by rw [q1]; exact Tm.put_same e9
              have q3:(Tm.put (Tm.put (Tm.put (Tm.put tm 3 (.sl di)) 5 (.sl da)) 9 (.bool dj)) 10 (.int .i64 bY)) = tm:=by rw [q2]; exact Tm.put_same e10
              rw [← q3]
              exact Eq.trans (by kernel_rfl) h
             ·exact loops_none (by kernel_rfl)
       ·exact loops_none (by kernel_rfl)
theorem ac.eqX (F:Nat) (aK:Sl→Int→Hp→OA) (aC:Sl→Int→Hp→OA) (av:Sl→Int→Hp→OA) (aa:Sl) (ab:Int) (H:Hp):aCode tabs (mkOrc (ac.cs F aK aC av)) ac.pn (ac.lh F aK aC av) F [] 1 ac.code (argTm [(.agg [(.sl aa),(.int .i64 ab)])]) H (fun tm H=>aresults tabs.ty H tm Try.f68.results.toList fun v=>some (v,H)) (fun _ _ _=>none) (fun tm H=>aresults tabs.ty H tm Try.f68.results.toList fun v=>some (v,H)) = ac.twX F aK aC av aa ab H:=by kernel_rfl
theorem ac.cs_ok (F:Nat):∀ p ∈ ac.cs F (ao.tw F) (ae.tw F) (ai.tw F),∀ args H v H',p.2 args H = some (v,H')→Go.AE.T Try.prog p.1 args H v H':=by
 intro p hp
 simp only [ac.cs,List.mem_cons,List.not_mem_nil,or_false] at hp
 rcases hp with rfl | rfl | rfl
 ·exact fun args H v H' h=>ao.mk_T h
 ·exact fun args H v H' h=>ae.mk_T h
 ·exact fun args H v H' h=>ai.mk_T h
theorem ac.ok:codeOk ac.pn Try.f68.ntmps ac.tb ac.code = true:=by kernel_rfl
theorem ac.T {F:Nat} {aa:Sl} {ab:Int} {H:Hp} {v:AV} {H':Hp} (h:ac.tw F aa ab H = some (v,H')):Go.AE.T Try.prog 68 [(.agg [(.sl aa),(.int .i64 ab)])] H v H':=
 Go.AE.T.of (Y:=tabs) (C:=mkOrc (ac.cs F (ao.tw F) (ae.tw F) (ai.tw F))) (PN:=ac.pn) (LH:=ac.lh F (ao.tw F) (ae.tw F) (ai.tw F)) (F:=F) (TB:=ac.tb) (fn:=Try.f68) (code:=ac.code) mixed tabs_ok (mkOrc_ok (ac.cs_ok F)) Try.func68 (by kernel_rfl) (by kernel_rfl) ac.ok (Nat.le_of_ble_eq_true (by kernel_rfl)) (ac.loops F (ao.tw F) (ae.tw F) (ai.tw F)) (Eq.trans (ac.eqX F (ao.tw F) (ae.tw F) (ai.tw F) aa ab H) h)
theorem ac.mk_T {F:Nat} {args:List AV} {H:Hp} {v:AV} {H':Hp} (h:ac.mk (ac.tw F) args H = some (v,H')):Go.AE.T Try.prog 68 args H v H':=by
 unfold ac.mk at h
 split at h
 ·exact ac.T h
 ·cases h
noncomputable def bv.twX (F:Nat) (aa:Sl) (ag:Sl) (bj:Int) (eZ:Int) (H:Hp):OA:=(Sl.idx aa (IntKind.i64.wrap ((IntKind.i64.wrap (4 * bj)) + 1)) 1).bind fun p5=>(Hp.ldI H .i64 p5.1 p5.2).bind fun n6=>(Sl.idx ag n6 1).bind fun p7=>(Hp.ldI H .i64 p7.1 p7.2).bind fun n8=>(bif (n8 == eZ) then (some ((.int .i64 1),H)) else (some ((.int .i64 (-1)),H)))
noncomputable def bv.tw (F:Nat) (aa:Sl) (ag:Sl) (bj:Int) (eZ:Int) (H:Hp):OA:=bv.twX F aa ag bj eZ H
noncomputable def bv.code:Go.Code:=(Try.f66.body).getD .skip
noncomputable def bv.lh (F:Nat) (p:Nat) (ks:List Nat) (n:Nat) (tm:Tm) (H:Hp):OA:=none
def bv.pn:Nat→List Nat:=fun i=>(([]:List (Nat×List Nat)).lookup i).getD []
def bv.tb:Nat→List (List Nat):=fun i=>(([]:List (Nat×List (List Nat))).lookup i).getD []
noncomputable def bv.mk (g:Sl→Sl→Int→Int→Hp→OA) (args:List AV) (H:Hp):OA:=match args with
 | [(.sl aa),(.sl ag),(.int .i64 bj),(.int .i64 eZ)]=>g aa ag bj eZ H
 | _=>none
noncomputable def bv.cs (F:Nat):List (FuncId×(List AV→Hp→OA)):=[]
theorem bv.loops (F:Nat):LoopsOk tabs (mkOrc (bv.cs F)) bv.pn (bv.lh F) F [] 1 bv.code (fun tm H=>aresults tabs.ty H tm Try.f66.results.toList fun v=>some (v,H)) (fun _ _ _=>none) (fun tm H=>aresults tabs.ty H tm Try.f66.results.toList fun v=>some (v,H)):=by
 exact loops_none (by kernel_rfl)
theorem bv.eqX (F:Nat) (aa:Sl) (ag:Sl) (bj:Int) (eZ:Int) (H:Hp):aCode tabs (mkOrc (bv.cs F)) bv.pn (bv.lh F) F [] 1 bv.code (argTm [(.sl aa),(.sl ag),(.int .i64 bj),(.int .i64 eZ)]) H (fun tm H=>aresults tabs.ty H tm Try.f66.results.toList fun v=>some (v,H)) (fun _ _ _=>none) (fun tm H=>aresults tabs.ty H tm Try.f66.results.toList fun v=>some (v,H)) = bv.twX F aa ag bj eZ H:=by kernel_rfl
theorem bv.cs_ok (F:Nat):∀ p ∈ bv.cs F,∀ args H v H',p.2 args H = some (v,H')→Go.AE.T Try.prog p.1 args H v H':=by
 intro p hp
 exact absurd (show p ∈ [] from hp) List.not_mem_nil
theorem bv.ok:codeOk bv.pn Try.f66.ntmps bv.tb bv.code = true:=by kernel_rfl
theorem bv.T {F:Nat} {aa:Sl} {ag:Sl} {bj:Int} {eZ:Int} {H:Hp} {v:AV} {H':Hp} (h:bv.tw F aa ag bj eZ H = some (v,H')):Go.AE.T Try.prog 66 [(.sl aa),(.sl ag),(.int .i64 bj),(.int .i64 eZ)] H v H':=
 Go.AE.T.of (Y:=tabs) (C:=mkOrc (bv.cs F)) (PN:=bv.pn) (LH:=bv.lh F) (F:=F) (TB:=bv.tb) (fn:=Try.f66) (code:=bv.code) mixed tabs_ok (mkOrc_ok (bv.cs_ok F)) Try.func66 (by kernel_rfl) (by kernel_rfl) bv.ok (Nat.le_of_ble_eq_true (by kernel_rfl)) (bv.loops F) (Eq.trans (bv.eqX F aa ag bj eZ H) h)
theorem bv.mk_T {F:Nat} {args:List AV} {H:Hp} {v:AV} {H':Hp} (h:bv.mk (bv.tw F) args H = some (v,H')):Go.AE.T Try.prog 66 args H v H':=by
 unfold bv.mk at h
 split at h
 ·exact bv.T h
 ·cases h
noncomputable def bw.twX (F:Nat) (gS:Sl→Int→Hp→OA) (bu:Int→Int→Int→Hp→OA) (aK:Sl→Int→Hp→OA) (gT:Sl→Int→Hp→OA) (gU:Sl→Sl→Int→Int→Hp→OA) (aa:Sl) (ab:Int) (ah:Int) (bb:Int) (H:Hp):OA:=(Hp.new H [(.sl aa),(.int .i64 ab)]).bind fun H5=>(Hp.ldSl H5 H.length 0).bind fun s6=>(Hp.ldI H5 .i64 H.length (0 + 1)).bind fun n7=>(gS s6 n7 H5).bind fun r8=>((r8.1).asB).bind fun b9=>(bif (!b9) then (some ((.tup [(.int .i64 0),(.int .i64 1)]),r8.2)) else ((Hp.ldSl r8.2 H.length 0).bind fun s10=>(bu ah 0 (IntKind.i64.wrap ((s10.n:Int) - 1)) r8.2).bind fun r11=>((r11.1).asB).bind fun b12=>(bif (!b12) then (some ((.tup [(.int .i64 0),(.int .i64 4)]),r11.2)) else ((bu bb 0 1 r11.2).bind fun r13=>((r13.1).asB).bind fun b14=>(bif (!b14) then (some ((.tup [(.int .i64 0),(.int .i64 2)]),r13.2)) else ((Hp.ldSl r13.2 H.length 0).bind fun s15=>(Hp.ldI r13.2 .i64 H.length (0 + 1)).bind fun n16=>(aK s15 n16 r13.2).bind fun r17=>((r17.1).asSl).bind fun s18=>(if Cons r13.2 r17.2 then ((Hp.ldSl r17.2 H.length 0).bind fun s19=>(Hp.ldI r17.2 .i64 H.length (0 + 1)).bind fun n20=>(gT s19 n20 r17.2).bind fun r21=>((r21.1).asSl).bind fun s22=>(gU s18 s22 ah bb r21.2).bind fun r23=>((r23.1).asI .i64).bind fun n24=>some ((.tup [(.int .i64 n24),(.int .i64 0)]),r23.2)) else none)))))))
noncomputable def bw.tw (F:Nat) (aa:Sl) (ab:Int) (ah:Int) (bb:Int) (H:Hp):OA:=bw.twX F (bt.tw F) (aY.tw F) (ao.tw F) (ac.tw F) (bv.tw F) aa ab ah bb H
noncomputable def bw.code:Go.Code:=(Try.f24.body).getD .skip
noncomputable def bw.lh (F:Nat) (gS:Sl→Int→Hp→OA) (bu:Int→Int→Int→Hp→OA) (aK:Sl→Int→Hp→OA) (gT:Sl→Int→Hp→OA) (gU:Sl→Sl→Int→Int→Hp→OA) (p:Nat) (ks:List Nat) (n:Nat) (tm:Tm) (H:Hp):OA:=none
def bw.pn:Nat→List Nat:=fun i=>(([(7,[3,6])]:List (Nat×List Nat)).lookup i).getD []
def bw.tb:Nat→List (List Nat):=fun i=>(([(7,[[],[0],[],[0,1,2],[],[],[0,1,2,3,4,5],[0,1,2,3,4,5,6],[0,1,2,3,4,5,6,7]])]:List (Nat×List (List Nat))).lookup i).getD []
noncomputable def bw.mk (g:Sl→Int→Int→Int→Hp→OA) (args:List AV) (H:Hp):OA:=match args with
 | [(.agg [(.sl aa),(.int .i64 ab)]),(.int .i64 ah),(.int .i64 bb)]=>g aa ab ah bb H
 | _=>none
noncomputable def bw.cs (F:Nat) (gS:Sl→Int→Hp→OA) (bu:Int→Int→Int→Hp→OA) (aK:Sl→Int→Hp→OA) (gT:Sl→Int→Hp→OA) (gU:Sl→Sl→Int→Int→Hp→OA):List (FuncId×(List AV→Hp→OA)):=[(50,bt.mk gS),(65,aY.mk bu),(67,ao.mk aK),(68,ac.mk gT),(66,bv.mk gU)]
theorem bw.loops (F:Nat) (gS:Sl→Int→Hp→OA) (bu:Int→Int→Int→Hp→OA) (aK:Sl→Int→Hp→OA) (gT:Sl→Int→Hp→OA) (gU:Sl→Sl→Int→Int→Hp→OA):LoopsOk tabs (mkOrc (bw.cs F gS bu aK gT gU)) bw.pn (bw.lh F gS bu aK gT gU) F [] 1 bw.code (fun tm H=>aresults tabs.ty H tm Try.f24.results.toList fun v=>some (v,H)) (fun _ _ _=>none) (fun tm H=>aresults tabs.ty H tm Try.f24.results.toList fun v=>some (v,H)):=by
 exact loops_none (by kernel_rfl)
theorem bw.eqX (F:Nat) (gS:Sl→Int→Hp→OA) (bu:Int→Int→Int→Hp→OA) (aK:Sl→Int→Hp→OA) (gT:Sl→Int→Hp→OA) (gU:Sl→Sl→Int→Int→Hp→OA) (aa:Sl) (ab:Int) (ah:Int) (bb:Int) (H:Hp):aCode tabs (mkOrc (bw.cs F gS bu aK gT gU)) bw.pn (bw.lh F gS bu aK gT gU) F [] 1 bw.code (argTm [(.agg [(.sl aa),(.int .i64 ab)]),(.int .i64 ah),(.int .i64 bb)]) H (fun tm H=>aresults tabs.ty H tm Try.f24.results.toList fun v=>some (v,H)) (fun _ _ _=>none) (fun tm H=>aresults tabs.ty H tm Try.f24.results.toList fun v=>some (v,H)) = bw.twX F gS bu aK gT gU aa ab ah bb H:=by kernel_rfl
theorem bw.cs_ok (F:Nat):∀ p ∈ bw.cs F (bt.tw F) (aY.tw F) (ao.tw F) (ac.tw F) (bv.tw F),∀ args H v H',p.2 args H = some (v,H')→Go.AE.T Try.prog p.1 args H v H':=by
 intro p hp
 simp only [bw.cs,List.mem_cons,List.not_mem_nil,or_false] at hp
 rcases hp with rfl | rfl | rfl | rfl | rfl
 ·exact fun args H v H' h=>bt.mk_T h
 ·exact fun args H v H' h=>aY.mk_T h
 ·exact fun args H v H' h=>ao.mk_T h
 ·exact fun args H v H' h=>ac.mk_T h
 ·exact fun args H v H' h=>bv.mk_T h
theorem bw.ok:codeOk bw.pn Try.f24.ntmps bw.tb bw.code = true:=by kernel_rfl
theorem bw.T {F:Nat} {aa:Sl} {ab:Int} {ah:Int} {bb:Int} {H:Hp} {v:AV} {H':Hp} (h:bw.tw F aa ab ah bb H = some (v,H')):Go.AE.T Try.prog 24 [(.agg [(.sl aa),(.int .i64 ab)]),(.int .i64 ah),(.int .i64 bb)] H v H':=
 Go.AE.T.of (Y:=tabs) (C:=mkOrc (bw.cs F (bt.tw F) (aY.tw F) (ao.tw F) (ac.tw F) (bv.tw F))) (PN:=bw.pn) (LH:=bw.lh F (bt.tw F) (aY.tw F) (ao.tw F) (ac.tw F) (bv.tw F)) (F:=F) (TB:=bw.tb) (fn:=Try.f24) (code:=bw.code) mixed tabs_ok (mkOrc_ok (bw.cs_ok F)) Try.func24 (by kernel_rfl) (by kernel_rfl) bw.ok (Nat.le_of_ble_eq_true (by kernel_rfl)) (bw.loops F (bt.tw F) (aY.tw F) (ao.tw F) (ac.tw F) (bv.tw F)) (Eq.trans (bw.eqX F (bt.tw F) (aY.tw F) (ao.tw F) (ac.tw F) (bv.tw F) aa ab ah bb H) h)
theorem bw.mk_T {F:Nat} {args:List AV} {H:Hp} {v:AV} {H':Hp} (h:bw.mk (bw.tw F) args H = some (v,H')):Go.AE.T Try.prog 24 args H v H':=by
 unfold bw.mk at h
 split at h
 ·exact bw.T h
 ·cases h
noncomputable def aX.twX (F:Nat) (aa:Sl) (H:Hp):OA:=some ((.int .i64 (aa.n:Int)),H)
noncomputable def aX.tw (F:Nat) (aa:Sl) (H:Hp):OA:=aX.twX F aa H
noncomputable def aX.code:Go.Code:=(Try.f117.body).getD .skip
noncomputable def aX.lh (F:Nat) (p:Nat) (ks:List Nat) (n:Nat) (tm:Tm) (H:Hp):OA:=none
def aX.pn:Nat→List Nat:=fun i=>(([]:List (Nat×List Nat)).lookup i).getD []
def aX.tb:Nat→List (List Nat):=fun i=>(([]:List (Nat×List (List Nat))).lookup i).getD []
noncomputable def aX.mk (g:Sl→Hp→OA) (args:List AV) (H:Hp):OA:=match args with
 | [(.sl aa)]=>g aa H
 | _=>none
noncomputable def aX.cs (F:Nat):List (FuncId×(List AV→Hp→OA)):=[]
theorem aX.loops (F:Nat):LoopsOk tabs (mkOrc (aX.cs F)) aX.pn (aX.lh F) F [] 1 aX.code (fun tm H=>aresults tabs.ty H tm Try.f117.results.toList fun v=>some (v,H)) (fun _ _ _=>none) (fun tm H=>aresults tabs.ty H tm Try.f117.results.toList fun v=>some (v,H)):=by
 exact loops_none (by kernel_rfl)
theorem aX.eqX (F:Nat) (aa:Sl) (H:Hp):aCode tabs (mkOrc (aX.cs F)) aX.pn (aX.lh F) F [] 1 aX.code (argTm [(.sl aa)]) H (fun tm H=>aresults tabs.ty H tm Try.f117.results.toList fun v=>some (v,H)) (fun _ _ _=>none) (fun tm H=>aresults tabs.ty H tm Try.f117.results.toList fun v=>some (v,H)) = aX.twX F aa H:=by kernel_rfl
theorem aX.cs_ok (F:Nat):∀ p ∈ aX.cs F,∀ args H v H',p.2 args H = some (v,H')→Go.AE.T Try.prog p.1 args H v H':=by
 intro p hp
 exact absurd (show p ∈ [] from hp) List.not_mem_nil
theorem aX.ok:codeOk aX.pn Try.f117.ntmps aX.tb aX.code = true:=by kernel_rfl
theorem aX.T {F:Nat} {aa:Sl} {H:Hp} {v:AV} {H':Hp} (h:aX.tw F aa H = some (v,H')):Go.AE.T Try.prog 117 [(.sl aa)] H v H':=
 Go.AE.T.of (Y:=tabs) (C:=mkOrc (aX.cs F)) (PN:=aX.pn) (LH:=aX.lh F) (F:=F) (TB:=aX.tb) (fn:=Try.f117) (code:=aX.code) mixed tabs_ok (mkOrc_ok (aX.cs_ok F)) Try.func117 (by kernel_rfl) (by kernel_rfl) aX.ok (Nat.le_of_ble_eq_true (by kernel_rfl)) (aX.loops F) (Eq.trans (aX.eqX F aa H) h)
theorem aX.mk_T {F:Nat} {args:List AV} {H:Hp} {v:AV} {H':Hp} (h:aX.mk (aX.tw F) args H = some (v,H')):Go.AE.T Try.prog 117 args H v H':=by
 unfold aX.mk at h
 split at h
 ·exact aX.T h
 ·cases h
noncomputable def a_.twX (F:Nat) (aa:Int) (ag:Int) (bj:Int) (H:Hp):OA:=(bif (decide (ag ≤ aa)) then (some ((.bool (decide (aa ≤ bj))),H)) else (some ((.bool false),H)))
noncomputable def a_.tw (F:Nat) (aa:Int) (ag:Int) (bj:Int) (H:Hp):OA:=a_.twX F aa ag bj H
noncomputable def a_.code:Go.Code:=(Try.f81.body).getD .skip
noncomputable def a_.lh (F:Nat) (p:Nat) (ks:List Nat) (n:Nat) (tm:Tm) (H:Hp):OA:=none
def a_.pn:Nat→List Nat:=fun i=>(([]:List (Nat×List Nat)).lookup i).getD []
def a_.tb:Nat→List (List Nat):=fun i=>(([]:List (Nat×List (List Nat))).lookup i).getD []
noncomputable def a_.mk (g:Int→Int→Int→Hp→OA) (args:List AV) (H:Hp):OA:=match args with
 | [(.int .i64 aa),(.int .i64 ag),(.int .i64 bj)]=>g aa ag bj H
 | _=>none
noncomputable def a_.cs (F:Nat):List (FuncId×(List AV→Hp→OA)):=[]
theorem a_.loops (F:Nat):LoopsOk tabs (mkOrc (a_.cs F)) a_.pn (a_.lh F) F [] 1 a_.code (fun tm H=>aresults tabs.ty H tm Try.f81.results.toList fun v=>some (v,H)) (fun _ _ _=>none) (fun tm H=>aresults tabs.ty H tm Try.f81.results.toList fun v=>some (v,H)):=by
 exact loops_none (by kernel_rfl)
theorem a_.eqX (F:Nat) (aa:Int) (ag:Int) (bj:Int) (H:Hp):aCode tabs (mkOrc (a_.cs F)) a_.pn (a_.lh F) F [] 1 a_.code (argTm [(.int .i64 aa),(.int .i64 ag),(.int .i64 bj)]) H (fun tm H=>aresults tabs.ty H tm Try.f81.results.toList fun v=>some (v,H)) (fun _ _ _=>none) (fun tm H=>aresults tabs.ty H tm Try.f81.results.toList fun v=>some (v,H)) = a_.twX F aa ag bj H:=by kernel_rfl
theorem a_.cs_ok (F:Nat):∀ p ∈ a_.cs F,∀ args H v H',p.2 args H = some (v,H')→Go.AE.T Try.prog p.1 args H v H':=by
 intro p hp
 exact absurd (show p ∈ [] from hp) List.not_mem_nil
theorem a_.ok:codeOk a_.pn Try.f81.ntmps a_.tb a_.code = true:=by kernel_rfl
theorem a_.T {F:Nat} {aa:Int} {ag:Int} {bj:Int} {H:Hp} {v:AV} {H':Hp} (h:a_.tw F aa ag bj H = some (v,H')):Go.AE.T Try.prog 81 [(.int .i64 aa),(.int .i64 ag),(.int .i64 bj)] H v H':=
 Go.AE.T.of (Y:=tabs) (C:=mkOrc (a_.cs F)) (PN:=a_.pn) (LH:=a_.lh F) (F:=F) (TB:=a_.tb) (fn:=Try.f81) (code:=a_.code) mixed tabs_ok (mkOrc_ok (a_.cs_ok F)) Try.func81 (by kernel_rfl) (by kernel_rfl) a_.ok (Nat.le_of_ble_eq_true (by kernel_rfl)) (a_.loops F) (Eq.trans (a_.eqX F aa ag bj H) h)
theorem a_.mk_T {F:Nat} {args:List AV} {H:Hp} {v:AV} {H':Hp} (h:a_.mk (a_.tw F) args H = some (v,H')):Go.AE.T Try.prog 81 args H v H':=by
 unfold a_.mk at h
 split at h
 ·exact a_.T h
 ·cases h
noncomputable def bD.twX (F:Nat) (aa:Int) (ab:Int) (aA:Int) (aB:Int) (az:Int) (H:Hp):OA:=(Hp.new H [(.int .i64 aa),(.int .i64 ab),(.int .i64 aA),(.int .i64 aB),(.int .i64 az)]).bind fun H6=>(Hp.ldI H6 .i64 H.length 4).bind fun n7=>(bif (n7 != 1) then ((Hp.ldI H6 .i64 H.length 4).bind fun n8=>some ((.bool (n8 != (-1))),H6)) else (some ((.bool false),H6)))
noncomputable def bD.tw (F:Nat) (aa:Int) (ab:Int) (aA:Int) (aB:Int) (az:Int) (H:Hp):OA:=bD.twX F aa ab aA aB az H
noncomputable def bD.code:Go.Code:=(Try.f124.body).getD .skip
noncomputable def bD.lh (F:Nat) (p:Nat) (ks:List Nat) (n:Nat) (tm:Tm) (H:Hp):OA:=none
def bD.pn:Nat→List Nat:=fun i=>(([]:List (Nat×List Nat)).lookup i).getD []
def bD.tb:Nat→List (List Nat):=fun i=>(([]:List (Nat×List (List Nat))).lookup i).getD []
noncomputable def bD.mk (g:Int→Int→Int→Int→Int→Hp→OA) (args:List AV) (H:Hp):OA:=match args with
 | [(.agg [(.int .i64 aa),(.int .i64 ab),(.int .i64 aA),(.int .i64 aB),(.int .i64 az)])]=>g aa ab aA aB az H
 | _=>none
noncomputable def bD.cs (F:Nat):List (FuncId×(List AV→Hp→OA)):=[]
theorem bD.loops (F:Nat):LoopsOk tabs (mkOrc (bD.cs F)) bD.pn (bD.lh F) F [] 1 bD.code (fun tm H=>aresults tabs.ty H tm Try.f124.results.toList fun v=>some (v,H)) (fun _ _ _=>none) (fun tm H=>aresults tabs.ty H tm Try.f124.results.toList fun v=>some (v,H)):=by
 exact loops_none (by kernel_rfl)
theorem bD.eqX (F:Nat) (aa:Int) (ab:Int) (aA:Int) (aB:Int) (az:Int) (H:Hp):aCode tabs (mkOrc (bD.cs F)) bD.pn (bD.lh F) F [] 1 bD.code (argTm [(.agg [(.int .i64 aa),(.int .i64 ab),(.int .i64 aA),(.int .i64 aB),(.int .i64 az)])]) H (fun tm H=>aresults tabs.ty H tm Try.f124.results.toList fun v=>some (v,H)) (fun _ _ _=>none) (fun tm H=>aresults tabs.ty H tm Try.f124.results.toList fun v=>some (v,H)) = bD.twX F aa ab aA aB az H:=by kernel_rfl
theorem bD.cs_ok (F:Nat):∀ p ∈ bD.cs F,∀ args H v H',p.2 args H = some (v,H')→Go.AE.T Try.prog p.1 args H v H':=by
 intro p hp
 exact absurd (show p ∈ [] from hp) List.not_mem_nil
theorem bD.ok:codeOk bD.pn Try.f124.ntmps bD.tb bD.code = true:=by kernel_rfl
theorem bD.T {F:Nat} {aa:Int} {ab:Int} {aA:Int} {aB:Int} {az:Int} {H:Hp} {v:AV} {H':Hp} (h:bD.tw F aa ab aA aB az H = some (v,H')):Go.AE.T Try.prog 124 [(.agg [(.int .i64 aa),(.int .i64 ab),(.int .i64 aA),(.int .i64 aB),(.int .i64 az)])] H v H':=
 Go.AE.T.of (Y:=tabs) (C:=mkOrc (bD.cs F)) (PN:=bD.pn) (LH:=bD.lh F) (F:=F) (TB:=bD.tb) (fn:=Try.f124) (code:=bD.code) mixed tabs_ok (mkOrc_ok (bD.cs_ok F)) Try.func124 (by kernel_rfl) (by kernel_rfl) bD.ok (Nat.le_of_ble_eq_true (by kernel_rfl)) (bD.loops F) (Eq.trans (bD.eqX F aa ab aA aB az H) h)
theorem bD.mk_T {F:Nat} {args:List AV} {H:Hp} {v:AV} {H':Hp} (h:bD.mk (bD.tw F) args H = some (v,H')):Go.AE.T Try.prog 124 args H v H':=by
 unfold bD.mk at h
 split at h
 ·exact bD.T h
 ·cases h
noncomputable def aO.l13 (F:Nat) (dB:Int→Int→Int→Int→Int→Hp→OA) :Nat→Sl→Int→Int→Hp→OA
 | 0,_,_,_,_=>none
 | gM + 1,fW,ev,dC,H6=>(bif (decide (dC < ev)) then ((Sl.idx fW dC 5).bind fun p15=>(Hp.ldI H6 .i64 p15.1 p15.2).bind fun n16=>(Hp.ldI H6 .i64 p15.1 (p15.2 + 1)).bind fun n17=>(Hp.ldI H6 .i64 p15.1 (p15.2 + 2)).bind fun n18=>(Hp.ldI H6 .i64 p15.1 (p15.2 + 3)).bind fun n19=>(Hp.ldI H6 .i64 p15.1 (p15.2 + 4)).bind fun n20=>(dB n16 n17 n18 n19 n20 H6).bind fun r21=>((r21.1).asB).bind fun b22=>(bif b22 then (some ((.int .i64 dC),r21.2)) else (aO.l13 F dB gM fW ev (IntKind.i64.wrap (dC + 1)) r21.2))) else (some ((.int .i64 (-1)),H6)))
termination_by structural n=>n
noncomputable def aO.twX (F:Nat) (dB:Int→Int→Int→Int→Int→Hp→OA) (aa:Sl) (H:Hp):OA:=aO.l13 F dB F aa (aa.n:Int) 0 H
noncomputable def aO.tw (F:Nat) (aa:Sl) (H:Hp):OA:=aO.twX F (bD.tw F) aa H
noncomputable def aO.code:Go.Code:=(Try.f153.body).getD .skip
noncomputable def aO.lh13 (F:Nat) (dB:Int→Int→Int→Int→Int→Hp→OA) (ks:List Nat) (n:Nat) (tm:Tm) (H:Hp):OA:=match ks,tm 0,tm 1,tm 7,tm 8 with
 | [],(.sl fW),(.fn 124 []),(.int .i64 ev),(.int .i64 dC)=>aO.l13 F dB n fW ev dC H
 | _,_,_,_,_=>none
theorem aO.lh13_inv {F:Nat} {dB:Int→Int→Int→Int→Int→Hp→OA} {ks:List Nat} {n:Nat} {tm:Tm} {H:Hp} {r:AV×Hp} (h:aO.lh13 F dB ks n tm H = some r):∃ fW:Sl,∃ ev:Int,∃ dC:Int,ks = []∧tm 0 = (.sl fW)∧tm 1 = (.fn 124 [])∧tm 7 = (.int .i64 ev)∧tm 8 = (.int .i64 dC)∧aO.l13 F dB n fW ev dC H = some r:=by
 unfold aO.lh13 at h
 split at h
 ·exact ⟨_,_,_,rfl,by assumption,by assumption,by assumption,by assumption,h⟩
 ·cases h
noncomputable def aO.lh (F:Nat) (dB:Int→Int→Int→Int→Int→Hp→OA) (p:Nat) (ks:List Nat) (n:Nat) (tm:Tm) (H:Hp):OA:=bif p.beq 13 then aO.lh13 F dB ks n tm H else (none)
def aO.pn:Nat→List Nat:=fun i=>(([]:List (Nat×List Nat)).lookup i).getD []
def aO.tb:Nat→List (List Nat):=fun i=>(([]:List (Nat×List (List Nat))).lookup i).getD []
noncomputable def aO.mk (g:Sl→Hp→OA) (args:List AV) (H:Hp):OA:=match args with
 | [(.sl aa),(.fn 124 [])]=>g aa H
 | _=>none
noncomputable def aO.cs (F:Nat) (dB:Int→Int→Int→Int→Int→Hp→OA):List (FuncId×(List AV→Hp→OA)):=[(124,bD.mk dB)]
theorem aO.loops (F:Nat) (dB:Int→Int→Int→Int→Int→Hp→OA):LoopsOk tabs (mkOrc (aO.cs F dB)) aO.pn (aO.lh F dB) F [] 1 aO.code (fun tm H=>aresults tabs.ty H tm Try.f153.results.toList fun v=>some (v,H)) (fun _ _ _=>none) (fun tm H=>aresults tabs.ty H tm Try.f153.results.toList fun v=>some (v,H)):=by
 refine LoopsOk.seq ?_ ?_
 ·exact loops_none (by kernel_rfl)
 ·refine LoopsOk.seq ?_ ?_
  ·refine LoopsOk.seq ?_ ?_
   ·exact loops_none (by kernel_rfl)
   ·refine LoopsOk.block ?_
    refine LoopsOk.loop (fun tm H=>?_) (fun k13 tm H r h0=>?_) (fun k13=>?_)
    ·refine none_of fun r h0=>?_
     obtain ⟨fW,ev,dC,hks,e0,e1,e7,e8,h⟩:=aO.lh13_inv (show aO.lh13 F dB [] 0 tm H = some r from h0)
     cases h
    ·obtain ⟨fW,ev,dC,hks,e0,e1,e7,e8,h⟩:=aO.lh13_inv (show aO.lh13 F dB [] (k13 + 1) tm H = some r from h0)
     have q0:(Tm.put tm 0 (.sl fW)) = tm:=by exact Tm.put_same e0
     have q1:(Tm.put (Tm.put tm 0 (.sl fW)) 1 (.fn 124 [])) = tm:=by rw [q0]; exact Tm.put_same e1
     have q2:(Tm.put (Tm.put (Tm.put tm 0 (.sl fW)) 1 (.fn 124 [])) 7 (.int .i64 ev)) = tm:=by rw [q1]; exact Tm.put_same e7
     have q3:(Tm.put (Tm.put (Tm.put (Tm.put tm 0 (.sl fW)) 1 (.fn 124 [])) 7 (.int .i64 ev)) 8 (.int .i64 dC)) = tm:=by rw [q2]; exact Tm.put_same e8
     rw [← q3]
     exact Eq.trans (by kernel_rfl) h
    ·exact loops_none (by kernel_rfl)
  ·exact loops_none (by kernel_rfl)
theorem aO.eqX (F:Nat) (dB:Int→Int→Int→Int→Int→Hp→OA) (aa:Sl) (H:Hp):aCode tabs (mkOrc (aO.cs F dB)) aO.pn (aO.lh F dB) F [] 1 aO.code (argTm [(.sl aa),(.fn 124 [])]) H (fun tm H=>aresults tabs.ty H tm Try.f153.results.toList fun v=>some (v,H)) (fun _ _ _=>none) (fun tm H=>aresults tabs.ty H tm Try.f153.results.toList fun v=>some (v,H)) = aO.twX F dB aa H:=by kernel_rfl
theorem aO.cs_ok (F:Nat):∀ p ∈ aO.cs F (bD.tw F),∀ args H v H',p.2 args H = some (v,H')→Go.AE.T Try.prog p.1 args H v H':=by
 intro p hp
 simp only [aO.cs,List.mem_cons,List.not_mem_nil,or_false] at hp
 subst hp
 exact fun args H v H' h=>bD.mk_T h
theorem aO.ok:codeOk aO.pn Try.f153.ntmps aO.tb aO.code = true:=by kernel_rfl
theorem aO.T {F:Nat} {aa:Sl} {H:Hp} {v:AV} {H':Hp} (h:aO.tw F aa H = some (v,H')):Go.AE.T Try.prog 153 [(.sl aa),(.fn 124 [])] H v H':=
 Go.AE.T.of (Y:=tabs) (C:=mkOrc (aO.cs F (bD.tw F))) (PN:=aO.pn) (LH:=aO.lh F (bD.tw F)) (F:=F) (TB:=aO.tb) (fn:=Try.f153) (code:=aO.code) mixed tabs_ok (mkOrc_ok (aO.cs_ok F)) Try.func153 (by kernel_rfl) (by kernel_rfl) aO.ok (Nat.le_of_ble_eq_true (by kernel_rfl)) (aO.loops F (bD.tw F)) (Eq.trans (aO.eqX F (bD.tw F) aa H) h)
theorem aO.mk_T {F:Nat} {args:List AV} {H:Hp} {v:AV} {H':Hp} (h:aO.mk (aO.tw F) args H = some (v,H')):Go.AE.T Try.prog 153 args H v H':=by
 unfold aO.mk at h
 split at h
 ·exact aO.T h
 ·cases h
noncomputable def bx.twX (F:Nat) (gV:Sl→Hp→OA) (aa:Sl) (H:Hp):OA:=(gV aa H).bind fun r2=>((r2.1).asI .i64).bind fun n3=>some ((.bool (decide (n3 ≥ 0))),r2.2)
noncomputable def bx.tw (F:Nat) (aa:Sl) (H:Hp):OA:=bx.twX F (aO.tw F) aa H
noncomputable def bx.code:Go.Code:=(Try.f123.body).getD .skip
noncomputable def bx.lh (F:Nat) (gV:Sl→Hp→OA) (p:Nat) (ks:List Nat) (n:Nat) (tm:Tm) (H:Hp):OA:=none
def bx.pn:Nat→List Nat:=fun i=>(([]:List (Nat×List Nat)).lookup i).getD []
def bx.tb:Nat→List (List Nat):=fun i=>(([]:List (Nat×List (List Nat))).lookup i).getD []
noncomputable def bx.mk (g:Sl→Hp→OA) (args:List AV) (H:Hp):OA:=match args with
 | [(.sl aa),(.fn 124 [])]=>g aa H
 | _=>none
noncomputable def bx.cs (F:Nat) (gV:Sl→Hp→OA):List (FuncId×(List AV→Hp→OA)):=[(153,aO.mk gV)]
theorem bx.loops (F:Nat) (gV:Sl→Hp→OA):LoopsOk tabs (mkOrc (bx.cs F gV)) bx.pn (bx.lh F gV) F [] 1 bx.code (fun tm H=>aresults tabs.ty H tm Try.f123.results.toList fun v=>some (v,H)) (fun _ _ _=>none) (fun tm H=>aresults tabs.ty H tm Try.f123.results.toList fun v=>some (v,H)):=by
 exact loops_none (by kernel_rfl)
theorem bx.eqX (F:Nat) (gV:Sl→Hp→OA) (aa:Sl) (H:Hp):aCode tabs (mkOrc (bx.cs F gV)) bx.pn (bx.lh F gV) F [] 1 bx.code (argTm [(.sl aa),(.fn 124 [])]) H (fun tm H=>aresults tabs.ty H tm Try.f123.results.toList fun v=>some (v,H)) (fun _ _ _=>none) (fun tm H=>aresults tabs.ty H tm Try.f123.results.toList fun v=>some (v,H)) = bx.twX F gV aa H:=by kernel_rfl
theorem bx.cs_ok (F:Nat):∀ p ∈ bx.cs F (aO.tw F),∀ args H v H',p.2 args H = some (v,H')→Go.AE.T Try.prog p.1 args H v H':=by
 intro p hp
 simp only [bx.cs,List.mem_cons,List.not_mem_nil,or_false] at hp
 subst hp
 exact fun args H v H' h=>aO.mk_T h
theorem bx.ok:codeOk bx.pn Try.f123.ntmps bx.tb bx.code = true:=by kernel_rfl
theorem bx.T {F:Nat} {aa:Sl} {H:Hp} {v:AV} {H':Hp} (h:bx.tw F aa H = some (v,H')):Go.AE.T Try.prog 123 [(.sl aa),(.fn 124 [])] H v H':=
 Go.AE.T.of (Y:=tabs) (C:=mkOrc (bx.cs F (aO.tw F))) (PN:=bx.pn) (LH:=bx.lh F (aO.tw F)) (F:=F) (TB:=bx.tb) (fn:=Try.f123) (code:=bx.code) mixed tabs_ok (mkOrc_ok (bx.cs_ok F)) Try.func123 (by kernel_rfl) (by kernel_rfl) bx.ok (Nat.le_of_ble_eq_true (by kernel_rfl)) (bx.loops F (aO.tw F)) (Eq.trans (bx.eqX F (aO.tw F) aa H) h)
theorem bx.mk_T {F:Nat} {args:List AV} {H:Hp} {v:AV} {H':Hp} (h:bx.mk (bx.tw F) args H = some (v,H')):Go.AE.T Try.prog 123 args H v H':=by
 unfold bx.mk at h
 split at h
 ·exact bx.T h
 ·cases h
noncomputable def bits_Mul64.twX (F:Nat) (aa:Int) (ag:Int) (H:Hp):OA:=some ((.tup [(.int .u64 (IntKind.u64.wrap ((IntKind.u64.wrap ((IntKind.u64.wrap ((Int.fdiv aa (2 ^ (min (32:Int).toNat (IntKind.u64).bits))) * (Int.fdiv ag (2 ^ (min (32:Int).toNat (IntKind.u64).bits))))) + (Int.fdiv (IntKind.u64.wrap ((IntKind.u64.wrap ((Int.fdiv aa (2 ^ (min (32:Int).toNat (IntKind.u64).bits))) * (Go.bits .and .u64 ag 4294967295))) + (Int.fdiv (IntKind.u64.wrap ((Go.bits .and .u64 aa 4294967295) * (Go.bits .and .u64 ag 4294967295))) (2 ^ (min (32:Int).toNat (IntKind.u64).bits))))) (2 ^ (min (32:Int).toNat (IntKind.u64).bits))))) + (Int.fdiv (IntKind.u64.wrap ((Go.bits .and .u64 (IntKind.u64.wrap ((IntKind.u64.wrap ((Int.fdiv aa (2 ^ (min (32:Int).toNat (IntKind.u64).bits))) * (Go.bits .and .u64 ag 4294967295))) + (Int.fdiv (IntKind.u64.wrap ((Go.bits .and .u64 aa 4294967295) * (Go.bits .and .u64 ag 4294967295))) (2 ^ (min (32:Int).toNat (IntKind.u64).bits))))) 4294967295) + (IntKind.u64.wrap ((Go.bits .and .u64 aa 4294967295) * (Int.fdiv ag (2 ^ (min (32:Int).toNat (IntKind.u64).bits))))))) (2 ^ (min (32:Int).toNat (IntKind.u64).bits)))))),(.int .u64 (IntKind.u64.wrap (aa * ag)))]),H)
noncomputable def bits_Mul64.tw (F:Nat) (aa:Int) (ag:Int) (H:Hp):OA:=bits_Mul64.twX F aa ag H
noncomputable def bits_Mul64.code:Go.Code:=(Try.f172.body).getD .skip
noncomputable def bits_Mul64.lh (F:Nat) (p:Nat) (ks:List Nat) (n:Nat) (tm:Tm) (H:Hp):OA:=none
def bits_Mul64.pn:Nat→List Nat:=fun i=>(([]:List (Nat×List Nat)).lookup i).getD []
def bits_Mul64.tb:Nat→List (List Nat):=fun i=>(([]:List (Nat×List (List Nat))).lookup i).getD []
noncomputable def bits_Mul64.mk (g:Int→Int→Hp→OA) (args:List AV) (H:Hp):OA:=match args with
 | [(.int .u64 aa),(.int .u64 ag)]=>g aa ag H
 | _=>none
noncomputable def bits_Mul64.cs (F:Nat):List (FuncId×(List AV→Hp→OA)):=[]
theorem bits_Mul64.loops (F:Nat):LoopsOk tabs (mkOrc (bits_Mul64.cs F)) bits_Mul64.pn (bits_Mul64.lh F) F [] 1 bits_Mul64.code (fun tm H=>aresults tabs.ty H tm Try.f172.results.toList fun v=>some (v,H)) (fun _ _ _=>none) (fun tm H=>aresults tabs.ty H tm Try.f172.results.toList fun v=>some (v,H)):=by
 exact loops_none (by kernel_rfl)
theorem bits_Mul64.eqX (F:Nat) (aa:Int) (ag:Int) (H:Hp):aCode tabs (mkOrc (bits_Mul64.cs F)) bits_Mul64.pn (bits_Mul64.lh F) F [] 1 bits_Mul64.code (argTm [(.int .u64 aa),(.int .u64 ag)]) H (fun tm H=>aresults tabs.ty H tm Try.f172.results.toList fun v=>some (v,H)) (fun _ _ _=>none) (fun tm H=>aresults tabs.ty H tm Try.f172.results.toList fun v=>some (v,H)) = bits_Mul64.twX F aa ag H:=by kernel_rfl
theorem bits_Mul64.cs_ok (F:Nat):∀ p ∈ bits_Mul64.cs F,∀ args H v H',p.2 args H = some (v,H')→Go.AE.T Try.prog p.1 args H v H':=by
 intro p hp
 exact absurd (show p ∈ [] from hp) List.not_mem_nil
theorem bits_Mul64.ok:codeOk bits_Mul64.pn Try.f172.ntmps bits_Mul64.tb bits_Mul64.code = true:=by kernel_rfl
theorem bits_Mul64.T {F:Nat} {aa:Int} {ag:Int} {H:Hp} {v:AV} {H':Hp} (h:bits_Mul64.tw F aa ag H = some (v,H')):Go.AE.T Try.prog 172 [(.int .u64 aa),(.int .u64 ag)] H v H':=
 Go.AE.T.of (Y:=tabs) (C:=mkOrc (bits_Mul64.cs F)) (PN:=bits_Mul64.pn) (LH:=bits_Mul64.lh F) (F:=F) (TB:=bits_Mul64.tb) (fn:=Try.f172) (code:=bits_Mul64.code) mixed tabs_ok (mkOrc_ok (bits_Mul64.cs_ok F)) Try.func172 (by kernel_rfl) (by kernel_rfl) bits_Mul64.ok (Nat.le_of_ble_eq_true (by kernel_rfl)) (bits_Mul64.loops F) (Eq.trans (bits_Mul64.eqX F aa ag H) h)
theorem bits_Mul64.mk_T {F:Nat} {args:List AV} {H:Hp} {v:AV} {H':Hp} (h:bits_Mul64.mk (bits_Mul64.tw F) args H = some (v,H')):Go.AE.T Try.prog 172 args H v H':=by
 unfold bits_Mul64.mk at h
 split at h
 ·exact bits_Mul64.T h
 ·cases h
noncomputable def bits_Mul.twX (F:Nat) (g_bits_Mul64:Int→Int→Hp→OA) (aa:Int) (ag:Int) (H:Hp):OA:=(g_bits_Mul64 aa ag H).bind fun r3=>((r3.1).asTup 2).bind fun l4=>(l4[0]?).bind fun v5=>((v5).asI .u64).bind fun n6=>(l4[1]?).bind fun v7=>((v7).asI .u64).bind fun n8=>some ((.tup [(.int .u64 n6),(.int .u64 n8)]),r3.2)
noncomputable def bits_Mul.tw (F:Nat) (aa:Int) (ag:Int) (H:Hp):OA:=bits_Mul.twX F (bits_Mul64.tw F) aa ag H
noncomputable def bits_Mul.code:Go.Code:=(Try.f158.body).getD .skip
noncomputable def bits_Mul.lh (F:Nat) (g_bits_Mul64:Int→Int→Hp→OA) (p:Nat) (ks:List Nat) (n:Nat) (tm:Tm) (H:Hp):OA:=none
def bits_Mul.pn:Nat→List Nat:=fun i=>(([]:List (Nat×List Nat)).lookup i).getD []
def bits_Mul.tb:Nat→List (List Nat):=fun i=>(([]:List (Nat×List (List Nat))).lookup i).getD []
noncomputable def bits_Mul.mk (g:Int→Int→Hp→OA) (args:List AV) (H:Hp):OA:=match args with
 | [(.int .u64 aa),(.int .u64 ag)]=>g aa ag H
 | _=>none
noncomputable def bits_Mul.cs (F:Nat) (g_bits_Mul64:Int→Int→Hp→OA):List (FuncId×(List AV→Hp→OA)):=[(172,bits_Mul64.mk g_bits_Mul64)]
theorem bits_Mul.loops (F:Nat) (g_bits_Mul64:Int→Int→Hp→OA):LoopsOk tabs (mkOrc (bits_Mul.cs F g_bits_Mul64)) bits_Mul.pn (bits_Mul.lh F g_bits_Mul64) F [] 1 bits_Mul.code (fun tm H=>aresults tabs.ty H tm Try.f158.results.toList fun v=>some (v,H)) (fun _ _ _=>none) (fun tm H=>aresults tabs.ty H tm Try.f158.results.toList fun v=>some (v,H)):=by
 exact loops_none (by kernel_rfl)
theorem bits_Mul.eqX (F:Nat) (g_bits_Mul64:Int→Int→Hp→OA) (aa:Int) (ag:Int) (H:Hp):aCode tabs (mkOrc (bits_Mul.cs F g_bits_Mul64)) bits_Mul.pn (bits_Mul.lh F g_bits_Mul64) F [] 1 bits_Mul.code (argTm [(.int .u64 aa),(.int .u64 ag)]) H (fun tm H=>aresults tabs.ty H tm Try.f158.results.toList fun v=>some (v,H)) (fun _ _ _=>none) (fun tm H=>aresults tabs.ty H tm Try.f158.results.toList fun v=>some (v,H)) = bits_Mul.twX F g_bits_Mul64 aa ag H:=by kernel_rfl
theorem bits_Mul.cs_ok (F:Nat):∀ p ∈ bits_Mul.cs F (bits_Mul64.tw F),∀ args H v H',p.2 args H = some (v,H')→Go.AE.T Try.prog p.1 args H v H':=by
 intro p hp
 simp only [bits_Mul.cs,List.mem_cons,List.not_mem_nil,or_false] at hp
 subst hp
 exact fun args H v H' h=>bits_Mul64.mk_T h
theorem bits_Mul.ok:codeOk bits_Mul.pn Try.f158.ntmps bits_Mul.tb bits_Mul.code = true:=by kernel_rfl
theorem bits_Mul.T {F:Nat} {aa:Int} {ag:Int} {H:Hp} {v:AV} {H':Hp} (h:bits_Mul.tw F aa ag H = some (v,H')):Go.AE.T Try.prog 158 [(.int .u64 aa),(.int .u64 ag)] H v H':=
 Go.AE.T.of (Y:=tabs) (C:=mkOrc (bits_Mul.cs F (bits_Mul64.tw F))) (PN:=bits_Mul.pn) (LH:=bits_Mul.lh F (bits_Mul64.tw F)) (F:=F) (TB:=bits_Mul.tb) (fn:=Try.f158) (code:=bits_Mul.code) mixed tabs_ok (mkOrc_ok (bits_Mul.cs_ok F)) Try.func158 (by kernel_rfl) (by kernel_rfl) bits_Mul.ok (Nat.le_of_ble_eq_true (by kernel_rfl)) (bits_Mul.loops F (bits_Mul64.tw F)) (Eq.trans (bits_Mul.eqX F (bits_Mul64.tw F) aa ag H) h)
theorem bits_Mul.mk_T {F:Nat} {args:List AV} {H:Hp} {v:AV} {H':Hp} (h:bits_Mul.mk (bits_Mul.tw F) args H = some (v,H')):Go.AE.T Try.prog 158 args H v H':=by
 unfold bits_Mul.mk at h
 split at h
 ·exact bits_Mul.T h
 ·cases h
noncomputable def aI.l254 (F:Nat) (g_bits_Mul:Int→Int→Hp→OA) :Nat→Sl→Int→Hp→OA
 | 0,_,_,_=>none
 | tT + 1,bQ,bX,H33=>(bif (decide (bX < (bQ.n:Int))) then ((Sl.cut bQ 2 bX (bQ.n:Int)).bind fun s37=>(Sl.cut bQ 2 0 bX).bind fun s38=>(Hp.cpy H33 2 s37 s38).bind fun c39=>aI.l254 F g_bits_Mul tT bQ (IntKind.i64.wrap (bX + (c39.1:Int))) c39.2) else (some ((.sl bQ),H33)))
termination_by structural n=>n
noncomputable def aI.j1 (F:Nat) (g_bits_Mul:Int→Int→Hp→OA) (tU:Sl) (fy:Int) (H21:Hp):OA:=(Hp.mk H21 [.int .i64 0,.int .i64 0] 16 (IntKind.i64.wrap fy) (IntKind.i64.wrap fy)).bind fun m22=>(Hp.cpy m22.2 2 m22.1 tU).bind fun c23=>aI.l254 F g_bits_Mul F m22.1 (c23.1:Int) c23.2
noncomputable def aI.j2 (F:Nat) (g_bits_Mul:Int→Int→Hp→OA) (lp:Sl) (fX:Int) (H7:Hp):OA:=(g_bits_Mul (IntKind.u64.wrap (lp.n:Int)) (IntKind.u64.wrap fX) H7).bind fun r8=>((r8.1).asTup 2).bind fun l9=>(l9[0]?).bind fun v10=>((v10).asI .u64).bind fun n11=>(l9[1]?).bind fun v12=>((v12).asI .u64).bind fun n13=>(bif (decide (n11 > 0)) then (none) else ((bif (decide (n13 > 9223372036854775807)) then (none) else (aI.j1 F g_bits_Mul lp n13 r8.2))))
noncomputable def aI.twX (F:Nat) (g_bits_Mul:Int→Int→Hp→OA) (aa:Sl) (ag:Int) (H:Hp):OA:=(bif (decide (ag < 0)) then (none) else (aI.j2 F g_bits_Mul aa ag H))
noncomputable def aI.tw (F:Nat) (aa:Sl) (ag:Int) (H:Hp):OA:=aI.twX F (bits_Mul.tw F) aa ag H
noncomputable def aI.code:Go.Code:=(Try.f154.body).getD .skip
noncomputable def aI.lh254 (F:Nat) (g_bits_Mul:Int→Int→Hp→OA) (ks:List Nat) (n:Nat) (tm:Tm) (H:Hp):OA:=match ks,tm 7,tm 8 with
 | [],(.sl bQ),(.int .i64 bX)=>aI.l254 F g_bits_Mul n bQ bX H
 | _,_,_=>none
theorem aI.lh254_inv {F:Nat} {g_bits_Mul:Int→Int→Hp→OA} {ks:List Nat} {n:Nat} {tm:Tm} {H:Hp} {r:AV×Hp} (h:aI.lh254 F g_bits_Mul ks n tm H = some r):∃ bQ:Sl,∃ bX:Int,ks = []∧tm 7 = (.sl bQ)∧tm 8 = (.int .i64 bX)∧aI.l254 F g_bits_Mul n bQ bX H = some r:=by
 unfold aI.lh254 at h
 split at h
 ·exact ⟨_,_,rfl,by assumption,by assumption,h⟩
 ·cases h
noncomputable def aI.lh (F:Nat) (g_bits_Mul:Int→Int→Hp→OA) (p:Nat) (ks:List Nat) (n:Nat) (tm:Tm) (H:Hp):OA:=bif p.beq 254 then aI.lh254 F g_bits_Mul ks n tm H else (none)
def aI.pn:Nat→List Nat:=fun i=>(([(9,[7])]:List (Nat×List Nat)).lookup i).getD []
def aI.tb:Nat→List (List Nat):=fun i=>(([(9,[[],[],[],[1,2],[],[],[4,5],[1,2,3,4,5,6],[0,1,2,3,4,5,6,7],[0,1,2,3,4,5,6,7,8]])]:List (Nat×List (List Nat))).lookup i).getD []
noncomputable def aI.mk (g:Sl→Int→Hp→OA) (args:List AV) (H:Hp):OA:=match args with
 | [(.sl aa),(.int .i64 ag)]=>g aa ag H
 | _=>none
noncomputable def aI.cs (F:Nat) (g_bits_Mul:Int→Int→Hp→OA):List (FuncId×(List AV→Hp→OA)):=[(158,bits_Mul.mk g_bits_Mul)]
theorem aI.loops (F:Nat) (g_bits_Mul:Int→Int→Hp→OA):LoopsOk tabs (mkOrc (aI.cs F g_bits_Mul)) aI.pn (aI.lh F g_bits_Mul) F [] 1 aI.code (fun tm H=>aresults tabs.ty H tm Try.f154.results.toList fun v=>some (v,H)) (fun _ _ _=>none) (fun tm H=>aresults tabs.ty H tm Try.f154.results.toList fun v=>some (v,H)):=by
 refine LoopsOk.seq ?_ ?_
 ·exact loops_none (by kernel_rfl)
 ·refine LoopsOk.seq ?_ ?_
  ·exact loops_none (by kernel_rfl)
  ·refine LoopsOk.seq ?_ ?_
   ·exact loops_none (by kernel_rfl)
   ·refine LoopsOk.seq ?_ ?_
    ·exact loops_none (by kernel_rfl)
    ·refine LoopsOk.seq ?_ ?_
     ·exact loops_none (by kernel_rfl)
     ·refine LoopsOk.seq ?_ ?_
      ·exact loops_none (by kernel_rfl)
      ·refine LoopsOk.seq ?_ ?_
       ·refine LoopsOk.block ?_
        refine LoopsOk.loop (fun tm H=>?_) (fun k254 tm H r h0=>?_) (fun k254=>?_)
        ·refine none_of fun r h0=>?_
         obtain ⟨bQ,bX,hks,e7,e8,h⟩:=aI.lh254_inv (show aI.lh254 F g_bits_Mul [] 0 tm H = some r from h0)
         cases h
        ·obtain ⟨bQ,bX,hks,e7,e8,h⟩:=aI.lh254_inv (show aI.lh254 F g_bits_Mul [] (k254 + 1) tm H = some r from h0)
         have q0:(Tm.put tm 7 (.sl bQ)) = tm:=by exact Tm.put_same e7
         have q1:(Tm.put (Tm.put tm 7 (.sl bQ)) 8 (.int .i64 bX)) = tm:=by rw [q0]; exact Tm.put_same e8
         rw [← q1]
         exact Eq.trans (by kernel_rfl) h
        ·exact loops_none (by kernel_rfl)
       ·exact loops_none (by kernel_rfl)
theorem aI.eqX (F:Nat) (g_bits_Mul:Int→Int→Hp→OA) (aa:Sl) (ag:Int) (H:Hp):aCode tabs (mkOrc (aI.cs F g_bits_Mul)) aI.pn (aI.lh F g_bits_Mul) F [] 1 aI.code (argTm [(.sl aa),(.int .i64 ag)]) H (fun tm H=>aresults tabs.ty H tm Try.f154.results.toList fun v=>some (v,H)) (fun _ _ _=>none) (fun tm H=>aresults tabs.ty H tm Try.f154.results.toList fun v=>some (v,H)) = aI.twX F g_bits_Mul aa ag H:=by kernel_rfl
theorem aI.cs_ok (F:Nat):∀ p ∈ aI.cs F (bits_Mul.tw F),∀ args H v H',p.2 args H = some (v,H')→Go.AE.T Try.prog p.1 args H v H':=by
 intro p hp
 simp only [aI.cs,List.mem_cons,List.not_mem_nil,or_false] at hp
 subst hp
 exact fun args H v H' h=>bits_Mul.mk_T h
theorem aI.ok:codeOk aI.pn Try.f154.ntmps aI.tb aI.code = true:=by kernel_rfl
theorem aI.T {F:Nat} {aa:Sl} {ag:Int} {H:Hp} {v:AV} {H':Hp} (h:aI.tw F aa ag H = some (v,H')):Go.AE.T Try.prog 154 [(.sl aa),(.int .i64 ag)] H v H':=
 Go.AE.T.of (Y:=tabs) (C:=mkOrc (aI.cs F (bits_Mul.tw F))) (PN:=aI.pn) (LH:=aI.lh F (bits_Mul.tw F)) (F:=F) (TB:=aI.tb) (fn:=Try.f154) (code:=aI.code) mixed tabs_ok (mkOrc_ok (aI.cs_ok F)) Try.func154 (by kernel_rfl) (by kernel_rfl) aI.ok (Nat.le_of_ble_eq_true (by kernel_rfl)) (aI.loops F (bits_Mul.tw F)) (Eq.trans (aI.eqX F (bits_Mul.tw F) aa ag H) h)
theorem aI.mk_T {F:Nat} {args:List AV} {H:Hp} {v:AV} {H':Hp} (h:aI.mk (aI.tw F) args H = some (v,H')):Go.AE.T Try.prog 154 args H v H':=by
 unfold aI.mk at h
 split at h
 ·exact aI.T h
 ·cases h
noncomputable def bf.twX (F:Nat) (aa:Int) (ab:Int) (aA:Int) (aB:Int) (az:Int) (H:Hp):OA:=(Hp.new H [(.int .i64 aa),(.int .i64 ab),(.int .i64 aA),(.int .i64 aB),(.int .i64 az)]).bind fun H6=>(Hp.new H6 [.int .i64 0,.int .i64 0,.int .i64 0,.int .i64 0]).bind fun H7=>(Hp.ldI H7 .i64 H.length 0).bind fun n8=>(Hp.ldI H7 .i64 H.length 1).bind fun n9=>(Hp.ldI H7 .i64 H.length 2).bind fun n10=>(Hp.ldI H7 .i64 H.length 3).bind fun n11=>(Hp.st H7 H6.length 0 (.int .i64 n8)).bind fun H12=>(Hp.st H12 H6.length (0 + 1) (.int .i64 n9)).bind fun H13=>(Hp.st H13 H6.length (0 + 1 + 1) (.int .i64 n10)).bind fun H14=>(Hp.st H14 H6.length (0 + 1 + 1 + 1) (.int .i64 n11)).bind fun H15=>(Hp.ldI H15 .i64 H6.length 0).bind fun n16=>(Hp.ldI H15 .i64 H6.length (0 + 1)).bind fun n17=>(Hp.ldI H15 .i64 H6.length (0 + 2)).bind fun n18=>(Hp.ldI H15 .i64 H6.length (0 + 3)).bind fun n19=>some ((.agg [(.int .i64 n16),(.int .i64 n17),(.int .i64 n18),(.int .i64 n19)]),H15)
noncomputable def bf.tw (F:Nat) (aa:Int) (ab:Int) (aA:Int) (aB:Int) (az:Int) (H:Hp):OA:=bf.twX F aa ab aA aB az H
noncomputable def bf.code:Go.Code:=(Try.f155.body).getD .skip
noncomputable def bf.lh (F:Nat) (p:Nat) (ks:List Nat) (n:Nat) (tm:Tm) (H:Hp):OA:=none
def bf.pn:Nat→List Nat:=fun i=>(([]:List (Nat×List Nat)).lookup i).getD []
def bf.tb:Nat→List (List Nat):=fun i=>(([]:List (Nat×List (List Nat))).lookup i).getD []
noncomputable def bf.mk (g:Int→Int→Int→Int→Int→Hp→OA) (args:List AV) (H:Hp):OA:=match args with
 | [(.agg [(.int .i64 aa),(.int .i64 ab),(.int .i64 aA),(.int .i64 aB),(.int .i64 az)])]=>g aa ab aA aB az H
 | _=>none
noncomputable def bf.cs (F:Nat):List (FuncId×(List AV→Hp→OA)):=[]
theorem bf.loops (F:Nat):LoopsOk tabs (mkOrc (bf.cs F)) bf.pn (bf.lh F) F [] 1 bf.code (fun tm H=>aresults tabs.ty H tm Try.f155.results.toList fun v=>some (v,H)) (fun _ _ _=>none) (fun tm H=>aresults tabs.ty H tm Try.f155.results.toList fun v=>some (v,H)):=by
 exact loops_none (by kernel_rfl)
theorem bf.eqX (F:Nat) (aa:Int) (ab:Int) (aA:Int) (aB:Int) (az:Int) (H:Hp):aCode tabs (mkOrc (bf.cs F)) bf.pn (bf.lh F) F [] 1 bf.code (argTm [(.agg [(.int .i64 aa),(.int .i64 ab),(.int .i64 aA),(.int .i64 aB),(.int .i64 az)])]) H (fun tm H=>aresults tabs.ty H tm Try.f155.results.toList fun v=>some (v,H)) (fun _ _ _=>none) (fun tm H=>aresults tabs.ty H tm Try.f155.results.toList fun v=>some (v,H)) = bf.twX F aa ab aA aB az H:=by kernel_rfl
theorem bf.cs_ok (F:Nat):∀ p ∈ bf.cs F,∀ args H v H',p.2 args H = some (v,H')→Go.AE.T Try.prog p.1 args H v H':=by
 intro p hp
 exact absurd (show p ∈ [] from hp) List.not_mem_nil
theorem bf.ok:codeOk bf.pn Try.f155.ntmps bf.tb bf.code = true:=by kernel_rfl
theorem bf.T {F:Nat} {aa:Int} {ab:Int} {aA:Int} {aB:Int} {az:Int} {H:Hp} {v:AV} {H':Hp} (h:bf.tw F aa ab aA aB az H = some (v,H')):Go.AE.T Try.prog 155 [(.agg [(.int .i64 aa),(.int .i64 ab),(.int .i64 aA),(.int .i64 aB),(.int .i64 az)])] H v H':=
 Go.AE.T.of (Y:=tabs) (C:=mkOrc (bf.cs F)) (PN:=bf.pn) (LH:=bf.lh F) (F:=F) (TB:=bf.tb) (fn:=Try.f155) (code:=bf.code) mixed tabs_ok (mkOrc_ok (bf.cs_ok F)) Try.func155 (by kernel_rfl) (by kernel_rfl) bf.ok (Nat.le_of_ble_eq_true (by kernel_rfl)) (bf.loops F) (Eq.trans (bf.eqX F aa ab aA aB az H) h)
theorem bf.mk_T {F:Nat} {args:List AV} {H:Hp} {v:AV} {H':Hp} (h:bf.mk (bf.tw F) args H = some (v,H')):Go.AE.T Try.prog 155 args H v H':=by
 unfold bf.mk at h
 split at h
 ·exact bf.T h
 ·cases h
noncomputable def bg.twX (F:Nat) (aa:Int) (ab:Int) (aA:Int) (aB:Int) (az:Int) (bc:Int) (H:Hp):OA:=(Hp.new H [(.int .i64 aa),(.int .i64 ab),(.int .i64 aA),(.int .i64 aB),(.int .i64 az)]).bind fun H7=>(bif (bc == 0) then (some ((.bool true),H7)) else ((Hp.ldI H7 .i64 H.length 4).bind fun n8=>some ((.bool (bc == (IntKind.i64.wrap (2 + n8)))),H7)))
noncomputable def bg.tw (F:Nat) (aa:Int) (ab:Int) (aA:Int) (aB:Int) (az:Int) (bc:Int) (H:Hp):OA:=bg.twX F aa ab aA aB az bc H
noncomputable def bg.code:Go.Code:=(Try.f156.body).getD .skip
noncomputable def bg.lh (F:Nat) (p:Nat) (ks:List Nat) (n:Nat) (tm:Tm) (H:Hp):OA:=none
def bg.pn:Nat→List Nat:=fun i=>(([]:List (Nat×List Nat)).lookup i).getD []
def bg.tb:Nat→List (List Nat):=fun i=>(([]:List (Nat×List (List Nat))).lookup i).getD []
noncomputable def bg.mk (g:Int→Int→Int→Int→Int→Int→Hp→OA) (args:List AV) (H:Hp):OA:=match args with
 | [(.agg [(.int .i64 aa),(.int .i64 ab),(.int .i64 aA),(.int .i64 aB),(.int .i64 az)]),(.int .i64 bc)]=>g aa ab aA aB az bc H
 | _=>none
noncomputable def bg.cs (F:Nat):List (FuncId×(List AV→Hp→OA)):=[]
theorem bg.loops (F:Nat):LoopsOk tabs (mkOrc (bg.cs F)) bg.pn (bg.lh F) F [] 1 bg.code (fun tm H=>aresults tabs.ty H tm Try.f156.results.toList fun v=>some (v,H)) (fun _ _ _=>none) (fun tm H=>aresults tabs.ty H tm Try.f156.results.toList fun v=>some (v,H)):=by
 exact loops_none (by kernel_rfl)
theorem bg.eqX (F:Nat) (aa:Int) (ab:Int) (aA:Int) (aB:Int) (az:Int) (bc:Int) (H:Hp):aCode tabs (mkOrc (bg.cs F)) bg.pn (bg.lh F) F [] 1 bg.code (argTm [(.agg [(.int .i64 aa),(.int .i64 ab),(.int .i64 aA),(.int .i64 aB),(.int .i64 az)]),(.int .i64 bc)]) H (fun tm H=>aresults tabs.ty H tm Try.f156.results.toList fun v=>some (v,H)) (fun _ _ _=>none) (fun tm H=>aresults tabs.ty H tm Try.f156.results.toList fun v=>some (v,H)) = bg.twX F aa ab aA aB az bc H:=by kernel_rfl
theorem bg.cs_ok (F:Nat):∀ p ∈ bg.cs F,∀ args H v H',p.2 args H = some (v,H')→Go.AE.T Try.prog p.1 args H v H':=by
 intro p hp
 exact absurd (show p ∈ [] from hp) List.not_mem_nil
theorem bg.ok:codeOk bg.pn Try.f156.ntmps bg.tb bg.code = true:=by kernel_rfl
theorem bg.T {F:Nat} {aa:Int} {ab:Int} {aA:Int} {aB:Int} {az:Int} {bc:Int} {H:Hp} {v:AV} {H':Hp} (h:bg.tw F aa ab aA aB az bc H = some (v,H')):Go.AE.T Try.prog 156 [(.agg [(.int .i64 aa),(.int .i64 ab),(.int .i64 aA),(.int .i64 aB),(.int .i64 az)]),(.int .i64 bc)] H v H':=
 Go.AE.T.of (Y:=tabs) (C:=mkOrc (bg.cs F)) (PN:=bg.pn) (LH:=bg.lh F) (F:=F) (TB:=bg.tb) (fn:=Try.f156) (code:=bg.code) mixed tabs_ok (mkOrc_ok (bg.cs_ok F)) Try.func156 (by kernel_rfl) (by kernel_rfl) bg.ok (Nat.le_of_ble_eq_true (by kernel_rfl)) (bg.loops F) (Eq.trans (bg.eqX F aa ab aA aB az bc H) h)
theorem bg.mk_T {F:Nat} {args:List AV} {H:Hp} {v:AV} {H':Hp} (h:bg.mk (bg.tw F) args H = some (v,H')):Go.AE.T Try.prog 156 args H v H':=by
 unfold bg.mk at h
 split at h
 ·exact bg.T h
 ·cases h
noncomputable def bI.twX (F:Nat) (aa:Sl) (H:Hp):OA:=some ((.int .i64 (aa.n:Int)),H)
noncomputable def bI.tw (F:Nat) (aa:Sl) (H:Hp):OA:=bI.twX F aa H
noncomputable def bI.code:Go.Code:=(Try.f170.body).getD .skip
noncomputable def bI.lh (F:Nat) (p:Nat) (ks:List Nat) (n:Nat) (tm:Tm) (H:Hp):OA:=none
def bI.pn:Nat→List Nat:=fun i=>(([]:List (Nat×List Nat)).lookup i).getD []
def bI.tb:Nat→List (List Nat):=fun i=>(([]:List (Nat×List (List Nat))).lookup i).getD []
noncomputable def bI.mk (g:Sl→Hp→OA) (args:List AV) (H:Hp):OA:=match args with
 | [(.sl aa)]=>g aa H
 | _=>none
noncomputable def bI.cs (F:Nat):List (FuncId×(List AV→Hp→OA)):=[]
theorem bI.loops (F:Nat):LoopsOk tabs (mkOrc (bI.cs F)) bI.pn (bI.lh F) F [] 1 bI.code (fun tm H=>aresults tabs.ty H tm Try.f170.results.toList fun v=>some (v,H)) (fun _ _ _=>none) (fun tm H=>aresults tabs.ty H tm Try.f170.results.toList fun v=>some (v,H)):=by
 exact loops_none (by kernel_rfl)
theorem bI.eqX (F:Nat) (aa:Sl) (H:Hp):aCode tabs (mkOrc (bI.cs F)) bI.pn (bI.lh F) F [] 1 bI.code (argTm [(.sl aa)]) H (fun tm H=>aresults tabs.ty H tm Try.f170.results.toList fun v=>some (v,H)) (fun _ _ _=>none) (fun tm H=>aresults tabs.ty H tm Try.f170.results.toList fun v=>some (v,H)) = bI.twX F aa H:=by kernel_rfl
theorem bI.cs_ok (F:Nat):∀ p ∈ bI.cs F,∀ args H v H',p.2 args H = some (v,H')→Go.AE.T Try.prog p.1 args H v H':=by
 intro p hp
 exact absurd (show p ∈ [] from hp) List.not_mem_nil
theorem bI.ok:codeOk bI.pn Try.f170.ntmps bI.tb bI.code = true:=by kernel_rfl
theorem bI.T {F:Nat} {aa:Sl} {H:Hp} {v:AV} {H':Hp} (h:bI.tw F aa H = some (v,H')):Go.AE.T Try.prog 170 [(.sl aa)] H v H':=
 Go.AE.T.of (Y:=tabs) (C:=mkOrc (bI.cs F)) (PN:=bI.pn) (LH:=bI.lh F) (F:=F) (TB:=bI.tb) (fn:=Try.f170) (code:=bI.code) mixed tabs_ok (mkOrc_ok (bI.cs_ok F)) Try.func170 (by kernel_rfl) (by kernel_rfl) bI.ok (Nat.le_of_ble_eq_true (by kernel_rfl)) (bI.loops F) (Eq.trans (bI.eqX F aa H) h)
theorem bI.mk_T {F:Nat} {args:List AV} {H:Hp} {v:AV} {H':Hp} (h:bI.mk (bI.tw F) args H = some (v,H')):Go.AE.T Try.prog 170 args H v H':=by
 unfold bI.mk at h
 split at h
 ·exact bI.T h
 ·cases h
noncomputable def br.twX (F:Nat) (gW:Sl→Hp→OA) (cf:Int→Int→Int→Hp→OA) (aa:Sl) (ag:Int) (H:Hp):OA:=(gW aa H).bind fun r3=>((r3.1).asI .i64).bind fun n4=>(cf ag 0 (IntKind.i64.wrap (n4 - 1)) r3.2).bind fun r5=>((r5.1).asB).bind fun b6=>some ((.bool b6),r5.2)
noncomputable def br.tw (F:Nat) (aa:Sl) (ag:Int) (H:Hp):OA:=br.twX F (bI.tw F) (a_.tw F) aa ag H
noncomputable def br.code:Go.Code:=(Try.f157.body).getD .skip
noncomputable def br.lh (F:Nat) (gW:Sl→Hp→OA) (cf:Int→Int→Int→Hp→OA) (p:Nat) (ks:List Nat) (n:Nat) (tm:Tm) (H:Hp):OA:=none
def br.pn:Nat→List Nat:=fun i=>(([]:List (Nat×List Nat)).lookup i).getD []
def br.tb:Nat→List (List Nat):=fun i=>(([]:List (Nat×List (List Nat))).lookup i).getD []
noncomputable def br.mk (g:Sl→Int→Hp→OA) (args:List AV) (H:Hp):OA:=match args with
 | [(.sl aa),(.int .i64 ag)]=>g aa ag H
 | _=>none
noncomputable def br.cs (F:Nat) (gW:Sl→Hp→OA) (cf:Int→Int→Int→Hp→OA):List (FuncId×(List AV→Hp→OA)):=[(170,bI.mk gW),(81,a_.mk cf)]
theorem br.loops (F:Nat) (gW:Sl→Hp→OA) (cf:Int→Int→Int→Hp→OA):LoopsOk tabs (mkOrc (br.cs F gW cf)) br.pn (br.lh F gW cf) F [] 1 br.code (fun tm H=>aresults tabs.ty H tm Try.f157.results.toList fun v=>some (v,H)) (fun _ _ _=>none) (fun tm H=>aresults tabs.ty H tm Try.f157.results.toList fun v=>some (v,H)):=by
 exact loops_none (by kernel_rfl)
theorem br.eqX (F:Nat) (gW:Sl→Hp→OA) (cf:Int→Int→Int→Hp→OA) (aa:Sl) (ag:Int) (H:Hp):aCode tabs (mkOrc (br.cs F gW cf)) br.pn (br.lh F gW cf) F [] 1 br.code (argTm [(.sl aa),(.int .i64 ag)]) H (fun tm H=>aresults tabs.ty H tm Try.f157.results.toList fun v=>some (v,H)) (fun _ _ _=>none) (fun tm H=>aresults tabs.ty H tm Try.f157.results.toList fun v=>some (v,H)) = br.twX F gW cf aa ag H:=by kernel_rfl
theorem br.cs_ok (F:Nat):∀ p ∈ br.cs F (bI.tw F) (a_.tw F),∀ args H v H',p.2 args H = some (v,H')→Go.AE.T Try.prog p.1 args H v H':=by
 intro p hp
 simp only [br.cs,List.mem_cons,List.not_mem_nil,or_false] at hp
 rcases hp with rfl | rfl
 ·exact fun args H v H' h=>bI.mk_T h
 ·exact fun args H v H' h=>a_.mk_T h
theorem br.ok:codeOk br.pn Try.f157.ntmps br.tb br.code = true:=by kernel_rfl
theorem br.T {F:Nat} {aa:Sl} {ag:Int} {H:Hp} {v:AV} {H':Hp} (h:br.tw F aa ag H = some (v,H')):Go.AE.T Try.prog 157 [(.sl aa),(.int .i64 ag)] H v H':=
 Go.AE.T.of (Y:=tabs) (C:=mkOrc (br.cs F (bI.tw F) (a_.tw F))) (PN:=br.pn) (LH:=br.lh F (bI.tw F) (a_.tw F)) (F:=F) (TB:=br.tb) (fn:=Try.f157) (code:=br.code) mixed tabs_ok (mkOrc_ok (br.cs_ok F)) Try.func157 (by kernel_rfl) (by kernel_rfl) br.ok (Nat.le_of_ble_eq_true (by kernel_rfl)) (br.loops F (bI.tw F) (a_.tw F)) (Eq.trans (br.eqX F (bI.tw F) (a_.tw F) aa ag H) h)
theorem br.mk_T {F:Nat} {args:List AV} {H:Hp} {v:AV} {H':Hp} (h:br.mk (br.tw F) args H = some (v,H')):Go.AE.T Try.prog 157 args H v H':=by
 unfold br.mk at h
 split at h
 ·exact br.T h
 ·cases h
noncomputable def aw.l3931 (F:Nat) (b_:Sl→Int→Hp→OA) (bM:Int→Int→Int→Int→Int→Hp→OA) (bN:Int→Int→Int→Int→Int→Int→Hp→OA) (ca:Sl→Int→Hp→OA) (C61_:Nat→Nat→Nat→Nat→Sl→Int→Int→Hp→OA):Nat→Nat→Nat→Nat→Nat→Sl→Int→Int→Nat→Nat→Int→Int→Int→Int→Int→Int→Hp→OA
 | 0,_,_,_,_,_,_,_,_,_,_,_,_,_,_,_,_=>none
 | wv + 1,bV,cg,cn,cz,fz,dk,dD,cW,ef,cA,cB,cC,cD,cE,bZ,H233=>(bif (decide (bZ < 4)) then ((if 0 ≤ bZ∧bZ < (4:Int) then (([(.int .i64 cB),(.int .i64 cC),(.int .i64 cD),(.int .i64 cE)]:List AV)[(bZ:Int).toNat * 1]?).bind fun v283=>((v283).asI .i64).bind fun n284=>(Hp.ldSl H233 cn cz).bind fun s285=>(Hp.ldI H233 .i64 cW ef).bind fun n286=>(Hp.ldI H233 .i64 cW (ef + 1)).bind fun n287=>(Hp.ldI H233 .i64 cW (ef + 2)).bind fun n288=>(Hp.ldI H233 .i64 cW (ef + 3)).bind fun n289=>(Hp.ldI H233 .i64 cW (ef + 4)).bind fun n290=>(bN n286 n287 n288 n289 n290 bZ H233).bind fun r291=>((r291.1).asB).bind fun b292=>(bif b292 then ((Hp.ldSl r291.2 cn (cz + 1)).bind fun s293=>(ca s293 n284 r291.2).bind fun r294=>((r294.1).asB).bind fun b295=>(bif (!b295) then ((Hp.ldSl r294.2 cn cz).bind fun s296=>(Hp.ldSl r294.2 cn (cz + 1)).bind fun s297=>(Hp.st r294.2 bV cg (.sl s296)).bind fun H298=>(Hp.st H298 bV (cg + 1) (.sl s297)).bind fun H299=>(Hp.ldSl H299 bV cg).bind fun s300=>(Hp.ldSl H299 bV (cg + 1)).bind fun s301=>some ((.tup [(.agg [(.sl s300),(.sl s301)]),(.bool false)]),H299)) else ((Sl.idx s293 n284 2).bind fun p302=>(Hp.ldI r294.2 .i64 p302.1 p302.2).bind fun n303=>(bif (decide (n303 ≥ 0)) then ((Hp.ldSl r294.2 cn cz).bind fun s304=>(Hp.ldSl r294.2 cn (cz + 1)).bind fun s305=>(Hp.st r294.2 bV cg (.sl s304)).bind fun H306=>(Hp.st H306 bV (cg + 1) (.sl s305)).bind fun H307=>(Hp.ldSl H307 bV cg).bind fun s308=>(Hp.ldSl H307 bV (cg + 1)).bind fun s309=>some ((.tup [(.agg [(.sl s308),(.sl s309)]),(.bool false)]),H307)) else ((Sl.idx s293 n284 2).bind fun p310=>(Hp.st r294.2 p310.1 p310.2 (.int .i64 cA)).bind fun H311=>(Hp.st H311 p310.1 (p310.2 + 1) (.int .i64 bZ)).bind fun H312=>aw.l3931 F b_ bM bN ca C61_ wv bV cg cn cz fz dk dD cW ef cA cB cC cD cE (IntKind.i64.wrap (bZ + 1)) H312))))) else ((ca s285 n284 r291.2).bind fun r313=>((r313.1).asB).bind fun b314=>(bif (!b314) then ((Hp.ldSl r313.2 cn cz).bind fun s315=>(Hp.ldSl r313.2 cn (cz + 1)).bind fun s316=>(Hp.st r313.2 bV cg (.sl s315)).bind fun H317=>(Hp.st H317 bV (cg + 1) (.sl s316)).bind fun H318=>(Hp.ldSl H318 bV cg).bind fun s319=>(Hp.ldSl H318 bV (cg + 1)).bind fun s320=>some ((.tup [(.agg [(.sl s319),(.sl s320)]),(.bool false)]),H318)) else ((Sl.idx s285 n284 2).bind fun p321=>(Hp.ldI r313.2 .i64 p321.1 p321.2).bind fun n322=>(bif (decide (n322 ≥ 0)) then ((Hp.ldSl r313.2 cn cz).bind fun s323=>(Hp.ldSl r313.2 cn (cz + 1)).bind fun s324=>(Hp.st r313.2 bV cg (.sl s323)).bind fun H325=>(Hp.st H325 bV (cg + 1) (.sl s324)).bind fun H326=>(Hp.ldSl H326 bV cg).bind fun s327=>(Hp.ldSl H326 bV (cg + 1)).bind fun s328=>some ((.tup [(.agg [(.sl s327),(.sl s328)]),(.bool false)]),H326)) else ((Sl.idx s285 n284 2).bind fun p329=>(Hp.st r313.2 p329.1 p329.2 (.int .i64 cA)).bind fun H330=>(Hp.st H330 p329.1 (p329.2 + 1) (.int .i64 bZ)).bind fun H331=>aw.l3931 F b_ bM bN ca C61_ wv bV cg cn cz fz dk dD cW ef cA cB cC cD cE (IntKind.i64.wrap (bZ + 1)) H331)))))) else none)) else (C61_ bV cg cn cz fz dk (IntKind.i64.wrap (dD + 1)) H233))
termination_by structural n=>n
noncomputable def aw.l61 (F:Nat) (b_:Sl→Int→Hp→OA) (bM:Int→Int→Int→Int→Int→Hp→OA) (bN:Int→Int→Int→Int→Int→Int→Hp→OA) (ca:Sl→Int→Hp→OA) :Nat→Nat→Nat→Nat→Nat→Sl→Int→Int→Hp→OA
 | 0,_,_,_,_,_,_,_,_=>none
 | bo + 1,dE,e_,bO,fJ,gy,ew,dG,H29=>(bif (decide (dG < ew)) then ((Sl.idx gy dG 5).bind fun p184=>(Hp.ldI H29 .i64 p184.1 p184.2).bind fun n185=>(Hp.ldI H29 .i64 p184.1 (p184.2 + 1)).bind fun n186=>(Hp.ldI H29 .i64 p184.1 (p184.2 + 2)).bind fun n187=>(Hp.ldI H29 .i64 p184.1 (p184.2 + 3)).bind fun n188=>(Hp.ldI H29 .i64 p184.1 (p184.2 + 4)).bind fun n189=>(Hp.new H29 [.int .i64 0,.int .i64 0,.int .i64 0,.int .i64 0,.int .i64 0]).bind fun H190=>(Hp.st H190 H29.length 0 (.int .i64 n185)).bind fun H191=>(Hp.st H191 H29.length (0 + 1) (.int .i64 n186)).bind fun H192=>(Hp.st H192 H29.length (0 + 1 + 1) (.int .i64 n187)).bind fun H193=>(Hp.st H193 H29.length (0 + 1 + 1 + 1) (.int .i64 n188)).bind fun H194=>(Hp.st H194 H29.length (0 + 1 + 1 + 1 + 1) (.int .i64 n189)).bind fun H195=>(Hp.ldI H195 .i64 H29.length 0).bind fun n196=>(Hp.ldI H195 .i64 H29.length (0 + 1)).bind fun n197=>(Hp.ldI H195 .i64 H29.length (0 + 2)).bind fun n198=>(Hp.ldI H195 .i64 H29.length (0 + 3)).bind fun n199=>(Hp.ldI H195 .i64 H29.length (0 + 4)).bind fun n200=>(bM n196 n197 n198 n199 n200 H195).bind fun r201=>((r201.1).asAgg 4).bind fun l202=>(l202[0]?).bind fun v203=>((v203).asI .i64).bind fun n204=>(l202[1]?).bind fun v205=>((v205).asI .i64).bind fun n206=>(l202[2]?).bind fun v207=>((v207).asI .i64).bind fun n208=>(l202[3]?).bind fun v209=>((v209).asI .i64).bind fun n210=>aw.l3931 F b_ bM bN ca (aw.l61 F b_ bM bN ca bo) F dE e_ bO fJ gy ew dG H29.length 0 dG n204 n206 n208 n210 0 r201.2) else ((Hp.ldSl H29 bO fJ).bind fun s332=>(Hp.ldSl H29 bO (fJ + 1)).bind fun s333=>(Hp.st H29 dE e_ (.sl s332)).bind fun H334=>(Hp.st H334 dE (e_ + 1) (.sl s333)).bind fun H335=>(Hp.ldSl H335 dE e_).bind fun s336=>(Hp.ldSl H335 dE (e_ + 1)).bind fun s337=>some ((.tup [(.agg [(.sl s336),(.sl s337)]),(.bool true)]),H335)))
termination_by structural n=>n
noncomputable def aw.twX (F:Nat) (b_:Sl→Int→Hp→OA) (bM:Int→Int→Int→Int→Int→Hp→OA) (bN:Int→Int→Int→Int→Int→Int→Hp→OA) (ca:Sl→Int→Hp→OA) (aa:Sl) (ab:Int) (H:Hp):OA:=(Hp.new H [(.sl aa),(.int .i64 ab)]).bind fun H3=>(Hp.new H3 [.sl ⟨none,0,.ex 0⟩,.sl ⟨none,0,.ex 0⟩]).bind fun H4=>(Hp.ldSl H4 H.length 0).bind fun s5=>(Hp.new H4 [(.int .i64 (-1)),(.int .i64 0)]).bind fun H6=>(b_ (⟨some (H4.length,0),1,.ex 1⟩:Sl) (IntKind.i64.wrap (2 * (s5.n:Int))) H6).bind fun r7=>((r7.1).asSl).bind fun s8=>(Hp.new r7.2 [(.int .i64 (-1)),(.int .i64 0)]).bind fun H9=>(b_ (⟨some (r7.2.length,0),1,.ex 1⟩:Sl) (IntKind.i64.wrap (2 * (s5.n:Int))) H9).bind fun r10=>((r10.1).asSl).bind fun s11=>(Hp.new r10.2 [.sl ⟨none,0,.ex 0⟩,.sl ⟨none,0,.ex 0⟩]).bind fun H12=>(Hp.st H12 r10.2.length 0 (.sl s8)).bind fun H13=>(Hp.st H13 r10.2.length (0 + 1) (.sl s11)).bind fun H14=>(Hp.ldSl H14 H.length 0).bind fun s15=>aw.l61 F b_ bM bN ca F H3.length 0 r10.2.length 0 s15 (s15.n:Int) 0 H14
noncomputable def aw.tw (F:Nat) (aa:Sl) (ab:Int) (H:Hp):OA:=aw.twX F (aI.tw F) (bf.tw F) (bg.tw F) (br.tw F) aa ab H
noncomputable def aw.code:Go.Code:=(Try.f125.body).getD .skip
noncomputable def aw.lh61 (F:Nat) (b_:Sl→Int→Hp→OA) (bM:Int→Int→Int→Int→Int→Hp→OA) (bN:Int→Int→Int→Int→Int→Int→Hp→OA) (ca:Sl→Int→Hp→OA) (ks:List Nat) (n:Nat) (tm:Tm) (H:Hp):OA:=match ks,tm 2,tm 5,tm 25,tm 26,tm 27 with
 | [],(.ptr dE e_),(.ptr bO fJ),(.sl gy),(.int .i64 ew),(.int .i64 dG)=>aw.l61 F b_ bM bN ca n dE e_ bO fJ gy ew dG H
 | _,_,_,_,_,_=>none
theorem aw.lh61_inv {F:Nat} {b_:Sl→Int→Hp→OA} {bM:Int→Int→Int→Int→Int→Hp→OA} {bN:Int→Int→Int→Int→Int→Int→Hp→OA} {ca:Sl→Int→Hp→OA} {ks:List Nat} {n:Nat} {tm:Tm} {H:Hp} {r:AV×Hp} (h:aw.lh61 F b_ bM bN ca ks n tm H = some r):∃ dE:Nat,∃ e_:Nat,∃ bO:Nat,∃ fJ:Nat,∃ gy:Sl,∃ ew:Int,∃ dG:Int,ks = []∧tm 2 = (.ptr dE e_)∧tm 5 = (.ptr bO fJ)∧tm 25 = (.sl gy)∧tm 26 = (.int .i64 ew)∧tm 27 = (.int .i64 dG)∧aw.l61 F b_ bM bN ca n dE e_ bO fJ gy ew dG H = some r:=by
 unfold aw.lh61 at h
 split at h
 ·exact ⟨_,_,_,_,_,_,_,rfl,by assumption,by assumption,by assumption,by assumption,by assumption,h⟩
 ·cases h
noncomputable def aw.lh3931 (F:Nat) (b_:Sl→Int→Hp→OA) (bM:Int→Int→Int→Int→Int→Hp→OA) (bN:Int→Int→Int→Int→Int→Int→Hp→OA) (ca:Sl→Int→Hp→OA) (ks:List Nat) (n:Nat) (tm:Tm) (H:Hp):OA:=match ks,tm 2,tm 5,tm 6,tm 7,tm 25,tm 26,tm 27,tm 33,tm 34 with
 | [bo],(.ptr bV cg),(.ptr cn cz),(.int .i64 cA),(.ptr cW ef),(.sl fz),(.int .i64 dk),(.int .i64 dD),(.agg [(.int .i64 cB),(.int .i64 cC),(.int .i64 cD),(.int .i64 cE)]),(.int .i64 bZ)=>aw.l3931 F b_ bM bN ca (aw.l61 F b_ bM bN ca bo) n bV cg cn cz fz dk dD cW ef cA cB cC cD cE bZ H
 | _,_,_,_,_,_,_,_,_,_=>none
theorem aw.lh3931_inv {F:Nat} {b_:Sl→Int→Hp→OA} {bM:Int→Int→Int→Int→Int→Hp→OA} {bN:Int→Int→Int→Int→Int→Int→Hp→OA} {ca:Sl→Int→Hp→OA} {ks:List Nat} {n:Nat} {tm:Tm} {H:Hp} {r:AV×Hp} (h:aw.lh3931 F b_ bM bN ca ks n tm H = some r):∃ bo:Nat,∃ bV:Nat,∃ cg:Nat,∃ cn:Nat,∃ cz:Nat,∃ cA:Int,∃ cW:Nat,∃ ef:Nat,∃ fz:Sl,∃ dk:Int,∃ dD:Int,∃ cB:Int,∃ cC:Int,∃ cD:Int,∃ cE:Int,∃ bZ:Int,ks = [bo]∧tm 2 = (.ptr bV cg)∧tm 5 = (.ptr cn cz)∧tm 6 = (.int .i64 cA)∧tm 7 = (.ptr cW ef)∧tm 25 = (.sl fz)∧tm 26 = (.int .i64 dk)∧tm 27 = (.int .i64 dD)∧tm 33 = (.agg [(.int .i64 cB),(.int .i64 cC),(.int .i64 cD),(.int .i64 cE)])∧tm 34 = (.int .i64 bZ)∧aw.l3931 F b_ bM bN ca (aw.l61 F b_ bM bN ca bo) n bV cg cn cz fz dk dD cW ef cA cB cC cD cE bZ H = some r:=by
 unfold aw.lh3931 at h
 split at h
 ·exact ⟨_,_,_,_,_,_,_,_,_,_,_,_,_,_,_,_,rfl,by assumption,by assumption,by assumption,by assumption,by assumption,by assumption,by assumption,by assumption,by assumption,h⟩
 ·cases h
noncomputable def aw.lh (F:Nat) (b_:Sl→Int→Hp→OA) (bM:Int→Int→Int→Int→Int→Hp→OA) (bN:Int→Int→Int→Int→Int→Int→Hp→OA) (ca:Sl→Int→Hp→OA) (p:Nat) (ks:List Nat) (n:Nat) (tm:Tm) (H:Hp):OA:=bif p.beq 3931 then aw.lh3931 F b_ bM bN ca ks n tm H else (bif p.beq 61 then aw.lh61 F b_ bM bN ca ks n tm H else (none))
def aw.pn:Nat→List Nat:=fun i=>(([]:List (Nat×List Nat)).lookup i).getD []
def aw.tb:Nat→List (List Nat):=fun i=>(([]:List (Nat×List (List Nat))).lookup i).getD []
noncomputable def aw.mk (g:Sl→Int→Hp→OA) (args:List AV) (H:Hp):OA:=match args with
 | [(.agg [(.sl aa),(.int .i64 ab)])]=>g aa ab H
 | _=>none
noncomputable def aw.cs (F:Nat) (b_:Sl→Int→Hp→OA) (bM:Int→Int→Int→Int→Int→Hp→OA) (bN:Int→Int→Int→Int→Int→Int→Hp→OA) (ca:Sl→Int→Hp→OA):List (FuncId×(List AV→Hp→OA)):=[(154,aI.mk b_),(155,bf.mk bM),(156,bg.mk bN),(157,br.mk ca)]
theorem aw.loops (F:Nat) (b_:Sl→Int→Hp→OA) (bM:Int→Int→Int→Int→Int→Hp→OA) (bN:Int→Int→Int→Int→Int→Int→Hp→OA) (ca:Sl→Int→Hp→OA):LoopsOk tabs (mkOrc (aw.cs F b_ bM bN ca)) aw.pn (aw.lh F b_ bM bN ca) F [] 1 aw.code (fun tm H=>aresults tabs.ty H tm Try.f125.results.toList fun v=>some (v,H)) (fun _ _ _=>none) (fun tm H=>aresults tabs.ty H tm Try.f125.results.toList fun v=>some (v,H)):=by
 refine LoopsOk.seq ?_ ?_
 ·exact loops_none (by kernel_rfl)
 ·refine LoopsOk.seq ?_ ?_
  ·exact loops_none (by kernel_rfl)
  ·refine LoopsOk.seq ?_ ?_
   ·exact loops_none (by kernel_rfl)
   ·refine LoopsOk.seq ?_ ?_
    ·refine LoopsOk.seq ?_ ?_
     ·exact loops_none (by kernel_rfl)
     ·refine LoopsOk.block ?_
      refine LoopsOk.loop (fun tm H=>?_) (fun k61 tm H r h0=>?_) (fun k61=>?_)
      ·refine none_of fun r h0=>?_
       obtain ⟨dE,e_,bO,fJ,gy,ew,dG,hks,e2,e5,e25,e26,e27,h⟩:=aw.lh61_inv (show aw.lh61 F b_ bM bN ca [] 0 tm H = some r from h0)
       cases h
      ·obtain ⟨dE,e_,bO,fJ,gy,ew,dG,hks,e2,e5,e25,e26,e27,h⟩:=aw.lh61_inv (show aw.lh61 F b_ bM bN ca [] (k61 + 1) tm H = some r from h0)
       have q0:(Tm.put tm 2 (.ptr dE e_)) = tm:=by exact Tm.put_same e2
       have q1:(Tm.put (Tm.put tm 2 (.ptr dE e_)) 5 (.ptr bO fJ)) = tm:=by rw [q0]; exact Tm.put_same e5
       have q2:(Tm.put (Tm.put (Tm.put tm 2 (.ptr dE e_)) 5 (.ptr bO fJ)) 25 (.sl gy)) = tm:=by rw [q1]; exact Tm.put_same e25
       have q3:(Tm.put (Tm.put (Tm.put (Tm.put tm 2 (.ptr dE e_)) 5 (.ptr bO fJ)) 25 (.sl gy)) 26 (.int .i64 ew)) = tm:=by rw [q2]; exact Tm.put_same e26
       have q4:(Tm.put (Tm.put (Tm.put (Tm.put (Tm.put tm 2 (.ptr dE e_)) 5 (.ptr bO fJ)) 25 (.sl gy)) 26 (.int .i64 ew)) 27 (.int .i64 dG)) = tm:=by rw [q3]; exact Tm.put_same e27
       rw [← q4]
       exact Eq.trans (by kernel_rfl) h
      ·refine LoopsOk.seq ?_ ?_
       ·exact loops_none (by kernel_rfl)
       ·refine LoopsOk.seq ?_ ?_
        ·exact loops_none (by kernel_rfl)
        ·refine LoopsOk.seq ?_ ?_
         ·refine LoopsOk.block ?_
          refine LoopsOk.seq ?_ ?_
          ·exact loops_none (by kernel_rfl)
          ·refine LoopsOk.seq ?_ ?_
           ·exact loops_none (by kernel_rfl)
           ·refine LoopsOk.block ?_
            refine LoopsOk.loop (fun tm H=>?_) (fun k3931 tm H r h0=>?_) (fun k3931=>?_)
            ·refine none_of fun r h0=>?_
             obtain ⟨bo,bV,cg,cn,cz,cA,cW,ef,fz,dk,dD,cB,cC,cD,cE,bZ,hks,e2,e5,e6,e7,e25,e26,e27,e33,e34,h⟩:=aw.lh3931_inv (show aw.lh3931 F b_ bM bN ca [k61] 0 tm H = some r from h0)
             cases h
            ·obtain ⟨bo,bV,cg,cn,cz,cA,cW,ef,fz,dk,dD,cB,cC,cD,cE,bZ,hks,e2,e5,e6,e7,e25,e26,e27,e33,e34,h⟩:=aw.lh3931_inv (show aw.lh3931 F b_ bM bN ca [k61] (k3931 + 1) tm H = some r from h0)
             obtain rfl:bo = k61:=by simpa [eq_comm] using hks
             have q0:(Tm.put tm 2 (.ptr bV cg)) = tm:=by exact Tm.put_same e2
             have q1:(Tm.put (Tm.put tm 2 (.ptr bV cg)) 5 (.ptr cn cz)) = tm:=by rw [q0]; exact Tm.put_same e5
             have q2:(Tm.put (Tm.put (Tm.put tm 2 (.ptr bV cg)) 5 (.ptr cn cz)) 6 (.int .i64 cA)) = tm:=by rw [q1]; exact Tm.put_same e6
             have q3:(Tm.put (Tm.put (Tm.put (Tm.put tm 2 (.ptr bV cg)) 5 (.ptr cn cz)) 6 (.int .i64 cA)) 7 (.ptr cW ef)) = tm:=by rw [q2]; exact Tm.put_same e7
             have q4:(Tm.put (Tm.put (Tm.put (Tm.put (Tm.put tm 2 (.ptr bV cg)) 5 (.ptr cn cz)) 6 (.int .i64 cA)) 7 (.ptr cW ef)) 25 (.sl fz)) = tm:=by rw [q3]; exact Tm.put_same e25
             have q5:(Tm.put (Tm.put (Tm.put (Tm.put (Tm.put (Tm.put tm 2 (.ptr bV cg)) 5 (.ptr cn cz)) 6 (.int .i64 cA)) 7 (.ptr cW ef)) 25 (.sl fz)) 26 (.int .i64 dk)) = tm:=by rw [q4]; exact Tm.put_same e26
             have q6:(Tm.put (Tm.put (Tm.put (Tm.put (Tm.put (Tm.put (Tm.put tm 2 (.ptr bV cg)) 5 (.ptr cn cz)) 6 (.int .i64 cA)) 7 (.ptr cW ef)) 25 (.sl fz)) 26 (.int .i64 dk)) 27 (.int .i64 dD)) = tm:=by rw [q5]; exact Tm.put_same e27
             have q7:(Tm.put (Tm.put (Tm.put (Tm.put (Tm.put (Tm.put (Tm.put (Tm.put tm 2 (.ptr bV cg)) 5 (.ptr cn cz)) 6 (.int .i64 cA)) 7 (.ptr cW ef)) 25 (.sl fz)) 26 (.int .i64 dk)) 27 (.int .i64 dD)) 33 (.agg [(.int .i64 cB),(.int .i64 cC),(.int .i64 cD),(.int .i64 cE)])) = tm:=by rw [q6]; exact Tm.put_same e33
             have q8:(Tm.put (Tm.put (Tm.put (Tm.put (Tm.put (Tm.put (Tm.put (Tm.put (Tm.put tm 2 (.ptr bV cg)) 5 (.ptr cn cz)) 6 (.int .i64 cA)) 7 (.ptr cW ef)) 25 (.sl fz)) 26 (.int .i64 dk)) 27 (.int .i64 dD)) 33 (.agg [(.int .i64 cB),(.int .i64 cC),(.int .i64 cD),(.int .i64 cE)])) 34 (.int .i64 bZ)) = tm:=by rw [q7]; exact Tm.put_same e34
             rw [← q8]
             exact Eq.trans (by kernel_rfl) h
            ·exact loops_none (by kernel_rfl)
         ·exact loops_none (by kernel_rfl)
    ·exact loops_none (by kernel_rfl)
theorem aw.eqX (F:Nat) (b_:Sl→Int→Hp→OA) (bM:Int→Int→Int→Int→Int→Hp→OA) (bN:Int→Int→Int→Int→Int→Int→Hp→OA) (ca:Sl→Int→Hp→OA) (aa:Sl) (ab:Int) (H:Hp):aCode tabs (mkOrc (aw.cs F b_ bM bN ca)) aw.pn (aw.lh F b_ bM bN ca) F [] 1 aw.code (argTm [(.agg [(.sl aa),(.int .i64 ab)])]) H (fun tm H=>aresults tabs.ty H tm Try.f125.results.toList fun v=>some (v,H)) (fun _ _ _=>none) (fun tm H=>aresults tabs.ty H tm Try.f125.results.toList fun v=>some (v,H)) = aw.twX F b_ bM bN ca aa ab H:=by kernel_rfl
theorem aw.cs_ok (F:Nat):∀ p ∈ aw.cs F (aI.tw F) (bf.tw F) (bg.tw F) (br.tw F),∀ args H v H',p.2 args H = some (v,H')→Go.AE.T Try.prog p.1 args H v H':=by
 intro p hp
 simp only [aw.cs,List.mem_cons,List.not_mem_nil,or_false] at hp
 rcases hp with rfl | rfl | rfl | rfl
 ·exact fun args H v H' h=>aI.mk_T h
 ·exact fun args H v H' h=>bf.mk_T h
 ·exact fun args H v H' h=>bg.mk_T h
 ·exact fun args H v H' h=>br.mk_T h
theorem aw.ok:codeOk aw.pn Try.f125.ntmps aw.tb aw.code = true:=by kernel_rfl
theorem aw.T {F:Nat} {aa:Sl} {ab:Int} {H:Hp} {v:AV} {H':Hp} (h:aw.tw F aa ab H = some (v,H')):Go.AE.T Try.prog 125 [(.agg [(.sl aa),(.int .i64 ab)])] H v H':=
 Go.AE.T.of (Y:=tabs) (C:=mkOrc (aw.cs F (aI.tw F) (bf.tw F) (bg.tw F) (br.tw F))) (PN:=aw.pn) (LH:=aw.lh F (aI.tw F) (bf.tw F) (bg.tw F) (br.tw F)) (F:=F) (TB:=aw.tb) (fn:=Try.f125) (code:=aw.code) mixed tabs_ok (mkOrc_ok (aw.cs_ok F)) Try.func125 (by kernel_rfl) (by kernel_rfl) aw.ok (Nat.le_of_ble_eq_true (by kernel_rfl)) (aw.loops F (aI.tw F) (bf.tw F) (bg.tw F) (br.tw F)) (Eq.trans (aw.eqX F (aI.tw F) (bf.tw F) (bg.tw F) (br.tw F) aa ab H) h)
theorem aw.mk_T {F:Nat} {args:List AV} {H:Hp} {v:AV} {H':Hp} (h:aw.mk (aw.tw F) args H = some (v,H')):Go.AE.T Try.prog 125 args H v H':=by
 unfold aw.mk at h
 split at h
 ·exact aw.T h
 ·cases h
noncomputable def bm.twX (F:Nat) (bM:Int→Int→Int→Int→Int→Hp→OA) (bN:Int→Int→Int→Int→Int→Int→Hp→OA) (aa:Sl) (ab:Int) (ah:Sl) (aL:Sl) (cj:Int) (dH:Int) (H:Hp):OA:=(Hp.new H [(.sl aa),(.int .i64 ab)]).bind fun H7=>(Hp.new H7 [(.sl ah),(.sl aL)]).bind fun H8=>(Hp.new H8 [(.int .i64 cj),(.int .i64 dH)]).bind fun H9=>(Hp.new H9 [.int .i64 0,.int .i64 0]).bind fun H10=>(Hp.ldSl H10 H.length 0).bind fun s11=>(Hp.ldI H10 .i64 H8.length 0).bind fun n12=>(Sl.idx s11 n12 5).bind fun p13=>(Hp.ldI H10 .i64 p13.1 p13.2).bind fun n14=>(Hp.ldI H10 .i64 p13.1 (p13.2 + 1)).bind fun n15=>(Hp.ldI H10 .i64 p13.1 (p13.2 + 2)).bind fun n16=>(Hp.ldI H10 .i64 p13.1 (p13.2 + 3)).bind fun n17=>(Hp.ldI H10 .i64 p13.1 (p13.2 + 4)).bind fun n18=>(Hp.new H10 [.int .i64 0,.int .i64 0,.int .i64 0,.int .i64 0,.int .i64 0]).bind fun H19=>(Hp.st H19 H10.length 0 (.int .i64 n14)).bind fun H20=>(Hp.st H20 H10.length (0 + 1) (.int .i64 n15)).bind fun H21=>(Hp.st H21 H10.length (0 + 1 + 1) (.int .i64 n16)).bind fun H22=>(Hp.st H22 H10.length (0 + 1 + 1 + 1) (.int .i64 n17)).bind fun H23=>(Hp.st H23 H10.length (0 + 1 + 1 + 1 + 1) (.int .i64 n18)).bind fun H24=>(Hp.ldI H24 .i64 H10.length 0).bind fun n25=>(Hp.ldI H24 .i64 H10.length (0 + 1)).bind fun n26=>(Hp.ldI H24 .i64 H10.length (0 + 2)).bind fun n27=>(Hp.ldI H24 .i64 H10.length (0 + 3)).bind fun n28=>(Hp.ldI H24 .i64 H10.length (0 + 4)).bind fun n29=>(bM n25 n26 n27 n28 n29 H24).bind fun r30=>((r30.1).asAgg 4).bind fun l31=>(l31[0]?).bind fun v32=>((v32).asI .i64).bind fun n33=>(l31[1]?).bind fun v34=>((v34).asI .i64).bind fun n35=>(l31[2]?).bind fun v36=>((v36).asI .i64).bind fun n37=>(l31[3]?).bind fun v38=>((v38).asI .i64).bind fun n39=>(if Cons H24 r30.2 then ((Hp.ldI r30.2 .i64 H8.length 1).bind fun n40=>(if 0 ≤ n40∧n40 < (4:Int) then (([(.int .i64 n33),(.int .i64 n35),(.int .i64 n37),(.int .i64 n39)]:List AV)[(n40:Int).toNat * 1]?).bind fun v41=>((v41).asI .i64).bind fun n42=>(Hp.ldI r30.2 .i64 H10.length 0).bind fun n43=>(Hp.ldI r30.2 .i64 H10.length (0 + 1)).bind fun n44=>(Hp.ldI r30.2 .i64 H10.length (0 + 2)).bind fun n45=>(Hp.ldI r30.2 .i64 H10.length (0 + 3)).bind fun n46=>(Hp.ldI r30.2 .i64 H10.length (0 + 4)).bind fun n47=>(Hp.ldI r30.2 .i64 H8.length 1).bind fun n48=>(bN n43 n44 n45 n46 n47 n48 r30.2).bind fun r49=>((r49.1).asB).bind fun b50=>(bif b50 then ((Hp.ldSl r49.2 H7.length 0).bind fun s51=>(Sl.idx s51 n42 2).bind fun p52=>(Hp.ldI r49.2 .i64 p52.1 p52.2).bind fun n53=>(Hp.ldI r49.2 .i64 p52.1 (p52.2 + 1)).bind fun n54=>(Hp.st r49.2 H9.length 0 (.int .i64 n53)).bind fun H55=>(Hp.st H55 H9.length (0 + 1) (.int .i64 n54)).bind fun H56=>(Hp.ldI H56 .i64 H9.length 0).bind fun n57=>(Hp.ldI H56 .i64 H9.length (0 + 1)).bind fun n58=>some ((.agg [(.int .i64 n57),(.int .i64 n58)]),H56)) else ((Hp.ldSl r49.2 H7.length 1).bind fun s59=>(Sl.idx s59 n42 2).bind fun p60=>(Hp.ldI r49.2 .i64 p60.1 p60.2).bind fun n61=>(Hp.ldI r49.2 .i64 p60.1 (p60.2 + 1)).bind fun n62=>(Hp.st r49.2 H9.length 0 (.int .i64 n61)).bind fun H63=>(Hp.st H63 H9.length (0 + 1) (.int .i64 n62)).bind fun H64=>(Hp.ldI H64 .i64 H9.length 0).bind fun n65=>(Hp.ldI H64 .i64 H9.length (0 + 1)).bind fun n66=>some ((.agg [(.int .i64 n65),(.int .i64 n66)]),H64))) else none)) else none)
noncomputable def bm.tw (F:Nat) (aa:Sl) (ab:Int) (ah:Sl) (aL:Sl) (cj:Int) (dH:Int) (H:Hp):OA:=bm.twX F (bf.tw F) (bg.tw F) aa ab ah aL cj dH H
noncomputable def bm.code:Go.Code:=(Try.f139.body).getD .skip
noncomputable def bm.lh (F:Nat) (bM:Int→Int→Int→Int→Int→Hp→OA) (bN:Int→Int→Int→Int→Int→Int→Hp→OA) (p:Nat) (ks:List Nat) (n:Nat) (tm:Tm) (H:Hp):OA:=none
def bm.pn:Nat→List Nat:=fun i=>(([(2,[])]:List (Nat×List Nat)).lookup i).getD []
def bm.tb:Nat→List (List Nat):=fun i=>(([(2,[[],[0],[],[2],[0,1,2,3],[0,1,2,3,4]])]:List (Nat×List (List Nat))).lookup i).getD []
noncomputable def bm.mk (g:Sl→Int→Sl→Sl→Int→Int→Hp→OA) (args:List AV) (H:Hp):OA:=match args with
 | [(.agg [(.sl aa),(.int .i64 ab)]),(.agg [(.sl ah),(.sl aL)]),(.agg [(.int .i64 cj),(.int .i64 dH)])]=>g aa ab ah aL cj dH H
 | _=>none
noncomputable def bm.cs (F:Nat) (bM:Int→Int→Int→Int→Int→Hp→OA) (bN:Int→Int→Int→Int→Int→Int→Hp→OA):List (FuncId×(List AV→Hp→OA)):=[(155,bf.mk bM),(156,bg.mk bN)]
theorem bm.loops (F:Nat) (bM:Int→Int→Int→Int→Int→Hp→OA) (bN:Int→Int→Int→Int→Int→Int→Hp→OA):LoopsOk tabs (mkOrc (bm.cs F bM bN)) bm.pn (bm.lh F bM bN) F [] 1 bm.code (fun tm H=>aresults tabs.ty H tm Try.f139.results.toList fun v=>some (v,H)) (fun _ _ _=>none) (fun tm H=>aresults tabs.ty H tm Try.f139.results.toList fun v=>some (v,H)):=by
 exact loops_none (by kernel_rfl)
theorem bm.eqX (F:Nat) (bM:Int→Int→Int→Int→Int→Hp→OA) (bN:Int→Int→Int→Int→Int→Int→Hp→OA) (aa:Sl) (ab:Int) (ah:Sl) (aL:Sl) (cj:Int) (dH:Int) (H:Hp):aCode tabs (mkOrc (bm.cs F bM bN)) bm.pn (bm.lh F bM bN) F [] 1 bm.code (argTm [(.agg [(.sl aa),(.int .i64 ab)]),(.agg [(.sl ah),(.sl aL)]),(.agg [(.int .i64 cj),(.int .i64 dH)])]) H (fun tm H=>aresults tabs.ty H tm Try.f139.results.toList fun v=>some (v,H)) (fun _ _ _=>none) (fun tm H=>aresults tabs.ty H tm Try.f139.results.toList fun v=>some (v,H)) = bm.twX F bM bN aa ab ah aL cj dH H:=by kernel_rfl
theorem bm.cs_ok (F:Nat):∀ p ∈ bm.cs F (bf.tw F) (bg.tw F),∀ args H v H',p.2 args H = some (v,H')→Go.AE.T Try.prog p.1 args H v H':=by
 intro p hp
 simp only [bm.cs,List.mem_cons,List.not_mem_nil,or_false] at hp
 rcases hp with rfl | rfl
 ·exact fun args H v H' h=>bf.mk_T h
 ·exact fun args H v H' h=>bg.mk_T h
theorem bm.ok:codeOk bm.pn Try.f139.ntmps bm.tb bm.code = true:=by kernel_rfl
theorem bm.T {F:Nat} {aa:Sl} {ab:Int} {ah:Sl} {aL:Sl} {cj:Int} {dH:Int} {H:Hp} {v:AV} {H':Hp} (h:bm.tw F aa ab ah aL cj dH H = some (v,H')):Go.AE.T Try.prog 139 [(.agg [(.sl aa),(.int .i64 ab)]),(.agg [(.sl ah),(.sl aL)]),(.agg [(.int .i64 cj),(.int .i64 dH)])] H v H':=
 Go.AE.T.of (Y:=tabs) (C:=mkOrc (bm.cs F (bf.tw F) (bg.tw F))) (PN:=bm.pn) (LH:=bm.lh F (bf.tw F) (bg.tw F)) (F:=F) (TB:=bm.tb) (fn:=Try.f139) (code:=bm.code) mixed tabs_ok (mkOrc_ok (bm.cs_ok F)) Try.func139 (by kernel_rfl) (by kernel_rfl) bm.ok (Nat.le_of_ble_eq_true (by kernel_rfl)) (bm.loops F (bf.tw F) (bg.tw F)) (Eq.trans (bm.eqX F (bf.tw F) (bg.tw F) aa ab ah aL cj dH H) h)
theorem bm.mk_T {F:Nat} {args:List AV} {H:Hp} {v:AV} {H':Hp} (h:bm.mk (bm.tw F) args H = some (v,H')):Go.AE.T Try.prog 139 args H v H':=by
 unfold bm.mk at h
 split at h
 ·exact bm.T h
 ·cases h
noncomputable def aj.j4 (F:Nat) (bT:Sl→Int→Sl→Sl→Int→Int→Hp→OA) (C61_:Nat→Nat→Nat→Nat→Sl→Sl→Int→Int→Hp→OA) (pc:Nat) (Ei:Nat) (pd:Nat) (Ej:Nat) (Ek:Sl) (El:Sl) (kC:Int) (kD:Int) (H248:Hp):OA:=C61_ pc Ei pd Ej Ek El kC (IntKind.i64.wrap (kD + 1)) H248
noncomputable def aj.j5 (F:Nat) (bT:Sl→Int→Sl→Sl→Int→Int→Hp→OA) (C61_:Nat→Nat→Nat→Nat→Sl→Sl→Int→Int→Hp→OA) (pe:Nat) (Em:Nat) (kg:Nat) (En:Nat) (iZ:Sl) (Eo:Sl) (kE:Int) (kF:Int) (H228:Hp):OA:=aj.j4 F bT C61_ pe Em kg En iZ Eo kE kF H228
noncomputable def aj.j6 (F:Nat) (bT:Sl→Int→Sl→Sl→Int→Int→Hp→OA) (C61_:Nat→Nat→Nat→Nat→Sl→Sl→Int→Int→Hp→OA) (lq:Nat) (ww:Nat) (lr:Nat) (wx:Nat) (wy:Sl) (wz:Sl) (wA:Sl) (jb:Int) (jc:Int) (H205:Hp):OA:=(bif (decide ((wA.n:Int) > 0)) then ((Hp.new H205 [(.sl wA)]).bind fun H206=>(Sl.row H206 (⟨some (H205.length,0),1,.ex 1⟩:Sl) 1).bind fun xs208=>(Hp.app H206 1 24 wy (⟨some (H205.length,0),1,.ex 1⟩:Sl).n xs208).bind fun a207=>aj.j5 F bT C61_ lq ww lr wx a207.1 wz jb jc a207.2) else (aj.j5 F bT C61_ lq ww lr wx wy wz jb jc H205))
noncomputable def aj.l15725 (F:Nat) (bT:Sl→Int→Sl→Sl→Int→Int→Hp→OA) (C61_:Nat→Nat→Nat→Nat→Sl→Sl→Int→Int→Hp→OA):Nat→Nat→Nat→Nat→Nat→Sl→Sl→Int→Int→Sl→Int→Hp→OA
 | 0,_,_,_,_,_,_,_,_,_,_,_=>none
 | Er + 1,db,ey,dl,eP,fA,fo,ez,eQ,fY,cF,H164=>(Sl.idx fo cF 1).bind fun p249=>(Hp.ldB H164 p249.1 p249.2).bind fun b250=>(bif (!b250) then ((Sl.idx fo cF 1).bind fun p251=>(Hp.st H164 p251.1 p251.2 (.bool true)).bind fun H252=>(Hp.new H252 [(.int .i64 cF)]).bind fun H253=>(Sl.row H253 (⟨some (H252.length,0),1,.ex 1⟩:Sl) 1).bind fun xs255=>(Hp.app H253 1 8 fY (⟨some (H252.length,0),1,.ex 1⟩:Sl).n xs255).bind fun a254=>(Hp.ldSl a254.2 db ey).bind fun s256=>(Hp.ldI a254.2 .i64 db (ey + 1)).bind fun n257=>(Hp.ldSl a254.2 dl eP).bind fun s258=>(Hp.ldSl a254.2 dl (eP + 1)).bind fun s259=>(bT s256 n257 s258 s259 (IntKind.i64.wrap (Int.tdiv cF 4)) (Int.tmod (IntKind.i64.wrap (cF + 1)) 4) a254.2).bind fun r260=>((r260.1).asAgg 2).bind fun l261=>(l261[0]?).bind fun v262=>((v262).asI .i64).bind fun n263=>(l261[1]?).bind fun v264=>((v264).asI .i64).bind fun n265=>(Hp.new r260.2 [.int .i64 0,.int .i64 0]).bind fun H266=>(Hp.st H266 r260.2.length 0 (.int .i64 n263)).bind fun H267=>(Hp.st H267 r260.2.length (0 + 1) (.int .i64 n265)).bind fun H268=>(Hp.ldI H268 .i64 r260.2.length 0).bind fun n269=>(Hp.ldI H268 .i64 r260.2.length 1).bind fun n270=>aj.l15725 F bT C61_ Er db ey dl eP fA fo ez eQ a254.1 (IntKind.i64.wrap ((IntKind.i64.wrap (4 * n269)) + n270)) H268) else (aj.j6 F bT C61_ db ey dl eP fA fo fY ez eQ H164))
termination_by structural n=>n
noncomputable def aj.l61 (F:Nat) (bT:Sl→Int→Sl→Sl→Int→Int→Hp→OA) :Nat→Nat→Nat→Nat→Nat→Sl→Sl→Int→Int→Hp→OA
 | 0,_,_,_,_,_,_,_,_,_=>none
 | bo + 1,eA,fK,co,fZ,f_,gX,eB,eg,H22=>(bif (decide (eg < eB)) then (aj.l15725 F bT (aj.l61 F bT bo) F eA fK co fZ f_ gX eB eg (⟨none,0,.ex 0⟩:Sl) eg H22) else (some ((.sl f_),H22)))
termination_by structural n=>n
noncomputable def aj.twX (F:Nat) (bT:Sl→Int→Sl→Sl→Int→Int→Hp→OA) (aa:Sl) (ab:Int) (ah:Sl) (aL:Sl) (H:Hp):OA:=(Hp.new H [(.sl aa),(.int .i64 ab)]).bind fun H5=>(Hp.new H5 [(.sl ah),(.sl aL)]).bind fun H6=>(Hp.ldSl H6 H.length 0).bind fun s7=>(Hp.mk H6 [.bool false] 1 (IntKind.i64.wrap (4 * (s7.n:Int))) (IntKind.i64.wrap (4 * (s7.n:Int)))).bind fun m8=>aj.l61 F bT F H.length 0 H5.length 0 (⟨none,0,.ex 0⟩:Sl) m8.1 (m8.1.n:Int) 0 m8.2
noncomputable def aj.tw (F:Nat) (aa:Sl) (ab:Int) (ah:Sl) (aL:Sl) (H:Hp):OA:=aj.twX F (bm.tw F) aa ab ah aL H
noncomputable def aj.code:Go.Code:=(Try.f103.body).getD .skip
noncomputable def aj.lh61 (F:Nat) (bT:Sl→Int→Sl→Sl→Int→Int→Hp→OA) (ks:List Nat) (n:Nat) (tm:Tm) (H:Hp):OA:=match ks,tm 2,tm 3,tm 5,tm 6,tm 17,tm 18 with
 | [],(.ptr eA fK),(.ptr co fZ),(.sl f_),(.sl gX),(.int .i64 eB),(.int .i64 eg)=>aj.l61 F bT n eA fK co fZ f_ gX eB eg H
 | _,_,_,_,_,_,_=>none
theorem aj.lh61_inv {F:Nat} {bT:Sl→Int→Sl→Sl→Int→Int→Hp→OA} {ks:List Nat} {n:Nat} {tm:Tm} {H:Hp} {r:AV×Hp} (h:aj.lh61 F bT ks n tm H = some r):∃ eA:Nat,∃ fK:Nat,∃ co:Nat,∃ fZ:Nat,∃ f_:Sl,∃ gX:Sl,∃ eB:Int,∃ eg:Int,ks = []∧tm 2 = (.ptr eA fK)∧tm 3 = (.ptr co fZ)∧tm 5 = (.sl f_)∧tm 6 = (.sl gX)∧tm 17 = (.int .i64 eB)∧tm 18 = (.int .i64 eg)∧aj.l61 F bT n eA fK co fZ f_ gX eB eg H = some r:=by
 unfold aj.lh61 at h
 split at h
 ·exact ⟨_,_,_,_,_,_,_,_,rfl,by assumption,by assumption,by assumption,by assumption,by assumption,by assumption,h⟩
 ·cases h
noncomputable def aj.lh15725 (F:Nat) (bT:Sl→Int→Sl→Sl→Int→Int→Hp→OA) (ks:List Nat) (n:Nat) (tm:Tm) (H:Hp):OA:=match ks,tm 2,tm 3,tm 5,tm 6,tm 8,tm 9,tm 17,tm 18 with
 | [bo],(.ptr db ey),(.ptr dl eP),(.sl fA),(.sl fo),(.sl fY),(.int .i64 cF),(.int .i64 ez),(.int .i64 eQ)=>aj.l15725 F bT (aj.l61 F bT bo) n db ey dl eP fA fo ez eQ fY cF H
 | _,_,_,_,_,_,_,_,_=>none
theorem aj.lh15725_inv {F:Nat} {bT:Sl→Int→Sl→Sl→Int→Int→Hp→OA} {ks:List Nat} {n:Nat} {tm:Tm} {H:Hp} {r:AV×Hp} (h:aj.lh15725 F bT ks n tm H = some r):∃ bo:Nat,∃ db:Nat,∃ ey:Nat,∃ dl:Nat,∃ eP:Nat,∃ fA:Sl,∃ fo:Sl,∃ fY:Sl,∃ cF:Int,∃ ez:Int,∃ eQ:Int,ks = [bo]∧tm 2 = (.ptr db ey)∧tm 3 = (.ptr dl eP)∧tm 5 = (.sl fA)∧tm 6 = (.sl fo)∧tm 8 = (.sl fY)∧tm 9 = (.int .i64 cF)∧tm 17 = (.int .i64 ez)∧tm 18 = (.int .i64 eQ)∧aj.l15725 F bT (aj.l61 F bT bo) n db ey dl eP fA fo ez eQ fY cF H = some r:=by
 unfold aj.lh15725 at h
 split at h
 ·exact ⟨_,_,_,_,_,_,_,_,_,_,_,rfl,by assumption,by assumption,by assumption,by assumption,by assumption,by assumption,by assumption,by assumption,h⟩
 ·cases h
noncomputable def aj.lh (F:Nat) (bT:Sl→Int→Sl→Sl→Int→Int→Hp→OA) (p:Nat) (ks:List Nat) (n:Nat) (tm:Tm) (H:Hp):OA:=bif p.beq 15725 then aj.lh15725 F bT ks n tm H else (bif p.beq 61 then aj.lh61 F bT ks n tm H else (none))
def aj.pn:Nat→List Nat:=fun i=>(([]:List (Nat×List Nat)).lookup i).getD []
def aj.tb:Nat→List (List Nat):=fun i=>(([]:List (Nat×List (List Nat))).lookup i).getD []
noncomputable def aj.mk (g:Sl→Int→Sl→Sl→Hp→OA) (args:List AV) (H:Hp):OA:=match args with
 | [(.agg [(.sl aa),(.int .i64 ab)]),(.agg [(.sl ah),(.sl aL)])]=>g aa ab ah aL H
 | _=>none
noncomputable def aj.cs (F:Nat) (bT:Sl→Int→Sl→Sl→Int→Int→Hp→OA):List (FuncId×(List AV→Hp→OA)):=[(139,bm.mk bT)]
theorem aj.loops (F:Nat) (bT:Sl→Int→Sl→Sl→Int→Int→Hp→OA):LoopsOk tabs (mkOrc (aj.cs F bT)) aj.pn (aj.lh F bT) F [] 1 aj.code (fun tm H=>aresults tabs.ty H tm Try.f103.results.toList fun v=>some (v,H)) (fun _ _ _=>none) (fun tm H=>aresults tabs.ty H tm Try.f103.results.toList fun v=>some (v,H)):=by
 refine LoopsOk.seq ?_ ?_
 ·exact loops_none (by kernel_rfl)
 ·refine LoopsOk.seq ?_ ?_
  ·exact loops_none (by kernel_rfl)
  ·refine LoopsOk.seq ?_ ?_
   ·exact loops_none (by kernel_rfl)
   ·refine LoopsOk.seq ?_ ?_
    ·refine LoopsOk.seq ?_ ?_
     ·exact loops_none (by kernel_rfl)
     ·refine LoopsOk.block ?_
      refine LoopsOk.loop (fun tm H=>?_) (fun k61 tm H r h0=>?_) (fun k61=>?_)
      ·refine none_of fun r h0=>?_
       obtain ⟨eA,fK,co,fZ,f_,gX,eB,eg,hks,e2,e3,e5,e6,e17,e18,h⟩:=aj.lh61_inv (show aj.lh61 F bT [] 0 tm H = some r from h0)
       cases h
      ·obtain ⟨eA,fK,co,fZ,f_,gX,eB,eg,hks,e2,e3,e5,e6,e17,e18,h⟩:=aj.lh61_inv (show aj.lh61 F bT [] (k61 + 1) tm H = some r from h0)
       have q0:(Tm.put tm 2 (.ptr eA fK)) = tm:=by exact Tm.put_same e2
       have q1:(Tm.put (Tm.put tm 2 (.ptr eA fK)) 3 (.ptr co fZ)) = tm:=by rw [q0]; exact Tm.put_same e3
       have q2:(Tm.put (Tm.put (Tm.put tm 2 (.ptr eA fK)) 3 (.ptr co fZ)) 5 (.sl f_)) = tm:=by rw [q1]; exact Tm.put_same e5
       have q3:(Tm.put (Tm.put (Tm.put (Tm.put tm 2 (.ptr eA fK)) 3 (.ptr co fZ)) 5 (.sl f_)) 6 (.sl gX)) = tm:=by rw [q2]; exact Tm.put_same e6
       have q4:(Tm.put (Tm.put (Tm.put (Tm.put (Tm.put tm 2 (.ptr eA fK)) 3 (.ptr co fZ)) 5 (.sl f_)) 6 (.sl gX)) 17 (.int .i64 eB)) = tm:=by rw [q3]; exact Tm.put_same e17
       have q5:(Tm.put (Tm.put (Tm.put (Tm.put (Tm.put (Tm.put tm 2 (.ptr eA fK)) 3 (.ptr co fZ)) 5 (.sl f_)) 6 (.sl gX)) 17 (.int .i64 eB)) 18 (.int .i64 eg)) = tm:=by rw [q4]; exact Tm.put_same e18
       rw [← q5]
       exact Eq.trans (by kernel_rfl) h
      ·refine LoopsOk.seq ?_ ?_
       ·exact loops_none (by kernel_rfl)
       ·refine LoopsOk.seq ?_ ?_
        ·exact loops_none (by kernel_rfl)
        ·refine LoopsOk.seq ?_ ?_
         ·refine LoopsOk.block ?_
          refine LoopsOk.seq ?_ ?_
          ·exact loops_none (by kernel_rfl)
          ·refine LoopsOk.seq ?_ ?_
           ·exact loops_none (by kernel_rfl)
           ·refine LoopsOk.seq ?_ ?_
            ·refine LoopsOk.seq ?_ ?_
             ·exact loops_none (by kernel_rfl)
             ·refine LoopsOk.block ?_
              refine LoopsOk.loop (fun tm H=>?_) (fun k15725 tm H r h0=>?_) (fun k15725=>?_)
              ·refine none_of fun r h0=>?_
               obtain ⟨bo,db,ey,dl,eP,fA,fo,fY,cF,ez,eQ,hks,e2,e3,e5,e6,e8,e9,e17,e18,h⟩:=aj.lh15725_inv (show aj.lh15725 F bT [k61] 0 tm H = some r from h0)
               cases h
              ·obtain ⟨bo,db,ey,dl,eP,fA,fo,fY,cF,ez,eQ,hks,e2,e3,e5,e6,e8,e9,e17,e18,h⟩:=aj.lh15725_inv (show aj.lh15725 F bT [k61] (k15725 + 1) tm H = some r from h0)
               obtain rfl:bo = k61:=by simpa [eq_comm] using hks
               have q0:(Tm.put tm 2 (.ptr db ey)) = tm:=by exact Tm.put_same e2
               have q1:(Tm.put (Tm.put tm 2 (.ptr db ey)) 3 (.ptr dl eP)) = tm:=by rw [q0]; exact Tm.put_same e3
               have q2:(Tm.put (Tm.put (Tm.put tm 2 (.ptr db ey)) 3 (.ptr dl eP)) 5 (.sl fA)) = tm:=by rw [q1]; exact Tm.put_same e5
               have q3:(Tm.put (Tm.put (Tm.put (Tm.put tm 2 (.ptr db ey)) 3 (.ptr dl eP)) 5 (.sl fA)) 6 (.sl fo)) = tm:=by rw [q2]; exact Tm.put_same e6
               have q4:(Tm.put (Tm.put (Tm.put (Tm.put (Tm.put tm 2 (.ptr db ey)) 3 (.ptr dl eP)) 5 (.sl fA)) 6 (.sl fo)) 8 (.sl fY)) = tm:=by rw [q3]; exact Tm.put_same e8
               have q5:(Tm.put (Tm.put (Tm.put (Tm.put (Tm.put (Tm.put tm 2 (.ptr db ey)) 3 (.ptr dl eP)) 5 (.sl fA)) 6 (.sl fo)) 8 (.sl fY)) 9 (.int .i64 cF)) = tm:=by rw [q4]; exact Tm.put_same e9
               have q6:(Tm.put (Tm.put (Tm.put (Tm.put (Tm.put (Tm.put (Tm.put tm 2 (.ptr db ey)) 3 (.ptr dl eP)) 5 (.sl fA)) 6 (.sl fo)) 8 (.sl fY)) 9 (.int .i64 cF)) 17 (.int .i64 ez)) = tm:=by rw [q5]; exact Tm.put_same e17
               have q7:(Tm.put (Tm.put (Tm.put (Tm.put (Tm.put (Tm.put (Tm.put (Tm.put tm 2 (.ptr db ey)) 3 (.ptr dl eP)) 5 (.sl fA)) 6 (.sl fo)) 8 (.sl fY)) 9 (.int .i64 cF)) 17 (.int .i64 ez)) 18 (.int .i64 eQ)) = tm:=by rw [q6]; exact Tm.put_same e18
               rw [← q7]
               exact Eq.trans (by kernel_rfl) h
              ·exact loops_none (by kernel_rfl)
            ·exact loops_none (by kernel_rfl)
         ·exact loops_none (by kernel_rfl)
    ·exact loops_none (by kernel_rfl)
theorem aj.eqX (F:Nat) (bT:Sl→Int→Sl→Sl→Int→Int→Hp→OA) (aa:Sl) (ab:Int) (ah:Sl) (aL:Sl) (H:Hp):aCode tabs (mkOrc (aj.cs F bT)) aj.pn (aj.lh F bT) F [] 1 aj.code (argTm [(.agg [(.sl aa),(.int .i64 ab)]),(.agg [(.sl ah),(.sl aL)])]) H (fun tm H=>aresults tabs.ty H tm Try.f103.results.toList fun v=>some (v,H)) (fun _ _ _=>none) (fun tm H=>aresults tabs.ty H tm Try.f103.results.toList fun v=>some (v,H)) = aj.twX F bT aa ab ah aL H:=by kernel_rfl
theorem aj.cs_ok (F:Nat):∀ p ∈ aj.cs F (bm.tw F),∀ args H v H',p.2 args H = some (v,H')→Go.AE.T Try.prog p.1 args H v H':=by
 intro p hp
 simp only [aj.cs,List.mem_cons,List.not_mem_nil,or_false] at hp
 subst hp
 exact fun args H v H' h=>bm.mk_T h
theorem aj.ok:codeOk aj.pn Try.f103.ntmps aj.tb aj.code = true:=by kernel_rfl
theorem aj.T {F:Nat} {aa:Sl} {ab:Int} {ah:Sl} {aL:Sl} {H:Hp} {v:AV} {H':Hp} (h:aj.tw F aa ab ah aL H = some (v,H')):Go.AE.T Try.prog 103 [(.agg [(.sl aa),(.int .i64 ab)]),(.agg [(.sl ah),(.sl aL)])] H v H':=
 Go.AE.T.of (Y:=tabs) (C:=mkOrc (aj.cs F (bm.tw F))) (PN:=aj.pn) (LH:=aj.lh F (bm.tw F)) (F:=F) (TB:=aj.tb) (fn:=Try.f103) (code:=aj.code) mixed tabs_ok (mkOrc_ok (aj.cs_ok F)) Try.func103 (by kernel_rfl) (by kernel_rfl) aj.ok (Nat.le_of_ble_eq_true (by kernel_rfl)) (aj.loops F (bm.tw F)) (Eq.trans (aj.eqX F (bm.tw F) aa ab ah aL H) h)
theorem aj.mk_T {F:Nat} {args:List AV} {H:Hp} {v:AV} {H':Hp} (h:aj.mk (aj.tw F) args H = some (v,H')):Go.AE.T Try.prog 103 args H v H':=by
 unfold aj.mk at h
 split at h
 ·exact aj.T h
 ·cases h
noncomputable def bJ.twX (F:Nat) (aa:Sl) (H:Hp):OA:=some ((.int .i64 (aa.n:Int)),H)
noncomputable def bJ.tw (F:Nat) (aa:Sl) (H:Hp):OA:=bJ.twX F aa H
noncomputable def bJ.code:Go.Code:=(Try.f89.body).getD .skip
noncomputable def bJ.lh (F:Nat) (p:Nat) (ks:List Nat) (n:Nat) (tm:Tm) (H:Hp):OA:=none
def bJ.pn:Nat→List Nat:=fun i=>(([]:List (Nat×List Nat)).lookup i).getD []
def bJ.tb:Nat→List (List Nat):=fun i=>(([]:List (Nat×List (List Nat))).lookup i).getD []
noncomputable def bJ.mk (g:Sl→Hp→OA) (args:List AV) (H:Hp):OA:=match args with
 | [(.sl aa)]=>g aa H
 | _=>none
noncomputable def bJ.cs (F:Nat):List (FuncId×(List AV→Hp→OA)):=[]
theorem bJ.loops (F:Nat):LoopsOk tabs (mkOrc (bJ.cs F)) bJ.pn (bJ.lh F) F [] 1 bJ.code (fun tm H=>aresults tabs.ty H tm Try.f89.results.toList fun v=>some (v,H)) (fun _ _ _=>none) (fun tm H=>aresults tabs.ty H tm Try.f89.results.toList fun v=>some (v,H)):=by
 exact loops_none (by kernel_rfl)
theorem bJ.eqX (F:Nat) (aa:Sl) (H:Hp):aCode tabs (mkOrc (bJ.cs F)) bJ.pn (bJ.lh F) F [] 1 bJ.code (argTm [(.sl aa)]) H (fun tm H=>aresults tabs.ty H tm Try.f89.results.toList fun v=>some (v,H)) (fun _ _ _=>none) (fun tm H=>aresults tabs.ty H tm Try.f89.results.toList fun v=>some (v,H)) = bJ.twX F aa H:=by kernel_rfl
theorem bJ.cs_ok (F:Nat):∀ p ∈ bJ.cs F,∀ args H v H',p.2 args H = some (v,H')→Go.AE.T Try.prog p.1 args H v H':=by
 intro p hp
 exact absurd (show p ∈ [] from hp) List.not_mem_nil
theorem bJ.ok:codeOk bJ.pn Try.f89.ntmps bJ.tb bJ.code = true:=by kernel_rfl
theorem bJ.T {F:Nat} {aa:Sl} {H:Hp} {v:AV} {H':Hp} (h:bJ.tw F aa H = some (v,H')):Go.AE.T Try.prog 89 [(.sl aa)] H v H':=
 Go.AE.T.of (Y:=tabs) (C:=mkOrc (bJ.cs F)) (PN:=bJ.pn) (LH:=bJ.lh F) (F:=F) (TB:=bJ.tb) (fn:=Try.f89) (code:=bJ.code) mixed tabs_ok (mkOrc_ok (bJ.cs_ok F)) Try.func89 (by kernel_rfl) (by kernel_rfl) bJ.ok (Nat.le_of_ble_eq_true (by kernel_rfl)) (bJ.loops F) (Eq.trans (bJ.eqX F aa H) h)
theorem bJ.mk_T {F:Nat} {args:List AV} {H:Hp} {v:AV} {H':Hp} (h:bJ.mk (bJ.tw F) args H = some (v,H')):Go.AE.T Try.prog 89 args H v H':=by
 unfold bJ.mk at h
 split at h
 ·exact bJ.T h
 ·cases h
noncomputable def aP.l29 (F:Nat) :Nat→Sl→Int→Int→Hp→OA
 | 0,_,_,_,_=>none
 | es + 1,gz,eC,dI,H7=>(bif (decide (dI < eC)) then ((Hp.new H7 [(.int .i64 dI)]).bind fun H11=>(Sl.row H11 (⟨some (H7.length,0),1,.ex 1⟩:Sl) 1).bind fun xs13=>(Hp.app H11 1 8 gz (⟨some (H7.length,0),1,.ex 1⟩:Sl).n xs13).bind fun a12=>aP.l29 F es a12.1 eC (IntKind.i64.wrap (dI + 1)) a12.2) else (some ((.sl gz),H7)))
termination_by structural n=>n
noncomputable def aP.twX (F:Nat) (aa:Int) (H:Hp):OA:=aP.l29 F F (⟨none,0,.ex 0⟩:Sl) aa 0 H
noncomputable def aP.tw (F:Nat) (aa:Int) (H:Hp):OA:=aP.twX F aa H
noncomputable def aP.code:Go.Code:=(Try.f116.body).getD .skip
noncomputable def aP.lh29 (F:Nat) (ks:List Nat) (n:Nat) (tm:Tm) (H:Hp):OA:=match ks,tm 3,tm 5,tm 6 with
 | [],(.sl gz),(.int .i64 eC),(.int .i64 dI)=>aP.l29 F n gz eC dI H
 | _,_,_,_=>none
theorem aP.lh29_inv {F:Nat} {ks:List Nat} {n:Nat} {tm:Tm} {H:Hp} {r:AV×Hp} (h:aP.lh29 F ks n tm H = some r):∃ gz:Sl,∃ eC:Int,∃ dI:Int,ks = []∧tm 3 = (.sl gz)∧tm 5 = (.int .i64 eC)∧tm 6 = (.int .i64 dI)∧aP.l29 F n gz eC dI H = some r:=by
 unfold aP.lh29 at h
 split at h
 ·exact ⟨_,_,_,rfl,by assumption,by assumption,by assumption,h⟩
 ·cases h
noncomputable def aP.lh (F:Nat) (p:Nat) (ks:List Nat) (n:Nat) (tm:Tm) (H:Hp):OA:=bif p.beq 29 then aP.lh29 F ks n tm H else (none)
def aP.pn:Nat→List Nat:=fun i=>(([]:List (Nat×List Nat)).lookup i).getD []
def aP.tb:Nat→List (List Nat):=fun i=>(([]:List (Nat×List (List Nat))).lookup i).getD []
noncomputable def aP.mk (g:Int→Hp→OA) (args:List AV) (H:Hp):OA:=match args with
 | [(.int .i64 aa)]=>g aa H
 | _=>none
noncomputable def aP.cs (F:Nat):List (FuncId×(List AV→Hp→OA)):=[]
theorem aP.loops (F:Nat):LoopsOk tabs (mkOrc (aP.cs F)) aP.pn (aP.lh F) F [] 1 aP.code (fun tm H=>aresults tabs.ty H tm Try.f116.results.toList fun v=>some (v,H)) (fun _ _ _=>none) (fun tm H=>aresults tabs.ty H tm Try.f116.results.toList fun v=>some (v,H)):=by
 refine LoopsOk.seq ?_ ?_
 ·exact loops_none (by kernel_rfl)
 ·refine LoopsOk.seq ?_ ?_
  ·exact loops_none (by kernel_rfl)
  ·refine LoopsOk.seq ?_ ?_
   ·refine LoopsOk.seq ?_ ?_
    ·exact loops_none (by kernel_rfl)
    ·refine LoopsOk.block ?_
     refine LoopsOk.loop (fun tm H=>?_) (fun k29 tm H r h0=>?_) (fun k29=>?_)
     ·refine none_of fun r h0=>?_
      obtain ⟨gz,eC,dI,hks,e3,e5,e6,h⟩:=aP.lh29_inv (show aP.lh29 F [] 0 tm H = some r from h0)
      cases h
     ·obtain ⟨gz,eC,dI,hks,e3,e5,e6,h⟩:=aP.lh29_inv (show aP.lh29 F [] (k29 + 1) tm H = some r from h0)
      have q0:(Tm.put tm 3 (.sl gz)) = tm:=by exact Tm.put_same e3
      have q1:(Tm.put (Tm.put tm 3 (.sl gz)) 5 (.int .i64 eC)) = tm:=by rw [q0]; exact Tm.put_same e5
      have q2:(Tm.put (Tm.put (Tm.put tm 3 (.sl gz)) 5 (.int .i64 eC)) 6 (.int .i64 dI)) = tm:=by rw [q1]; exact Tm.put_same e6
      rw [← q2]
      exact Eq.trans (by kernel_rfl) h
     ·exact loops_none (by kernel_rfl)
   ·exact loops_none (by kernel_rfl)
theorem aP.eqX (F:Nat) (aa:Int) (H:Hp):aCode tabs (mkOrc (aP.cs F)) aP.pn (aP.lh F) F [] 1 aP.code (argTm [(.int .i64 aa)]) H (fun tm H=>aresults tabs.ty H tm Try.f116.results.toList fun v=>some (v,H)) (fun _ _ _=>none) (fun tm H=>aresults tabs.ty H tm Try.f116.results.toList fun v=>some (v,H)) = aP.twX F aa H:=by kernel_rfl
theorem aP.cs_ok (F:Nat):∀ p ∈ aP.cs F,∀ args H v H',p.2 args H = some (v,H')→Go.AE.T Try.prog p.1 args H v H':=by
 intro p hp
 exact absurd (show p ∈ [] from hp) List.not_mem_nil
theorem aP.ok:codeOk aP.pn Try.f116.ntmps aP.tb aP.code = true:=by kernel_rfl
theorem aP.T {F:Nat} {aa:Int} {H:Hp} {v:AV} {H':Hp} (h:aP.tw F aa H = some (v,H')):Go.AE.T Try.prog 116 [(.int .i64 aa)] H v H':=
 Go.AE.T.of (Y:=tabs) (C:=mkOrc (aP.cs F)) (PN:=aP.pn) (LH:=aP.lh F) (F:=F) (TB:=aP.tb) (fn:=Try.f116) (code:=aP.code) mixed tabs_ok (mkOrc_ok (aP.cs_ok F)) Try.func116 (by kernel_rfl) (by kernel_rfl) aP.ok (Nat.le_of_ble_eq_true (by kernel_rfl)) (aP.loops F) (Eq.trans (aP.eqX F aa H) h)
theorem aP.mk_T {F:Nat} {args:List AV} {H:Hp} {v:AV} {H':Hp} (h:aP.mk (aP.tw F) args H = some (v,H')):Go.AE.T Try.prog 116 args H v H':=by
 unfold aP.mk at h
 split at h
 ·exact aP.T h
 ·cases h
noncomputable def aG.j2 (F:Nat) (C7_:Sl→Int→Int→Sl→Int→Int→Hp→OA) (Es:Sl) (kG:Int) (kH:Int) (Et:Sl) (kI:Int) (kJ:Int) (H50:Hp):OA:=C7_ Es kG kH Et kI (IntKind.i64.wrap (kJ + 1)) H50
noncomputable def aG.l7 (F:Nat) :Nat→Sl→Int→Int→Sl→Int→Int→Hp→OA
 | 0,_,_,_,_,_,_,_=>none
 | wB + 1,cr,dc,dm,ga,dY,dd,H16=>(bif (decide (dd < dY)) then ((Sl.idx ga dd 1).bind fun p34=>(Hp.ldI H16 .i64 p34.1 p34.2).bind fun n35=>(bif (n35 == dc) then ((Sl.idx cr dd 1).bind fun p36=>(Hp.st H16 p36.1 p36.2 (.int .i64 dm)).bind fun H37=>aG.j2 F (aG.l7 F wB) cr dc dm ga dY dd H37) else (aG.j2 F (aG.l7 F wB) cr dc dm ga dY dd H16))) else (some ((.tup []),H16)))
termination_by structural n=>n
noncomputable def aG.twX (F:Nat) (aa:Sl) (ag:Int) (bj:Int) (H:Hp):OA:=(Sl.idx aa bj 1).bind fun p4=>(Hp.ldI H .i64 p4.1 p4.2).bind fun n5=>(Sl.idx aa ag 1).bind fun p6=>(Hp.ldI H .i64 p6.1 p6.2).bind fun n7=>aG.l7 F F aa n5 n7 aa (aa.n:Int) 0 H
noncomputable def aG.tw (F:Nat) (aa:Sl) (ag:Int) (bj:Int) (H:Hp):OA:=aG.twX F aa ag bj H
noncomputable def aG.code:Go.Code:=(Try.f118.body).getD .skip
noncomputable def aG.lh7 (F:Nat) (ks:List Nat) (n:Nat) (tm:Tm) (H:Hp):OA:=match ks,tm 0,tm 6,tm 7,tm 18,tm 19,tm 20 with
 | [],(.sl cr),(.int .i64 dc),(.int .i64 dm),(.sl ga),(.int .i64 dY),(.int .i64 dd)=>aG.l7 F n cr dc dm ga dY dd H
 | _,_,_,_,_,_,_=>none
theorem aG.lh7_inv {F:Nat} {ks:List Nat} {n:Nat} {tm:Tm} {H:Hp} {r:AV×Hp} (h:aG.lh7 F ks n tm H = some r):∃ cr:Sl,∃ dc:Int,∃ dm:Int,∃ ga:Sl,∃ dY:Int,∃ dd:Int,ks = []∧tm 0 = (.sl cr)∧tm 6 = (.int .i64 dc)∧tm 7 = (.int .i64 dm)∧tm 18 = (.sl ga)∧tm 19 = (.int .i64 dY)∧tm 20 = (.int .i64 dd)∧aG.l7 F n cr dc dm ga dY dd H = some r:=by
 unfold aG.lh7 at h
 split at h
 ·exact ⟨_,_,_,_,_,_,rfl,by assumption,by assumption,by assumption,by assumption,by assumption,by assumption,h⟩
 ·cases h
noncomputable def aG.lh (F:Nat) (p:Nat) (ks:List Nat) (n:Nat) (tm:Tm) (H:Hp):OA:=bif p.beq 7 then aG.lh7 F ks n tm H else (none)
def aG.pn:Nat→List Nat:=fun i=>(([(0,[])]:List (Nat×List Nat)).lookup i).getD []
def aG.tb:Nat→List (List Nat):=fun i=>(([(0,[[],[],[0,1],[0,1,2],[],[],[4,5],[4,5,6],[0,1,2,3],[0,1,2,3,4,5,6,7,8]])]:List (Nat×List (List Nat))).lookup i).getD []
noncomputable def aG.mk (g:Sl→Int→Int→Hp→OA) (args:List AV) (H:Hp):OA:=match args with
 | [(.sl aa),(.int .i64 ag),(.int .i64 bj)]=>g aa ag bj H
 | _=>none
noncomputable def aG.cs (F:Nat):List (FuncId×(List AV→Hp→OA)):=[]
theorem aG.loops (F:Nat):LoopsOk tabs (mkOrc (aG.cs F)) aG.pn (aG.lh F) F [] 1 aG.code (fun tm H=>aresults tabs.ty H tm Try.f118.results.toList fun v=>some (v,H)) (fun _ _ _=>none) (fun tm H=>aresults tabs.ty H tm Try.f118.results.toList fun v=>some (v,H)):=by
 refine LoopsOk.seq ?_ ?_
 ·exact loops_none (by kernel_rfl)
 ·refine LoopsOk.seq ?_ ?_
  ·exact loops_none (by kernel_rfl)
  ·refine LoopsOk.block ?_
   refine LoopsOk.loop (fun tm H=>?_) (fun k7 tm H r h0=>?_) (fun k7=>?_)
   ·refine none_of fun r h0=>?_
    obtain ⟨cr,dc,dm,ga,dY,dd,hks,e0,e6,e7,e18,e19,e20,h⟩:=aG.lh7_inv (show aG.lh7 F [] 0 tm H = some r from h0)
    cases h
   ·obtain ⟨cr,dc,dm,ga,dY,dd,hks,e0,e6,e7,e18,e19,e20,h⟩:=aG.lh7_inv (show aG.lh7 F [] (k7 + 1) tm H = some r from h0)
    have q0:(Tm.put tm 0 (.sl cr)) = tm:=by exact Tm.put_same e0
    have q1:(Tm.put (Tm.put tm 0 (.sl cr)) 6 (.int .i64 dc)) = tm:=by rw [q0]; exact Tm.put_same e6
    have q2:(Tm.put (Tm.put (Tm.put tm 0 (.sl cr)) 6 (.int .i64 dc)) 7 (.int .i64 dm)) = tm:=by rw [q1]; exact Tm.put_same e7
    have q3:(Tm.put (Tm.put (Tm.put (Tm.put tm 0 (.sl cr)) 6 (.int .i64 dc)) 7 (.int .i64 dm)) 18 (.sl ga)) = tm:=by rw [q2]; exact Tm.put_same e18
    have q4:(Tm.put (Tm.put (Tm.put (Tm.put (Tm.put tm 0 (.sl cr)) 6 (.int .i64 dc)) 7 (.int .i64 dm)) 18 (.sl ga)) 19 (.int .i64 dY)) = tm:=by rw [q3]; exact Tm.put_same e19
    have q5:(Tm.put (Tm.put (Tm.put (Tm.put (Tm.put (Tm.put tm 0 (.sl cr)) 6 (.int .i64 dc)) 7 (.int .i64 dm)) 18 (.sl ga)) 19 (.int .i64 dY)) 20 (.int .i64 dd)) = tm:=by rw [q4]; exact Tm.put_same e20
    rw [← q5]
    exact Eq.trans (by kernel_rfl) h
   ·exact loops_none (by kernel_rfl)
theorem aG.eqX (F:Nat) (aa:Sl) (ag:Int) (bj:Int) (H:Hp):aCode tabs (mkOrc (aG.cs F)) aG.pn (aG.lh F) F [] 1 aG.code (argTm [(.sl aa),(.int .i64 ag),(.int .i64 bj)]) H (fun tm H=>aresults tabs.ty H tm Try.f118.results.toList fun v=>some (v,H)) (fun _ _ _=>none) (fun tm H=>aresults tabs.ty H tm Try.f118.results.toList fun v=>some (v,H)) = aG.twX F aa ag bj H:=by kernel_rfl
theorem aG.cs_ok (F:Nat):∀ p ∈ aG.cs F,∀ args H v H',p.2 args H = some (v,H')→Go.AE.T Try.prog p.1 args H v H':=by
 intro p hp
 exact absurd (show p ∈ [] from hp) List.not_mem_nil
theorem aG.ok:codeOk aG.pn Try.f118.ntmps aG.tb aG.code = true:=by kernel_rfl
theorem aG.T {F:Nat} {aa:Sl} {ag:Int} {bj:Int} {H:Hp} {v:AV} {H':Hp} (h:aG.tw F aa ag bj H = some (v,H')):Go.AE.T Try.prog 118 [(.sl aa),(.int .i64 ag),(.int .i64 bj)] H v H':=
 Go.AE.T.of (Y:=tabs) (C:=mkOrc (aG.cs F)) (PN:=aG.pn) (LH:=aG.lh F) (F:=F) (TB:=aG.tb) (fn:=Try.f118) (code:=aG.code) mixed tabs_ok (mkOrc_ok (aG.cs_ok F)) Try.func118 (by kernel_rfl) (by kernel_rfl) aG.ok (Nat.le_of_ble_eq_true (by kernel_rfl)) (aG.loops F) (Eq.trans (aG.eqX F aa ag bj H) h)
theorem aG.mk_T {F:Nat} {args:List AV} {H:Hp} {v:AV} {H':Hp} (h:aG.mk (aG.tw F) args H = some (v,H')):Go.AE.T Try.prog 118 args H v H':=by
 unfold aG.mk at h
 split at h
 ·exact aG.T h
 ·cases h
theorem nm_law:Keyed Try.prog 2:=int_keyed Try.underlying2
theorem nm_zero (w:World):(zeroValue 2).run Try.prog w = .ok (.int .i64 0) w:=by kernel_rfl
theorem nm_info:(Try.prog.info? 2).map (fun i=>(i.zero,i.size,i.bytes)) = some (some (.int .i64 0),1,8):=by kernel_rfl
theorem nm_none (a:Option Addr) (cap:Nat) (w:World):Calls Try.prog 119 #[.slice a 0 cap] w fun e w'=>e = .returned (.slice none 0 0)∧Below w.heap.size w w':=by
 have hmm:=@run_makeMap Try.prog
 go_enter Try.func119,Try.ntmps119
 go_wp2
 refine wp_loop_rounds 1 ?_
 rw [rounds_succ]
 go_wp2
 go_ret
 exact ⟨rfl,(Below.refl _ _).alloc (Nat.le_refl _) _⟩
theorem nm_any (b off len cap:Nat) (zs:List Int) (w:World) (hreach:len ≤ 4294967296) (hz:len ≤ zs.length) (hb:b < w.heap.size)
  (hc:∀ j,j < zs.length→w.cell? ⟨b,off + j,none⟩ = some (.int .i64 (zs.getD j 0))) (hwz:∀ n ∈ zs,(Lit.int .i64 n).wf = true) :
  Calls Try.prog 119 #[.slice (some ⟨b,off,none⟩) len cap] w fun e w'=>∃ v,e = .returned v∧w'.ownsRow (w.heap.size + 1) 2 1 v len ((nst zs len).2.map (Value.int .i64))∧Below w.heap.size w w':=by
 have hmm:=@run_makeMap Try.prog
 obtain ⟨i0,hi,hz0,hz1,hz2⟩:=info_parts nm_info
 go_enter Try.func119,Try.ntmps119
 go_wp2
 go_loopw [4,12] (fun v i wr=>∃ (k:Nat) (D:DataW Unit),k ≤ len∧i = .int .i64 k∧wr.ownsMap Try.prog 2 (plainElem Try.prog 2) w.heap.size k D∧ND D (nst zs k).1 ∧
   wr.ownsRow (w.heap.size + 1) 2 1 v k ((nst zs k).2.map (Value.int .i64))∧Below w.heap.size w wr∧w.heap.size + 1 ≤ wr.heap.size)
  (fun _ i _=>len - (intOf i).toNat)
 case atStart=>exact ⟨0,.map [],Nat.zero_le _,rfl,World.ownsMap_made _ _ _ _,ND.nil,World.ownsRow_nil _ _ _ _,(Below.refl _ _).alloc (Nat.le_refl _) _,by simp⟩
 case round=>
  obtain ⟨k,D,hk,rfl,hown,hD,hrow,hnx,hws⟩:=hrel
  obtain ⟨x,hx⟩:∃ x,x = zs.getD k 0:=⟨_,rfl⟩
  have hwx:(Lit.int .i64 x).wf = true:=by rw [hx]; exact wf_gd hwz k
  have hcx:k < len→wr.cell? ⟨b,off + k,none⟩ = some (.int .i64 x):=fun _=>by rw [hx]; exact (hnx.cell (by exact hb)).trans (hc k (by omega))
  have hkey:keyOf Try.prog 2 (.int .i64 x) = some (.int .i64 x):=keyOf_int_mk Try.underlying2 hwx
  have hl1:=nst_len1 zs k
  have hs1:Maps.size D ≤ k:=by rw [hD.size]; exact hl1
  have hht:=hown.tidy nm_law
  have n1:nst zs (k + 1) = (bif (nst zs k).1.contains x then (nst zs k).1 else (nst zs k).1 ++ [x],(nst zs k).2 ++ [(((bif (nst zs k).1.contains x then (nst zs k).1 else (nst zs k).1 ++ [x]).idxOf x:Nat):Int)]):=by rw [hx]; rfl
  clear hx
  go_wp2_with (first
   | (at_lookup; first
     | (refine wpList_lookup_own_ok_int _ rfl _ _ 157 rfl 2 2 .i64 nm_law Try.underlying157 Try.underlying2 (nm_zero _) w.heap.size k _ rfl hown _ _ rfl hkey ?_; intro c hat hwc)
     | (refine wpList_lookup_own_int _ rfl _ _ 157 rfl 2 2 .i64 nm_law Try.underlying157 Try.underlying2 (nm_zero _) w.heap.size (k + 1) _ rfl hown1 _ _ rfl hkey ?_; intro c2 hat2 hwc2)
     | (refine wpList_lookup_own_int _ rfl _ _ 157 rfl 2 2 .i64 nm_law Try.underlying157 Try.underlying2 (nm_zero _) w.heap.size k _ rfl hown _ _ rfl hkey ?_; intro c2 hat2 hwc2))
   | (at_len; refine wpList_len_own _ rfl _ 157 rfl 2 2 Try.underlying157 _ w.heap.size k _ rfl hown ?_)
   | (at_mapUpdate; refine wpList_mapUpdate_own _ rfl _ _ _ 157 rfl 2 2 nm_law Try.underlying157 (plainElem Try.prog 2) w.heap.size k _ rfl hown (by unfold maxLen; omega) _ _ _ rfl rfl hkey _ [] (plainElem_int Try.underlying2 (WalkArith.wf_i64 (by omega))) ?_; intro w1 hown1 hgrow1)
   | (at_builtin; first
     | (refine wpList_append_own _ rfl _ _ 26 rfl (w.heap.size + 1) 2 i0 (.int .i64 0) 1 8 Try.underlying26 hi hz0 hz1 hz2 rfl (by decide) _ _ _ rfl ((hrow.kept hgrow1 (Or.inr (rowNe hrow (Nat.lt_succ_self _)).symm)).alloc _) ⟨w1.heap.size,0,none⟩ 1 1 [.int .i64 c2] rfl rfl (cell_one_new _ _ _) (ints_oneCell .i64 [c2]) (by unfold maxLen; omega) (by omega) (by have:=hgrow1.size; simp at this ⊢; omega) ?_; intro v' w2 hown' hgrow2 hnil2)
     | (refine wpList_append_own _ rfl _ _ 26 rfl (w.heap.size + 1) 2 i0 (.int .i64 0) 1 8 Try.underlying26 hi hz0 hz1 hz2 rfl (by decide) _ _ _ rfl (hrow.alloc _) ⟨wr.heap.size,0,none⟩ 1 1 [.int .i64 c2] rfl rfl (cell_one_new _ _ _) (ints_oneCell .i64 [c2]) (by unfold maxLen; omega) (by omega) (by simp; omega) ?_; intro v' w2 hown' hgrow2 hnil2))
   | go_in)
  ·have hlt:k < len:=by assumption
   have ht:(!Maps.has D (Lit.int .i64 x)) = true:=by assumption
   have hc0:(nst zs k).1.contains x = false:=by rw [← hD.has x]; simpa using ht
   have hr1:=hrow.kept hgrow1 (Or.inr (rowNe hrow (Nat.lt_succ_self _)).symm)
   have s1:=hgrow1.size
   have s2:=hgrow2.size
   simp at s1 s2
   have hD1:=hD.new hht hc0
   rw [hD1.at_ x (by simp) _] at hat2
   have e2:c2 = (((nst zs k).1 ++ [x]).idxOf x:Nat):=by injection hat2 with q; injection q with _ q; exact q.symm
   rw [hc0,cond_false] at n1
   go_roundw
   case rel=>
    refine ⟨k + 1,_,by omega,by go_num,(hown1.alloc _).kept hgrow2 (rowNe hr1 (Nat.lt_succ_self _)),by rw [n1]; exact hD1,?_,?_,by omega⟩
    ·rw [n1,List.map_append,← e2]; exact hown'
    ·exact (((hnx.grown hgrow1 hnx.size (fun j hj=>by cases hj; exact Nat.le_refl _)).alloc (by omega) _).grown hgrow2 (by simp; omega) (fun j hj=>Nat.le_trans (Nat.le_succ _) (hr1.lt j hj).1))
   case measure=>simp [intOf]; omega
  ·have hlt:k < len:=by assumption
   have ht:(!Maps.has D (Lit.int .i64 x)) = false:=by assumption
   have hc1:(nst zs k).1.contains x = true:=by rw [← hD.has x]; simpa using ht
   have s2:=hgrow2.size
   simp at s2
   rw [hD.at_ x hc1 _] at hat2
   have e2:c2 = ((nst zs k).1.idxOf x:Nat):=by injection hat2 with q; injection q with _ q; exact q.symm
   rw [hc1,cond_true] at n1
   go_roundw
   case rel=>
    refine ⟨k + 1,_,by omega,by go_num,((hown.alloc _).kept hgrow2 (rowNe hrow (Nat.lt_succ_self _))).mono (Nat.le_succ _),by rw [n1]; exact hD,?_,?_,by omega⟩
    ·rw [n1,List.map_append,← e2]; exact hown'
    ·exact ((hnx.alloc hnx.size _).grown hgrow2 (by simp; omega) (fun j hj=>Nat.le_trans (Nat.le_succ _) (hrow.lt j hj).1))
   case measure=>simp [intOf]; omega
  ·have:k = len:=by omega
   subst this
   go_ret
   exact ⟨_,rfl,hrow,hnx⟩
theorem nm_ok:NumOk Try.prog 119 2:=⟨nm_none,nm_any⟩
noncomputable def ct.tw (F:Nat) (aa:Sl) (H:Hp):OA:=numTw aa H
noncomputable def ct.mk (g:Sl→Hp→OA) (args:List AV) (H:Hp):OA:=match args with
 | [.sl aa]=>g aa H
 | _=>none
theorem ct.T {F:Nat} {aa:Sl} {H:Hp} {v:AV} {H':Hp} (h:ct.tw F aa H = some (v,H')):Go.AE.T Try.prog 119 [.sl aa] H v H':=
 nm_ok.T (enters_of Try.func119 (by kernel_rfl) (by kernel_rfl)) h
theorem ct.mk_T {F:Nat} {args:List AV} {H:Hp} {v:AV} {H':Hp} (h:ct.mk (ct.tw F) args H = some (v,H')):Go.AE.T Try.prog 119 args H v H':=by
 unfold ct.mk at h
 split at h
 ·exact ct.T h
 ·cases h
noncomputable def aE.l29 (F:Nat) (bR:Sl→Hp→OA) (dJ:Int→Hp→OA) (dK:Sl→Int→Int→Hp→OA) (dL:Sl→Hp→OA) :Nat→Nat→Nat→Sl→Sl→Int→Int→Hp→OA
 | 0,_,_,_,_,_,_,_=>none
 | es + 1,eD,fL,fM,gA,eE,dM,H26=>(bif (decide (dM < eE)) then ((Sl.idx gA dM 2).bind fun p40=>(Hp.ldI H26 .i64 p40.1 p40.2).bind fun n41=>(Hp.ldI H26 .i64 p40.1 (p40.2 + 1)).bind fun n42=>(Hp.new H26 [.int .i64 0,.int .i64 0]).bind fun H43=>(Hp.st H43 H26.length 0 (.int .i64 n41)).bind fun H44=>(Hp.st H44 H26.length (0 + 1) (.int .i64 n42)).bind fun H45=>(Hp.ldI H45 .i64 H26.length 0).bind fun n46=>(Hp.ldSl H45 eD (fL + 1)).bind fun s47=>(Sl.idx s47 dM 2).bind fun p48=>(Hp.ldI H45 .i64 p48.1 p48.2).bind fun n49=>(dK fM n46 n49 H45).bind fun r50=>aE.l29 F bR dJ dK dL es eD fL fM gA eE (IntKind.i64.wrap (dM + 1)) r50.2) else ((dL fM H26).bind fun r51=>((r51.1).asSl).bind fun s52=>some ((.sl s52),r51.2)))
termination_by structural n=>n
noncomputable def aE.twX (F:Nat) (bR:Sl→Hp→OA) (dJ:Int→Hp→OA) (dK:Sl→Int→Int→Hp→OA) (dL:Sl→Hp→OA) (aa:Sl) (ab:Int) (ah:Sl) (aL:Sl) (H:Hp):OA:=(Hp.new H [(.sl aa),(.int .i64 ab)]).bind fun H5=>(Hp.new H5 [(.sl ah),(.sl aL)]).bind fun H6=>(Hp.ldSl H6 H.length 0).bind fun s7=>(bR s7 H6).bind fun r8=>((r8.1).asI .i64).bind fun n9=>(dJ n9 r8.2).bind fun r10=>((r10.1).asSl).bind fun s11=>(Hp.ldSl r10.2 H5.length 0).bind fun s12=>aE.l29 F bR dJ dK dL F H5.length 0 s11 s12 (s12.n:Int) 0 r10.2
noncomputable def aE.tw (F:Nat) (aa:Sl) (ab:Int) (ah:Sl) (aL:Sl) (H:Hp):OA:=aE.twX F (aX.tw F) (aP.tw F) (aG.tw F) (ct.tw F) aa ab ah aL H
noncomputable def aE.code:Go.Code:=(Try.f126.body).getD .skip
noncomputable def aE.lh29 (F:Nat) (bR:Sl→Hp→OA) (dJ:Int→Hp→OA) (dK:Sl→Int→Int→Hp→OA) (dL:Sl→Hp→OA) (ks:List Nat) (n:Nat) (tm:Tm) (H:Hp):OA:=match ks,tm 3,tm 5,tm 13,tm 14,tm 15 with
 | [],(.ptr eD fL),(.sl fM),(.sl gA),(.int .i64 eE),(.int .i64 dM)=>aE.l29 F bR dJ dK dL n eD fL fM gA eE dM H
 | _,_,_,_,_,_=>none
theorem aE.lh29_inv {F:Nat} {bR:Sl→Hp→OA} {dJ:Int→Hp→OA} {dK:Sl→Int→Int→Hp→OA} {dL:Sl→Hp→OA} {ks:List Nat} {n:Nat} {tm:Tm} {H:Hp} {r:AV×Hp} (h:aE.lh29 F bR dJ dK dL ks n tm H = some r):∃ eD:Nat,∃ fL:Nat,∃ fM:Sl,∃ gA:Sl,∃ eE:Int,∃ dM:Int,ks = []∧tm 3 = (.ptr eD fL)∧tm 5 = (.sl fM)∧tm 13 = (.sl gA)∧tm 14 = (.int .i64 eE)∧tm 15 = (.int .i64 dM)∧aE.l29 F bR dJ dK dL n eD fL fM gA eE dM H = some r:=by
 unfold aE.lh29 at h
 split at h
 ·exact ⟨_,_,_,_,_,_,rfl,by assumption,by assumption,by assumption,by assumption,by assumption,h⟩
 ·cases h
noncomputable def aE.lh (F:Nat) (bR:Sl→Hp→OA) (dJ:Int→Hp→OA) (dK:Sl→Int→Int→Hp→OA) (dL:Sl→Hp→OA) (p:Nat) (ks:List Nat) (n:Nat) (tm:Tm) (H:Hp):OA:=bif p.beq 29 then aE.lh29 F bR dJ dK dL ks n tm H else (none)
def aE.pn:Nat→List Nat:=fun i=>(([(5,[9])]:List (Nat×List Nat)).lookup i).getD []
def aE.tb:Nat→List (List Nat):=fun i=>(([(5,[[],[],[1],[],[3],[],[3,4,5],[3,4,5,6],[3,4,5,6,7],[0,1,2,3,4,5,6,7,8]])]:List (Nat×List (List Nat))).lookup i).getD []
noncomputable def aE.mk (g:Sl→Int→Sl→Sl→Hp→OA) (args:List AV) (H:Hp):OA:=match args with
 | [(.agg [(.sl aa),(.int .i64 ab)]),(.agg [(.sl ah),(.sl aL)])]=>g aa ab ah aL H
 | _=>none
noncomputable def aE.cs (F:Nat) (bR:Sl→Hp→OA) (dJ:Int→Hp→OA) (dK:Sl→Int→Int→Hp→OA) (dL:Sl→Hp→OA):List (FuncId×(List AV→Hp→OA)):=[(117,aX.mk bR),(116,aP.mk dJ),(118,aG.mk dK),(119,ct.mk dL)]
theorem aE.loops (F:Nat) (bR:Sl→Hp→OA) (dJ:Int→Hp→OA) (dK:Sl→Int→Int→Hp→OA) (dL:Sl→Hp→OA):LoopsOk tabs (mkOrc (aE.cs F bR dJ dK dL)) aE.pn (aE.lh F bR dJ dK dL) F [] 1 aE.code (fun tm H=>aresults tabs.ty H tm Try.f126.results.toList fun v=>some (v,H)) (fun _ _ _=>none) (fun tm H=>aresults tabs.ty H tm Try.f126.results.toList fun v=>some (v,H)):=by
 refine LoopsOk.seq ?_ ?_
 ·exact loops_none (by kernel_rfl)
 ·refine LoopsOk.seq ?_ ?_
  ·exact loops_none (by kernel_rfl)
  ·refine LoopsOk.seq ?_ ?_
   ·refine LoopsOk.seq ?_ ?_
    ·exact loops_none (by kernel_rfl)
    ·refine LoopsOk.block ?_
     refine LoopsOk.loop (fun tm H=>?_) (fun k29 tm H r h0=>?_) (fun k29=>?_)
     ·refine none_of fun r h0=>?_
      obtain ⟨eD,fL,fM,gA,eE,dM,hks,e3,e5,e13,e14,e15,h⟩:=aE.lh29_inv (show aE.lh29 F bR dJ dK dL [] 0 tm H = some r from h0)
      cases h
     ·obtain ⟨eD,fL,fM,gA,eE,dM,hks,e3,e5,e13,e14,e15,h⟩:=aE.lh29_inv (show aE.lh29 F bR dJ dK dL [] (k29 + 1) tm H = some r from h0)
      have q0:(Tm.put tm 3 (.ptr eD fL)) = tm:=by exact Tm.put_same e3
      have q1:(Tm.put (Tm.put tm 3 (.ptr eD fL)) 5 (.sl fM)) = tm:=by rw [q0]; exact Tm.put_same e5
      have q2:(Tm.put (Tm.put (Tm.put tm 3 (.ptr eD fL)) 5 (.sl fM)) 13 (.sl gA)) = tm:=by rw [q1]; exact Tm.put_same e13
      have q3:(Tm.put (Tm.put (Tm.put (Tm.put tm 3 (.ptr eD fL)) 5 (.sl fM)) 13 (.sl gA)) 14 (.int .i64 eE)) = tm:=by rw [q2]; exact Tm.put_same e14
      have q4:(Tm.put (Tm.put (Tm.put (Tm.put (Tm.put tm 3 (.ptr eD fL)) 5 (.sl fM)) 13 (.sl gA)) 14 (.int .i64 eE)) 15 (.int .i64 dM)) = tm:=by rw [q3]; exact Tm.put_same e15
      rw [← q4]
      exact Eq.trans (by kernel_rfl) h
     ·exact loops_none (by kernel_rfl)
   ·exact loops_none (by kernel_rfl)
theorem aE.eqX (F:Nat) (bR:Sl→Hp→OA) (dJ:Int→Hp→OA) (dK:Sl→Int→Int→Hp→OA) (dL:Sl→Hp→OA) (aa:Sl) (ab:Int) (ah:Sl) (aL:Sl) (H:Hp):aCode tabs (mkOrc (aE.cs F bR dJ dK dL)) aE.pn (aE.lh F bR dJ dK dL) F [] 1 aE.code (argTm [(.agg [(.sl aa),(.int .i64 ab)]),(.agg [(.sl ah),(.sl aL)])]) H (fun tm H=>aresults tabs.ty H tm Try.f126.results.toList fun v=>some (v,H)) (fun _ _ _=>none) (fun tm H=>aresults tabs.ty H tm Try.f126.results.toList fun v=>some (v,H)) = aE.twX F bR dJ dK dL aa ab ah aL H:=by kernel_rfl
theorem aE.cs_ok (F:Nat):∀ p ∈ aE.cs F (aX.tw F) (aP.tw F) (aG.tw F) (ct.tw F),∀ args H v H',p.2 args H = some (v,H')→Go.AE.T Try.prog p.1 args H v H':=by
 intro p hp
 simp only [aE.cs,List.mem_cons,List.not_mem_nil,or_false] at hp
 rcases hp with rfl | rfl | rfl | rfl
 ·exact fun args H v H' h=>aX.mk_T h
 ·exact fun args H v H' h=>aP.mk_T h
 ·exact fun args H v H' h=>aG.mk_T h
 ·exact fun args H v H' h=>ct.mk_T h
theorem aE.ok:codeOk aE.pn Try.f126.ntmps aE.tb aE.code = true:=by kernel_rfl
theorem aE.T {F:Nat} {aa:Sl} {ab:Int} {ah:Sl} {aL:Sl} {H:Hp} {v:AV} {H':Hp} (h:aE.tw F aa ab ah aL H = some (v,H')):Go.AE.T Try.prog 126 [(.agg [(.sl aa),(.int .i64 ab)]),(.agg [(.sl ah),(.sl aL)])] H v H':=
 Go.AE.T.of (Y:=tabs) (C:=mkOrc (aE.cs F (aX.tw F) (aP.tw F) (aG.tw F) (ct.tw F))) (PN:=aE.pn) (LH:=aE.lh F (aX.tw F) (aP.tw F) (aG.tw F) (ct.tw F)) (F:=F) (TB:=aE.tb) (fn:=Try.f126) (code:=aE.code) mixed tabs_ok (mkOrc_ok (aE.cs_ok F)) Try.func126 (by kernel_rfl) (by kernel_rfl) aE.ok (Nat.le_of_ble_eq_true (by kernel_rfl)) (aE.loops F (aX.tw F) (aP.tw F) (aG.tw F) (ct.tw F)) (Eq.trans (aE.eqX F (aX.tw F) (aP.tw F) (aG.tw F) (ct.tw F) aa ab ah aL H) h)
theorem aE.mk_T {F:Nat} {args:List AV} {H:Hp} {v:AV} {H':Hp} (h:aE.mk (aE.tw F) args H = some (v,H')):Go.AE.T Try.prog 126 args H v H':=by
 unfold aE.mk at h
 split at h
 ·exact aE.T h
 ·cases h
noncomputable def aJ.l61 (F:Nat) :Nat→Sl→Int→Int→Hp→OA
 | 0,_,_,_,_=>none
 | bo + 1,cr,cm,eh,H13=>(bif (decide (eh < (cr.n:Int))) then ((Sl.idx cr eh 1).bind fun p16=>(Hp.ldI H13 .i64 p16.1 p16.2).bind fun n17=>aJ.l61 F bo cr (if n17 > cm then n17 else cm) (IntKind.i64.wrap (eh + 1)) H13) else (some ((.int .i64 cm),H13)))
termination_by structural n=>n
noncomputable def aJ.j1 (F:Nat) (wC:Sl) (H5:Hp):OA:=(Sl.idx wC 0 1).bind fun p6=>(Hp.ldI H5 .i64 p6.1 p6.2).bind fun n7=>aJ.l61 F F wC n7 1 H5
noncomputable def aJ.twX (F:Nat) (aa:Sl) (H:Hp):OA:=(bif (decide ((aa.n:Int) < 1)) then (none) else (aJ.j1 F aa H))
noncomputable def aJ.tw (F:Nat) (aa:Sl) (H:Hp):OA:=aJ.twX F aa H
noncomputable def aJ.code:Go.Code:=(Try.f151.body).getD .skip
noncomputable def aJ.lh61 (F:Nat) (ks:List Nat) (n:Nat) (tm:Tm) (H:Hp):OA:=match ks,tm 0,tm 3,tm 4 with
 | [],(.sl cr),(.int .i64 cm),(.int .i64 eh)=>aJ.l61 F n cr cm eh H
 | _,_,_,_=>none
theorem aJ.lh61_inv {F:Nat} {ks:List Nat} {n:Nat} {tm:Tm} {H:Hp} {r:AV×Hp} (h:aJ.lh61 F ks n tm H = some r):∃ cr:Sl,∃ cm:Int,∃ eh:Int,ks = []∧tm 0 = (.sl cr)∧tm 3 = (.int .i64 cm)∧tm 4 = (.int .i64 eh)∧aJ.l61 F n cr cm eh H = some r:=by
 unfold aJ.lh61 at h
 split at h
 ·exact ⟨_,_,_,rfl,by assumption,by assumption,by assumption,h⟩
 ·cases h
noncomputable def aJ.lh (F:Nat) (p:Nat) (ks:List Nat) (n:Nat) (tm:Tm) (H:Hp):OA:=bif p.beq 61 then aJ.lh61 F ks n tm H else (none)
def aJ.pn:Nat→List Nat:=fun i=>(([]:List (Nat×List Nat)).lookup i).getD []
def aJ.tb:Nat→List (List Nat):=fun i=>(([]:List (Nat×List (List Nat))).lookup i).getD []
noncomputable def aJ.mk (g:Sl→Hp→OA) (args:List AV) (H:Hp):OA:=match args with
 | [(.sl aa)]=>g aa H
 | _=>none
noncomputable def aJ.cs (F:Nat):List (FuncId×(List AV→Hp→OA)):=[]
theorem aJ.loops (F:Nat):LoopsOk tabs (mkOrc (aJ.cs F)) aJ.pn (aJ.lh F) F [] 1 aJ.code (fun tm H=>aresults tabs.ty H tm Try.f151.results.toList fun v=>some (v,H)) (fun _ _ _=>none) (fun tm H=>aresults tabs.ty H tm Try.f151.results.toList fun v=>some (v,H)):=by
 refine LoopsOk.seq ?_ ?_
 ·exact loops_none (by kernel_rfl)
 ·refine LoopsOk.seq ?_ ?_
  ·exact loops_none (by kernel_rfl)
  ·refine LoopsOk.seq ?_ ?_
   ·exact loops_none (by kernel_rfl)
   ·refine LoopsOk.seq ?_ ?_
    ·refine LoopsOk.seq ?_ ?_
     ·exact loops_none (by kernel_rfl)
     ·refine LoopsOk.block ?_
      refine LoopsOk.loop (fun tm H=>?_) (fun k61 tm H r h0=>?_) (fun k61=>?_)
      ·refine none_of fun r h0=>?_
       obtain ⟨cr,cm,eh,hks,e0,e3,e4,h⟩:=aJ.lh61_inv (show aJ.lh61 F [] 0 tm H = some r from h0)
       cases h
      ·obtain ⟨cr,cm,eh,hks,e0,e3,e4,h⟩:=aJ.lh61_inv (show aJ.lh61 F [] (k61 + 1) tm H = some r from h0)
       have q0:(Tm.put tm 0 (.sl cr)) = tm:=by exact Tm.put_same e0
       have q1:(Tm.put (Tm.put tm 0 (.sl cr)) 3 (.int .i64 cm)) = tm:=by rw [q0]; exact Tm.put_same e3
       have q2:(Tm.put (Tm.put (Tm.put tm 0 (.sl cr)) 3 (.int .i64 cm)) 4 (.int .i64 eh)) = tm:=by rw [q1]; exact Tm.put_same e4
       rw [← q2]
       exact Eq.trans (by kernel_rfl) h
      ·exact loops_none (by kernel_rfl)
    ·exact loops_none (by kernel_rfl)
theorem aJ.eqX (F:Nat) (aa:Sl) (H:Hp):aCode tabs (mkOrc (aJ.cs F)) aJ.pn (aJ.lh F) F [] 1 aJ.code (argTm [(.sl aa)]) H (fun tm H=>aresults tabs.ty H tm Try.f151.results.toList fun v=>some (v,H)) (fun _ _ _=>none) (fun tm H=>aresults tabs.ty H tm Try.f151.results.toList fun v=>some (v,H)) = aJ.twX F aa H:=by kernel_rfl
theorem aJ.cs_ok (F:Nat):∀ p ∈ aJ.cs F,∀ args H v H',p.2 args H = some (v,H')→Go.AE.T Try.prog p.1 args H v H':=by
 intro p hp
 exact absurd (show p ∈ [] from hp) List.not_mem_nil
theorem aJ.ok:codeOk aJ.pn Try.f151.ntmps aJ.tb aJ.code = true:=by kernel_rfl
theorem aJ.T {F:Nat} {aa:Sl} {H:Hp} {v:AV} {H':Hp} (h:aJ.tw F aa H = some (v,H')):Go.AE.T Try.prog 151 [(.sl aa)] H v H':=
 Go.AE.T.of (Y:=tabs) (C:=mkOrc (aJ.cs F)) (PN:=aJ.pn) (LH:=aJ.lh F) (F:=F) (TB:=aJ.tb) (fn:=Try.f151) (code:=aJ.code) mixed tabs_ok (mkOrc_ok (aJ.cs_ok F)) Try.func151 (by kernel_rfl) (by kernel_rfl) aJ.ok (Nat.le_of_ble_eq_true (by kernel_rfl)) (aJ.loops F) (Eq.trans (aJ.eqX F aa H) h)
theorem aJ.mk_T {F:Nat} {args:List AV} {H:Hp} {v:AV} {H':Hp} (h:aJ.mk (aJ.tw F) args H = some (v,H')):Go.AE.T Try.prog 151 args H v H':=by
 unfold aJ.mk at h
 split at h
 ·exact aJ.T h
 ·cases h
noncomputable def ba.twX (F:Nat) (gY:Sl→Hp→OA) (aa:Sl) (H:Hp):OA:=(bif ((aa.n:Int) == 0) then (some ((.int .i64 0),H)) else ((gY aa H).bind fun r2=>((r2.1).asI .i64).bind fun n3=>some ((.int .i64 (IntKind.i64.wrap (n3 + 1))),r2.2)))
noncomputable def ba.tw (F:Nat) (aa:Sl) (H:Hp):OA:=ba.twX F (aJ.tw F) aa H
noncomputable def ba.code:Go.Code:=(Try.f120.body).getD .skip
noncomputable def ba.lh (F:Nat) (gY:Sl→Hp→OA) (p:Nat) (ks:List Nat) (n:Nat) (tm:Tm) (H:Hp):OA:=none
def ba.pn:Nat→List Nat:=fun i=>(([]:List (Nat×List Nat)).lookup i).getD []
def ba.tb:Nat→List (List Nat):=fun i=>(([]:List (Nat×List (List Nat))).lookup i).getD []
noncomputable def ba.mk (g:Sl→Hp→OA) (args:List AV) (H:Hp):OA:=match args with
 | [(.sl aa)]=>g aa H
 | _=>none
noncomputable def ba.cs (F:Nat) (gY:Sl→Hp→OA):List (FuncId×(List AV→Hp→OA)):=[(151,aJ.mk gY)]
theorem ba.loops (F:Nat) (gY:Sl→Hp→OA):LoopsOk tabs (mkOrc (ba.cs F gY)) ba.pn (ba.lh F gY) F [] 1 ba.code (fun tm H=>aresults tabs.ty H tm Try.f120.results.toList fun v=>some (v,H)) (fun _ _ _=>none) (fun tm H=>aresults tabs.ty H tm Try.f120.results.toList fun v=>some (v,H)):=by
 exact loops_none (by kernel_rfl)
theorem ba.eqX (F:Nat) (gY:Sl→Hp→OA) (aa:Sl) (H:Hp):aCode tabs (mkOrc (ba.cs F gY)) ba.pn (ba.lh F gY) F [] 1 ba.code (argTm [(.sl aa)]) H (fun tm H=>aresults tabs.ty H tm Try.f120.results.toList fun v=>some (v,H)) (fun _ _ _=>none) (fun tm H=>aresults tabs.ty H tm Try.f120.results.toList fun v=>some (v,H)) = ba.twX F gY aa H:=by kernel_rfl
theorem ba.cs_ok (F:Nat):∀ p ∈ ba.cs F (aJ.tw F),∀ args H v H',p.2 args H = some (v,H')→Go.AE.T Try.prog p.1 args H v H':=by
 intro p hp
 simp only [ba.cs,List.mem_cons,List.not_mem_nil,or_false] at hp
 subst hp
 exact fun args H v H' h=>aJ.mk_T h
theorem ba.ok:codeOk ba.pn Try.f120.ntmps ba.tb ba.code = true:=by kernel_rfl
theorem ba.T {F:Nat} {aa:Sl} {H:Hp} {v:AV} {H':Hp} (h:ba.tw F aa H = some (v,H')):Go.AE.T Try.prog 120 [(.sl aa)] H v H':=
 Go.AE.T.of (Y:=tabs) (C:=mkOrc (ba.cs F (aJ.tw F))) (PN:=ba.pn) (LH:=ba.lh F (aJ.tw F)) (F:=F) (TB:=ba.tb) (fn:=Try.f120) (code:=ba.code) mixed tabs_ok (mkOrc_ok (ba.cs_ok F)) Try.func120 (by kernel_rfl) (by kernel_rfl) ba.ok (Nat.le_of_ble_eq_true (by kernel_rfl)) (ba.loops F (aJ.tw F)) (Eq.trans (ba.eqX F (aJ.tw F) aa H) h)
theorem ba.mk_T {F:Nat} {args:List AV} {H:Hp} {v:AV} {H':Hp} (h:ba.mk (ba.tw F) args H = some (v,H')):Go.AE.T Try.prog 120 args H v H':=by
 unfold ba.mk at h
 split at h
 ·exact ba.T h
 ·cases h
noncomputable def bn.twX (F:Nat) (bR:Sl→Hp→OA) (cf:Int→Int→Int→Hp→OA) (gZ:Sl→Hp→OA) (g_:Sl→Int→Hp→OA) (aD:Sl→Int→Sl→Sl→Hp→OA) (hB:Sl→Hp→OA) (bh:Sl→Int→Sl→Sl→Hp→OA) (bi:Sl→Hp→OA) (aa:Sl) (ab:Int) (H:Hp):OA:=(Hp.new H [(.sl aa),(.int .i64 ab)]).bind fun H3=>(Hp.new H3 [.sl ⟨none,0,.ex 0⟩,.sl ⟨none,0,.ex 0⟩]).bind fun H4=>(Hp.ldSl H4 H.length 0).bind fun s5=>(bR s5 H4).bind fun r6=>((r6.1).asI .i64).bind fun n7=>(bif (decide (n7 > 10)) then ((Hp.st r6.2 H3.length 0 (.sl (⟨none,0,.ex 0⟩:Sl))).bind fun H8=>(Hp.st H8 H3.length (0 + 1) (.sl (⟨none,0,.ex 0⟩:Sl))).bind fun H9=>(Hp.ldSl H9 H3.length 0).bind fun s10=>(Hp.ldSl H9 H3.length (0 + 1)).bind fun s11=>some ((.tup [(.agg [(.sl s10),(.sl s11)]),(.bool false)]),H9)) else ((Hp.ldI r6.2 .i64 H.length 1).bind fun n12=>(cf n12 0 8 r6.2).bind fun r13=>((r13.1).asB).bind fun b14=>(bif (!b14) then ((Hp.st r13.2 H3.length 0 (.sl (⟨none,0,.ex 0⟩:Sl))).bind fun H15=>(Hp.st H15 H3.length (0 + 1) (.sl (⟨none,0,.ex 0⟩:Sl))).bind fun H16=>(Hp.ldSl H16 H3.length 0).bind fun s17=>(Hp.ldSl H16 H3.length (0 + 1)).bind fun s18=>some ((.tup [(.agg [(.sl s17),(.sl s18)]),(.bool false)]),H16)) else ((Hp.ldSl r13.2 H.length 0).bind fun s19=>(gZ s19 r13.2).bind fun r20=>((r20.1).asB).bind fun b21=>(bif b21 then ((Hp.st r20.2 H3.length 0 (.sl (⟨none,0,.ex 0⟩:Sl))).bind fun H22=>(Hp.st H22 H3.length (0 + 1) (.sl (⟨none,0,.ex 0⟩:Sl))).bind fun H23=>(Hp.ldSl H23 H3.length 0).bind fun s24=>(Hp.ldSl H23 H3.length (0 + 1)).bind fun s25=>some ((.tup [(.agg [(.sl s24),(.sl s25)]),(.bool false)]),H23)) else ((Hp.ldSl r20.2 H.length 0).bind fun s26=>(Hp.ldI r20.2 .i64 H.length (0 + 1)).bind fun n27=>(g_ s26 n27 r20.2).bind fun r28=>((r28.1).asTup 2).bind fun l29=>(l29[0]?).bind fun v30=>((v30).asAgg 2).bind fun l31=>(l31[0]?).bind fun v32=>((v32).asSl).bind fun s33=>(l31[1]?).bind fun v34=>((v34).asSl).bind fun s35=>(l29[1]?).bind fun v36=>((v36).asB).bind fun b37=>(Hp.new r28.2 [.sl ⟨none,0,.ex 0⟩,.sl ⟨none,0,.ex 0⟩]).bind fun H38=>(Hp.st H38 r28.2.length 0 (.sl s33)).bind fun H39=>(Hp.st H39 r28.2.length (0 + 1) (.sl s35)).bind fun H40=>(bif (!b37) then ((Hp.st H40 H3.length 0 (.sl (⟨none,0,.ex 0⟩:Sl))).bind fun H41=>(Hp.st H41 H3.length (0 + 1) (.sl (⟨none,0,.ex 0⟩:Sl))).bind fun H42=>(Hp.ldSl H42 H3.length 0).bind fun s43=>(Hp.ldSl H42 H3.length (0 + 1)).bind fun s44=>some ((.tup [(.agg [(.sl s43),(.sl s44)]),(.bool false)]),H42)) else ((Hp.ldSl H40 H.length 0).bind fun s45=>(Hp.ldI H40 .i64 H.length (0 + 1)).bind fun n46=>(Hp.ldSl H40 r28.2.length 0).bind fun s47=>(Hp.ldSl H40 r28.2.length (0 + 1)).bind fun s48=>(aD s45 n46 s47 s48 H40).bind fun r49=>((r49.1).asSl).bind fun s50=>(if Cons H40 r49.2 then ((hB s50 r49.2).bind fun r51=>((r51.1).asI .i64).bind fun n52=>(if Cons r49.2 r51.2 then ((Hp.ldSl r51.2 H.length 0).bind fun s53=>(Hp.ldI r51.2 .i64 H.length (0 + 1)).bind fun n54=>(Hp.ldSl r51.2 r28.2.length 0).bind fun s55=>(Hp.ldSl r51.2 r28.2.length (0 + 1)).bind fun s56=>(bh s53 n54 s55 s56 r51.2).bind fun r57=>((r57.1).asSl).bind fun s58=>(bi s58 r57.2).bind fun r59=>((r59.1).asI .i64).bind fun n60=>(bif (n52 != (IntKind.i64.wrap (n7 + (IntKind.i64.wrap (2 * n60))))) then ((Hp.st r59.2 H3.length 0 (.sl (⟨none,0,.ex 0⟩:Sl))).bind fun H61=>(Hp.st H61 H3.length (0 + 1) (.sl (⟨none,0,.ex 0⟩:Sl))).bind fun H62=>(Hp.ldSl H62 H3.length 0).bind fun s63=>(Hp.ldSl H62 H3.length (0 + 1)).bind fun s64=>some ((.tup [(.agg [(.sl s63),(.sl s64)]),(.bool false)]),H62)) else ((Hp.ldSl r59.2 r28.2.length 0).bind fun s65=>(Hp.ldSl r59.2 r28.2.length (0 + 1)).bind fun s66=>(Hp.st r59.2 H3.length 0 (.sl s65)).bind fun H67=>(Hp.st H67 H3.length (0 + 1) (.sl s66)).bind fun H68=>(Hp.ldSl H68 H3.length 0).bind fun s69=>(Hp.ldSl H68 H3.length (0 + 1)).bind fun s70=>some ((.tup [(.agg [(.sl s69),(.sl s70)]),(.bool true)]),H68)))) else none)) else none)))))))))
noncomputable def bn.tw (F:Nat) (aa:Sl) (ab:Int) (H:Hp):OA:=bn.twX F (aX.tw F) (a_.tw F) (bx.tw F) (aw.tw F) (aj.tw F) (bJ.tw F) (aE.tw F) (ba.tw F) aa ab H
noncomputable def bn.code:Go.Code:=(Try.f69.body).getD .skip
noncomputable def bn.lh (F:Nat) (bR:Sl→Hp→OA) (cf:Int→Int→Int→Hp→OA) (gZ:Sl→Hp→OA) (g_:Sl→Int→Hp→OA) (aD:Sl→Int→Sl→Sl→Hp→OA) (hB:Sl→Hp→OA) (bh:Sl→Int→Sl→Sl→Hp→OA) (bi:Sl→Hp→OA) (p:Nat) (ks:List Nat) (n:Nat) (tm:Tm) (H:Hp):OA:=none
def bn.pn:Nat→List Nat:=fun i=>(([(5,[10,11])]:List (Nat×List Nat)).lookup i).getD []
def bn.tb:Nat→List (List Nat):=fun i=>(([(5,[[],[0],[0,1],[0,1,2],[0,1,2],[0,1,2,3,4],[0,1,2,3,4,5],[0,1,2],[0,1,2],[0,1,2],[0,1,2,3,4,5,6,8,9],[0,1,2,3,4,5,6,8,9,10],[0,1,2,3,4,5,6,8,9,10,11],[0,1,2,3,4,5,6,7,8,9,10,11,12],[0,1,2,3,4,5,6,7,8,9,10,11,12,13],[0,1,2,3,4,5,6,7,8,9,10,11,12,13,14]])]:List (Nat×List (List Nat))).lookup i).getD []
noncomputable def bn.mk (g:Sl→Int→Hp→OA) (args:List AV) (H:Hp):OA:=match args with
 | [(.agg [(.sl aa),(.int .i64 ab)])]=>g aa ab H
 | _=>none
noncomputable def bn.cs (F:Nat) (bR:Sl→Hp→OA) (cf:Int→Int→Int→Hp→OA) (gZ:Sl→Hp→OA) (g_:Sl→Int→Hp→OA) (aD:Sl→Int→Sl→Sl→Hp→OA) (hB:Sl→Hp→OA) (bh:Sl→Int→Sl→Sl→Hp→OA) (bi:Sl→Hp→OA):List (FuncId×(List AV→Hp→OA)):=[(117,aX.mk bR),(81,a_.mk cf),(123,bx.mk gZ),(125,aw.mk g_),(103,aj.mk aD),(89,bJ.mk hB),(126,aE.mk bh),(120,ba.mk bi)]
theorem bn.loops (F:Nat) (bR:Sl→Hp→OA) (cf:Int→Int→Int→Hp→OA) (gZ:Sl→Hp→OA) (g_:Sl→Int→Hp→OA) (aD:Sl→Int→Sl→Sl→Hp→OA) (hB:Sl→Hp→OA) (bh:Sl→Int→Sl→Sl→Hp→OA) (bi:Sl→Hp→OA):LoopsOk tabs (mkOrc (bn.cs F bR cf gZ g_ aD hB bh bi)) bn.pn (bn.lh F bR cf gZ g_ aD hB bh bi) F [] 1 bn.code (fun tm H=>aresults tabs.ty H tm Try.f69.results.toList fun v=>some (v,H)) (fun _ _ _=>none) (fun tm H=>aresults tabs.ty H tm Try.f69.results.toList fun v=>some (v,H)):=by
 exact loops_none (by kernel_rfl)
theorem bn.eqX (F:Nat) (bR:Sl→Hp→OA) (cf:Int→Int→Int→Hp→OA) (gZ:Sl→Hp→OA) (g_:Sl→Int→Hp→OA) (aD:Sl→Int→Sl→Sl→Hp→OA) (hB:Sl→Hp→OA) (bh:Sl→Int→Sl→Sl→Hp→OA) (bi:Sl→Hp→OA) (aa:Sl) (ab:Int) (H:Hp):aCode tabs (mkOrc (bn.cs F bR cf gZ g_ aD hB bh bi)) bn.pn (bn.lh F bR cf gZ g_ aD hB bh bi) F [] 1 bn.code (argTm [(.agg [(.sl aa),(.int .i64 ab)])]) H (fun tm H=>aresults tabs.ty H tm Try.f69.results.toList fun v=>some (v,H)) (fun _ _ _=>none) (fun tm H=>aresults tabs.ty H tm Try.f69.results.toList fun v=>some (v,H)) = bn.twX F bR cf gZ g_ aD hB bh bi aa ab H:=by kernel_rfl
theorem bn.cs_ok (F:Nat):∀ p ∈ bn.cs F (aX.tw F) (a_.tw F) (bx.tw F) (aw.tw F) (aj.tw F) (bJ.tw F) (aE.tw F) (ba.tw F),∀ args H v H',p.2 args H = some (v,H')→Go.AE.T Try.prog p.1 args H v H':=by
 intro p hp
 simp only [bn.cs,List.mem_cons,List.not_mem_nil,or_false] at hp
 rcases hp with rfl | rfl | rfl | rfl | rfl | rfl | rfl | rfl
 ·exact fun args H v H' h=>aX.mk_T h
 ·exact fun args H v H' h=>a_.mk_T h
 ·exact fun args H v H' h=>bx.mk_T h
 ·exact fun args H v H' h=>aw.mk_T h
 ·exact fun args H v H' h=>aj.mk_T h
 ·exact fun args H v H' h=>bJ.mk_T h
 ·exact fun args H v H' h=>aE.mk_T h
 ·exact fun args H v H' h=>ba.mk_T h
theorem bn.ok:codeOk bn.pn Try.f69.ntmps bn.tb bn.code = true:=by kernel_rfl
theorem bn.T {F:Nat} {aa:Sl} {ab:Int} {H:Hp} {v:AV} {H':Hp} (h:bn.tw F aa ab H = some (v,H')):Go.AE.T Try.prog 69 [(.agg [(.sl aa),(.int .i64 ab)])] H v H':=
 Go.AE.T.of (Y:=tabs) (C:=mkOrc (bn.cs F (aX.tw F) (a_.tw F) (bx.tw F) (aw.tw F) (aj.tw F) (bJ.tw F) (aE.tw F) (ba.tw F))) (PN:=bn.pn) (LH:=bn.lh F (aX.tw F) (a_.tw F) (bx.tw F) (aw.tw F) (aj.tw F) (bJ.tw F) (aE.tw F) (ba.tw F)) (F:=F) (TB:=bn.tb) (fn:=Try.f69) (code:=bn.code) mixed tabs_ok (mkOrc_ok (bn.cs_ok F)) Try.func69 (by kernel_rfl) (by kernel_rfl) bn.ok (Nat.le_of_ble_eq_true (by kernel_rfl)) (bn.loops F (aX.tw F) (a_.tw F) (bx.tw F) (aw.tw F) (aj.tw F) (bJ.tw F) (aE.tw F) (ba.tw F)) (Eq.trans (bn.eqX F (aX.tw F) (a_.tw F) (bx.tw F) (aw.tw F) (aj.tw F) (bJ.tw F) (aE.tw F) (ba.tw F) aa ab H) h)
theorem bn.mk_T {F:Nat} {args:List AV} {H:Hp} {v:AV} {H':Hp} (h:bn.mk (bn.tw F) args H = some (v,H')):Go.AE.T Try.prog 69 args H v H':=by
 unfold bn.mk at h
 split at h
 ·exact bn.T h
 ·cases h
noncomputable def bE.twX (F:Nat) (bR:Sl→Hp→OA) (cf:Int→Int→Int→Hp→OA) (aa:Sl) (ag:Int) (H:Hp):OA:=(bR aa H).bind fun r3=>((r3.1).asI .i64).bind fun n4=>(cf ag 0 (IntKind.i64.wrap (n4 - 1)) r3.2).bind fun r5=>((r5.1).asB).bind fun b6=>some ((.bool b6),r5.2)
noncomputable def bE.tw (F:Nat) (aa:Sl) (ag:Int) (H:Hp):OA:=bE.twX F (aX.tw F) (a_.tw F) aa ag H
noncomputable def bE.code:Go.Code:=(Try.f70.body).getD .skip
noncomputable def bE.lh (F:Nat) (bR:Sl→Hp→OA) (cf:Int→Int→Int→Hp→OA) (p:Nat) (ks:List Nat) (n:Nat) (tm:Tm) (H:Hp):OA:=none
def bE.pn:Nat→List Nat:=fun i=>(([]:List (Nat×List Nat)).lookup i).getD []
def bE.tb:Nat→List (List Nat):=fun i=>(([]:List (Nat×List (List Nat))).lookup i).getD []
noncomputable def bE.mk (g:Sl→Int→Hp→OA) (args:List AV) (H:Hp):OA:=match args with
 | [(.sl aa),(.int .i64 ag)]=>g aa ag H
 | _=>none
noncomputable def bE.cs (F:Nat) (bR:Sl→Hp→OA) (cf:Int→Int→Int→Hp→OA):List (FuncId×(List AV→Hp→OA)):=[(117,aX.mk bR),(81,a_.mk cf)]
theorem bE.loops (F:Nat) (bR:Sl→Hp→OA) (cf:Int→Int→Int→Hp→OA):LoopsOk tabs (mkOrc (bE.cs F bR cf)) bE.pn (bE.lh F bR cf) F [] 1 bE.code (fun tm H=>aresults tabs.ty H tm Try.f70.results.toList fun v=>some (v,H)) (fun _ _ _=>none) (fun tm H=>aresults tabs.ty H tm Try.f70.results.toList fun v=>some (v,H)):=by
 exact loops_none (by kernel_rfl)
theorem bE.eqX (F:Nat) (bR:Sl→Hp→OA) (cf:Int→Int→Int→Hp→OA) (aa:Sl) (ag:Int) (H:Hp):aCode tabs (mkOrc (bE.cs F bR cf)) bE.pn (bE.lh F bR cf) F [] 1 bE.code (argTm [(.sl aa),(.int .i64 ag)]) H (fun tm H=>aresults tabs.ty H tm Try.f70.results.toList fun v=>some (v,H)) (fun _ _ _=>none) (fun tm H=>aresults tabs.ty H tm Try.f70.results.toList fun v=>some (v,H)) = bE.twX F bR cf aa ag H:=by kernel_rfl
theorem bE.cs_ok (F:Nat):∀ p ∈ bE.cs F (aX.tw F) (a_.tw F),∀ args H v H',p.2 args H = some (v,H')→Go.AE.T Try.prog p.1 args H v H':=by
 intro p hp
 simp only [bE.cs,List.mem_cons,List.not_mem_nil,or_false] at hp
 rcases hp with rfl | rfl
 ·exact fun args H v H' h=>aX.mk_T h
 ·exact fun args H v H' h=>a_.mk_T h
theorem bE.ok:codeOk bE.pn Try.f70.ntmps bE.tb bE.code = true:=by kernel_rfl
theorem bE.T {F:Nat} {aa:Sl} {ag:Int} {H:Hp} {v:AV} {H':Hp} (h:bE.tw F aa ag H = some (v,H')):Go.AE.T Try.prog 70 [(.sl aa),(.int .i64 ag)] H v H':=
 Go.AE.T.of (Y:=tabs) (C:=mkOrc (bE.cs F (aX.tw F) (a_.tw F))) (PN:=bE.pn) (LH:=bE.lh F (aX.tw F) (a_.tw F)) (F:=F) (TB:=bE.tb) (fn:=Try.f70) (code:=bE.code) mixed tabs_ok (mkOrc_ok (bE.cs_ok F)) Try.func70 (by kernel_rfl) (by kernel_rfl) bE.ok (Nat.le_of_ble_eq_true (by kernel_rfl)) (bE.loops F (aX.tw F) (a_.tw F)) (Eq.trans (bE.eqX F (aX.tw F) (a_.tw F) aa ag H) h)
theorem bE.mk_T {F:Nat} {args:List AV} {H:Hp} {v:AV} {H':Hp} (h:bE.mk (bE.tw F) args H = some (v,H')):Go.AE.T Try.prog 70 args H v H':=by
 unfold bE.mk at h
 split at h
 ·exact bE.T h
 ·cases h
noncomputable def bF.twX (F:Nat) (aa:Int) (H:Hp):OA:=(bif (aa == 0) then (some ((.bool true),H)) else (some ((.bool (aa == 1)),H)))
noncomputable def bF.tw (F:Nat) (aa:Int) (H:Hp):OA:=bF.twX F aa H
noncomputable def bF.code:Go.Code:=(Try.f71.body).getD .skip
noncomputable def bF.lh (F:Nat) (p:Nat) (ks:List Nat) (n:Nat) (tm:Tm) (H:Hp):OA:=none
def bF.pn:Nat→List Nat:=fun i=>(([]:List (Nat×List Nat)).lookup i).getD []
def bF.tb:Nat→List (List Nat):=fun i=>(([]:List (Nat×List (List Nat))).lookup i).getD []
noncomputable def bF.mk (g:Int→Hp→OA) (args:List AV) (H:Hp):OA:=match args with
 | [(.int .i64 aa)]=>g aa H
 | _=>none
noncomputable def bF.cs (F:Nat):List (FuncId×(List AV→Hp→OA)):=[]
theorem bF.loops (F:Nat):LoopsOk tabs (mkOrc (bF.cs F)) bF.pn (bF.lh F) F [] 1 bF.code (fun tm H=>aresults tabs.ty H tm Try.f71.results.toList fun v=>some (v,H)) (fun _ _ _=>none) (fun tm H=>aresults tabs.ty H tm Try.f71.results.toList fun v=>some (v,H)):=by
 exact loops_none (by kernel_rfl)
theorem bF.eqX (F:Nat) (aa:Int) (H:Hp):aCode tabs (mkOrc (bF.cs F)) bF.pn (bF.lh F) F [] 1 bF.code (argTm [(.int .i64 aa)]) H (fun tm H=>aresults tabs.ty H tm Try.f71.results.toList fun v=>some (v,H)) (fun _ _ _=>none) (fun tm H=>aresults tabs.ty H tm Try.f71.results.toList fun v=>some (v,H)) = bF.twX F aa H:=by kernel_rfl
theorem bF.cs_ok (F:Nat):∀ p ∈ bF.cs F,∀ args H v H',p.2 args H = some (v,H')→Go.AE.T Try.prog p.1 args H v H':=by
 intro p hp
 exact absurd (show p ∈ [] from hp) List.not_mem_nil
theorem bF.ok:codeOk bF.pn Try.f71.ntmps bF.tb bF.code = true:=by kernel_rfl
theorem bF.T {F:Nat} {aa:Int} {H:Hp} {v:AV} {H':Hp} (h:bF.tw F aa H = some (v,H')):Go.AE.T Try.prog 71 [(.int .i64 aa)] H v H':=
 Go.AE.T.of (Y:=tabs) (C:=mkOrc (bF.cs F)) (PN:=bF.pn) (LH:=bF.lh F) (F:=F) (TB:=bF.tb) (fn:=Try.f71) (code:=bF.code) mixed tabs_ok (mkOrc_ok (bF.cs_ok F)) Try.func71 (by kernel_rfl) (by kernel_rfl) bF.ok (Nat.le_of_ble_eq_true (by kernel_rfl)) (bF.loops F) (Eq.trans (bF.eqX F aa H) h)
theorem bF.mk_T {F:Nat} {args:List AV} {H:Hp} {v:AV} {H':Hp} (h:bF.mk (bF.tw F) args H = some (v,H')):Go.AE.T Try.prog 71 args H v H':=by
 unfold bF.mk at h
 split at h
 ·exact bF.T h
 ·cases h
noncomputable def ap.j3 (F:Nat) (aD:Sl→Int→Sl→Sl→Hp→OA) (C29_:Sl→Sl→Int→Int→Hp→OA) (Eu:Sl) (Ev:Sl) (kK:Int) (kL:Int) (H168:Hp):OA:=C29_ Eu Ev kK (IntKind.i64.wrap (kL + 1)) H168
noncomputable def ap.j4 (F:Nat) (aD:Sl→Int→Sl→Sl→Hp→OA) (C29_:Sl→Sl→Int→Int→Hp→OA) (Ew:Sl) (Ex:Sl) (kM:Int) (kN:Int) (H147:Hp):OA:=ap.j3 F aD C29_ Ew Ex kM kN H147
noncomputable def ap.l1883 (F:Nat) (aD:Sl→Int→Sl→Sl→Hp→OA) (C29_:Sl→Sl→Int→Int→Hp→OA):Nat→Sl→Sl→Int→Int→Int→Sl→Int→Int→Hp→OA
 | 0,_,_,_,_,_,_,_,_,_=>none
 | Ey + 1,eR,fB,dN,dZ,de,gB,eF,ei,H122=>(bif (decide (ei < eF)) then ((Sl.idx gB ei 1).bind fun p169=>(Hp.ldI H122 .i64 p169.1 p169.2).bind fun n170=>(Sl.idx eR n170 1).bind fun p171=>(Hp.st H122 p171.1 p171.2 (.int .i64 de)).bind fun H172=>ap.l1883 F aD C29_ Ey eR fB dN dZ de gB eF (IntKind.i64.wrap (ei + 1)) H172) else (ap.j4 F aD C29_ eR fB dN dZ H122))
termination_by structural n=>n
noncomputable def ap.l29 (F:Nat) (aD:Sl→Int→Sl→Sl→Hp→OA) :Nat→Sl→Sl→Int→Int→Hp→OA
 | 0,_,_,_,_,_=>none
 | es + 1,bO,gC,eG,dO,H28=>(bif (decide (dO < eG)) then ((Sl.idx gC dO 1).bind fun p101=>(Hp.ldSl H28 p101.1 p101.2).bind fun s102=>ap.l1883 F aD (ap.l29 F aD es) F bO gC eG dO dO s102 (s102.n:Int) 0 H28) else (some ((.sl bO),H28)))
termination_by structural n=>n
noncomputable def ap.twX (F:Nat) (aD:Sl→Int→Sl→Sl→Hp→OA) (aa:Sl) (ab:Int) (ah:Sl) (aL:Sl) (H:Hp):OA:=(Hp.new H [(.sl aa),(.int .i64 ab)]).bind fun H5=>(Hp.new H5 [(.sl ah),(.sl aL)]).bind fun H6=>(Hp.ldSl H6 H.length 0).bind fun s7=>(Hp.mk H6 [.int .i64 0] 8 (IntKind.i64.wrap (4 * (s7.n:Int))) (IntKind.i64.wrap (4 * (s7.n:Int)))).bind fun m8=>(Hp.ldSl m8.2 H.length 0).bind fun s9=>(Hp.ldI m8.2 .i64 H.length (0 + 1)).bind fun n10=>(Hp.ldSl m8.2 H5.length 0).bind fun s11=>(Hp.ldSl m8.2 H5.length (0 + 1)).bind fun s12=>(aD s9 n10 s11 s12 m8.2).bind fun r13=>((r13.1).asSl).bind fun s14=>ap.l29 F aD F m8.1 s14 (s14.n:Int) 0 r13.2
noncomputable def ap.tw (F:Nat) (aa:Sl) (ab:Int) (ah:Sl) (aL:Sl) (H:Hp):OA:=ap.twX F (aj.tw F) aa ab ah aL H
noncomputable def ap.code:Go.Code:=(Try.f127.body).getD .skip
noncomputable def ap.lh29 (F:Nat) (aD:Sl→Int→Sl→Sl→Hp→OA) (ks:List Nat) (n:Nat) (tm:Tm) (H:Hp):OA:=match ks,tm 5,tm 17,tm 18,tm 19 with
 | [],(.sl bO),(.sl gC),(.int .i64 eG),(.int .i64 dO)=>ap.l29 F aD n bO gC eG dO H
 | _,_,_,_,_=>none
theorem ap.lh29_inv {F:Nat} {aD:Sl→Int→Sl→Sl→Hp→OA} {ks:List Nat} {n:Nat} {tm:Tm} {H:Hp} {r:AV×Hp} (h:ap.lh29 F aD ks n tm H = some r):∃ bO:Sl,∃ gC:Sl,∃ eG:Int,∃ dO:Int,ks = []∧tm 5 = (.sl bO)∧tm 17 = (.sl gC)∧tm 18 = (.int .i64 eG)∧tm 19 = (.int .i64 dO)∧ap.l29 F aD n bO gC eG dO H = some r:=by
 unfold ap.lh29 at h
 split at h
 ·exact ⟨_,_,_,_,rfl,by assumption,by assumption,by assumption,by assumption,h⟩
 ·cases h
noncomputable def ap.lh1883 (F:Nat) (aD:Sl→Int→Sl→Sl→Hp→OA) (ks:List Nat) (n:Nat) (tm:Tm) (H:Hp):OA:=match ks,tm 5,tm 6,tm 17,tm 18,tm 19,tm 24,tm 25,tm 26 with
 | [es],(.sl eR),(.int .i64 de),(.sl fB),(.int .i64 dN),(.int .i64 dZ),(.sl gB),(.int .i64 eF),(.int .i64 ei)=>ap.l1883 F aD (ap.l29 F aD es) n eR fB dN dZ de gB eF ei H
 | _,_,_,_,_,_,_,_,_=>none
theorem ap.lh1883_inv {F:Nat} {aD:Sl→Int→Sl→Sl→Hp→OA} {ks:List Nat} {n:Nat} {tm:Tm} {H:Hp} {r:AV×Hp} (h:ap.lh1883 F aD ks n tm H = some r):∃ es:Nat,∃ eR:Sl,∃ de:Int,∃ fB:Sl,∃ dN:Int,∃ dZ:Int,∃ gB:Sl,∃ eF:Int,∃ ei:Int,ks = [es]∧tm 5 = (.sl eR)∧tm 6 = (.int .i64 de)∧tm 17 = (.sl fB)∧tm 18 = (.int .i64 dN)∧tm 19 = (.int .i64 dZ)∧tm 24 = (.sl gB)∧tm 25 = (.int .i64 eF)∧tm 26 = (.int .i64 ei)∧ap.l1883 F aD (ap.l29 F aD es) n eR fB dN dZ de gB eF ei H = some r:=by
 unfold ap.lh1883 at h
 split at h
 ·exact ⟨_,_,_,_,_,_,_,_,_,rfl,by assumption,by assumption,by assumption,by assumption,by assumption,by assumption,by assumption,by assumption,h⟩
 ·cases h
noncomputable def ap.lh (F:Nat) (aD:Sl→Int→Sl→Sl→Hp→OA) (p:Nat) (ks:List Nat) (n:Nat) (tm:Tm) (H:Hp):OA:=bif p.beq 1883 then ap.lh1883 F aD ks n tm H else (bif p.beq 29 then ap.lh29 F aD ks n tm H else (none))
def ap.pn:Nat→List Nat:=fun i=>(([]:List (Nat×List Nat)).lookup i).getD []
def ap.tb:Nat→List (List Nat):=fun i=>(([]:List (Nat×List (List Nat))).lookup i).getD []
noncomputable def ap.mk (g:Sl→Int→Sl→Sl→Hp→OA) (args:List AV) (H:Hp):OA:=match args with
 | [(.agg [(.sl aa),(.int .i64 ab)]),(.agg [(.sl ah),(.sl aL)])]=>g aa ab ah aL H
 | _=>none
noncomputable def ap.cs (F:Nat) (aD:Sl→Int→Sl→Sl→Hp→OA):List (FuncId×(List AV→Hp→OA)):=[(103,aj.mk aD)]
theorem ap.loops (F:Nat) (aD:Sl→Int→Sl→Sl→Hp→OA):LoopsOk tabs (mkOrc (ap.cs F aD)) ap.pn (ap.lh F aD) F [] 1 ap.code (fun tm H=>aresults tabs.ty H tm Try.f127.results.toList fun v=>some (v,H)) (fun _ _ _=>none) (fun tm H=>aresults tabs.ty H tm Try.f127.results.toList fun v=>some (v,H)):=by
 refine LoopsOk.seq ?_ ?_
 ·exact loops_none (by kernel_rfl)
 ·refine LoopsOk.seq ?_ ?_
  ·exact loops_none (by kernel_rfl)
  ·refine LoopsOk.seq ?_ ?_
   ·refine LoopsOk.seq ?_ ?_
    ·exact loops_none (by kernel_rfl)
    ·refine LoopsOk.block ?_
     refine LoopsOk.loop (fun tm H=>?_) (fun k29 tm H r h0=>?_) (fun k29=>?_)
     ·refine none_of fun r h0=>?_
      obtain ⟨bO,gC,eG,dO,hks,e5,e17,e18,e19,h⟩:=ap.lh29_inv (show ap.lh29 F aD [] 0 tm H = some r from h0)
      cases h
     ·obtain ⟨bO,gC,eG,dO,hks,e5,e17,e18,e19,h⟩:=ap.lh29_inv (show ap.lh29 F aD [] (k29 + 1) tm H = some r from h0)
      have q0:(Tm.put tm 5 (.sl bO)) = tm:=by exact Tm.put_same e5
      have q1:(Tm.put (Tm.put tm 5 (.sl bO)) 17 (.sl gC)) = tm:=by rw [q0]; exact Tm.put_same e17
      have q2:(Tm.put (Tm.put (Tm.put tm 5 (.sl bO)) 17 (.sl gC)) 18 (.int .i64 eG)) = tm:=by rw [q1]; exact Tm.put_same e18
      have q3:(Tm.put (Tm.put (Tm.put (Tm.put tm 5 (.sl bO)) 17 (.sl gC)) 18 (.int .i64 eG)) 19 (.int .i64 dO)) = tm:=by rw [q2]; exact Tm.put_same e19
      rw [← q3]
      exact Eq.trans (by kernel_rfl) h
     ·refine LoopsOk.seq ?_ ?_
      ·exact loops_none (by kernel_rfl)
      ·refine LoopsOk.seq ?_ ?_
       ·exact loops_none (by kernel_rfl)
       ·refine LoopsOk.seq ?_ ?_
        ·refine LoopsOk.block ?_
         refine LoopsOk.seq ?_ ?_
         ·exact loops_none (by kernel_rfl)
         ·refine LoopsOk.seq ?_ ?_
          ·exact loops_none (by kernel_rfl)
          ·refine LoopsOk.block ?_
           refine LoopsOk.loop (fun tm H=>?_) (fun k1883 tm H r h0=>?_) (fun k1883=>?_)
           ·refine none_of fun r h0=>?_
            obtain ⟨es,eR,de,fB,dN,dZ,gB,eF,ei,hks,e5,e6,e17,e18,e19,e24,e25,e26,h⟩:=ap.lh1883_inv (show ap.lh1883 F aD [k29] 0 tm H = some r from h0)
            cases h
           ·obtain ⟨es,eR,de,fB,dN,dZ,gB,eF,ei,hks,e5,e6,e17,e18,e19,e24,e25,e26,h⟩:=ap.lh1883_inv (show ap.lh1883 F aD [k29] (k1883 + 1) tm H = some r from h0)
            obtain rfl:es = k29:=by simpa [eq_comm] using hks
            have q0:(Tm.put tm 5 (.sl eR)) = tm:=by exact Tm.put_same e5
            have q1:(Tm.put (Tm.put tm 5 (.sl eR)) 6 (.int .i64 de)) = tm:=by rw [q0]; exact Tm.put_same e6
            have q2:(Tm.put (Tm.put (Tm.put tm 5 (.sl eR)) 6 (.int .i64 de)) 17 (.sl fB)) = tm:=by rw [q1]; exact Tm.put_same e17
            have q3:(Tm.put (Tm.put (Tm.put (Tm.put tm 5 (.sl eR)) 6 (.int .i64 de)) 17 (.sl fB)) 18 (.int .i64 dN)) = tm:=by rw [q2]; exact Tm.put_same e18
            have q4:(Tm.put (Tm.put (Tm.put (Tm.put (Tm.put tm 5 (.sl eR)) 6 (.int .i64 de)) 17 (.sl fB)) 18 (.int .i64 dN)) 19 (.int .i64 dZ)) = tm:=by rw [q3]; exact Tm.put_same e19
            have q5:(Tm.put (Tm.put (Tm.put (Tm.put (Tm.put (Tm.put tm 5 (.sl eR)) 6 (.int .i64 de)) 17 (.sl fB)) 18 (.int .i64 dN)) 19 (.int .i64 dZ)) 24 (.sl gB)) = tm:=by rw [q4]; exact Tm.put_same e24
            have q6:(Tm.put (Tm.put (Tm.put (Tm.put (Tm.put (Tm.put (Tm.put tm 5 (.sl eR)) 6 (.int .i64 de)) 17 (.sl fB)) 18 (.int .i64 dN)) 19 (.int .i64 dZ)) 24 (.sl gB)) 25 (.int .i64 eF)) = tm:=by rw [q5]; exact Tm.put_same e25
            have q7:(Tm.put (Tm.put (Tm.put (Tm.put (Tm.put (Tm.put (Tm.put (Tm.put tm 5 (.sl eR)) 6 (.int .i64 de)) 17 (.sl fB)) 18 (.int .i64 dN)) 19 (.int .i64 dZ)) 24 (.sl gB)) 25 (.int .i64 eF)) 26 (.int .i64 ei)) = tm:=by rw [q6]; exact Tm.put_same e26
            rw [← q7]
            exact Eq.trans (by kernel_rfl) h
           ·exact loops_none (by kernel_rfl)
        ·exact loops_none (by kernel_rfl)
   ·exact loops_none (by kernel_rfl)
theorem ap.eqX (F:Nat) (aD:Sl→Int→Sl→Sl→Hp→OA) (aa:Sl) (ab:Int) (ah:Sl) (aL:Sl) (H:Hp):aCode tabs (mkOrc (ap.cs F aD)) ap.pn (ap.lh F aD) F [] 1 ap.code (argTm [(.agg [(.sl aa),(.int .i64 ab)]),(.agg [(.sl ah),(.sl aL)])]) H (fun tm H=>aresults tabs.ty H tm Try.f127.results.toList fun v=>some (v,H)) (fun _ _ _=>none) (fun tm H=>aresults tabs.ty H tm Try.f127.results.toList fun v=>some (v,H)) = ap.twX F aD aa ab ah aL H:=by kernel_rfl
theorem ap.cs_ok (F:Nat):∀ p ∈ ap.cs F (aj.tw F),∀ args H v H',p.2 args H = some (v,H')→Go.AE.T Try.prog p.1 args H v H':=by
 intro p hp
 simp only [ap.cs,List.mem_cons,List.not_mem_nil,or_false] at hp
 subst hp
 exact fun args H v H' h=>aj.mk_T h
theorem ap.ok:codeOk ap.pn Try.f127.ntmps ap.tb ap.code = true:=by kernel_rfl
theorem ap.T {F:Nat} {aa:Sl} {ab:Int} {ah:Sl} {aL:Sl} {H:Hp} {v:AV} {H':Hp} (h:ap.tw F aa ab ah aL H = some (v,H')):Go.AE.T Try.prog 127 [(.agg [(.sl aa),(.int .i64 ab)]),(.agg [(.sl ah),(.sl aL)])] H v H':=
 Go.AE.T.of (Y:=tabs) (C:=mkOrc (ap.cs F (aj.tw F))) (PN:=ap.pn) (LH:=ap.lh F (aj.tw F)) (F:=F) (TB:=ap.tb) (fn:=Try.f127) (code:=ap.code) mixed tabs_ok (mkOrc_ok (ap.cs_ok F)) Try.func127 (by kernel_rfl) (by kernel_rfl) ap.ok (Nat.le_of_ble_eq_true (by kernel_rfl)) (ap.loops F (aj.tw F)) (Eq.trans (ap.eqX F (aj.tw F) aa ab ah aL H) h)
theorem ap.mk_T {F:Nat} {args:List AV} {H:Hp} {v:AV} {H':Hp} (h:ap.mk (ap.tw F) args H = some (v,H')):Go.AE.T Try.prog 127 args H v H':=by
 unfold ap.mk at h
 split at h
 ·exact ap.T h
 ·cases h
noncomputable def aH.l254 (F:Nat) (g_bits_Mul:Int→Int→Hp→OA) :Nat→Sl→Int→Hp→OA
 | 0,_,_,_=>none
 | tT + 1,bQ,bX,H33=>(bif (decide (bX < (bQ.n:Int))) then ((Sl.cut bQ 1 bX (bQ.n:Int)).bind fun s37=>(Sl.cut bQ 1 0 bX).bind fun s38=>(Hp.cpy H33 1 s37 s38).bind fun c39=>aH.l254 F g_bits_Mul tT bQ (IntKind.i64.wrap (bX + (c39.1:Int))) c39.2) else (some ((.sl bQ),H33)))
termination_by structural n=>n
noncomputable def aH.j1 (F:Nat) (g_bits_Mul:Int→Int→Hp→OA) (tU:Sl) (fy:Int) (H21:Hp):OA:=(Hp.mk H21 [.int .i64 0] 8 (IntKind.i64.wrap fy) (IntKind.i64.wrap fy)).bind fun m22=>(Hp.cpy m22.2 1 m22.1 tU).bind fun c23=>aH.l254 F g_bits_Mul F m22.1 (c23.1:Int) c23.2
noncomputable def aH.j2 (F:Nat) (g_bits_Mul:Int→Int→Hp→OA) (lp:Sl) (fX:Int) (H7:Hp):OA:=(g_bits_Mul (IntKind.u64.wrap (lp.n:Int)) (IntKind.u64.wrap fX) H7).bind fun r8=>((r8.1).asTup 2).bind fun l9=>(l9[0]?).bind fun v10=>((v10).asI .u64).bind fun n11=>(l9[1]?).bind fun v12=>((v12).asI .u64).bind fun n13=>(bif (decide (n11 > 0)) then (none) else ((bif (decide (n13 > 9223372036854775807)) then (none) else (aH.j1 F g_bits_Mul lp n13 r8.2))))
noncomputable def aH.twX (F:Nat) (g_bits_Mul:Int→Int→Hp→OA) (aa:Sl) (ag:Int) (H:Hp):OA:=(bif (decide (ag < 0)) then (none) else (aH.j2 F g_bits_Mul aa ag H))
noncomputable def aH.tw (F:Nat) (aa:Sl) (ag:Int) (H:Hp):OA:=aH.twX F (bits_Mul.tw F) aa ag H
noncomputable def aH.code:Go.Code:=(Try.f129.body).getD .skip
noncomputable def aH.lh254 (F:Nat) (g_bits_Mul:Int→Int→Hp→OA) (ks:List Nat) (n:Nat) (tm:Tm) (H:Hp):OA:=match ks,tm 7,tm 8 with
 | [],(.sl bQ),(.int .i64 bX)=>aH.l254 F g_bits_Mul n bQ bX H
 | _,_,_=>none
theorem aH.lh254_inv {F:Nat} {g_bits_Mul:Int→Int→Hp→OA} {ks:List Nat} {n:Nat} {tm:Tm} {H:Hp} {r:AV×Hp} (h:aH.lh254 F g_bits_Mul ks n tm H = some r):∃ bQ:Sl,∃ bX:Int,ks = []∧tm 7 = (.sl bQ)∧tm 8 = (.int .i64 bX)∧aH.l254 F g_bits_Mul n bQ bX H = some r:=by
 unfold aH.lh254 at h
 split at h
 ·exact ⟨_,_,rfl,by assumption,by assumption,h⟩
 ·cases h
noncomputable def aH.lh (F:Nat) (g_bits_Mul:Int→Int→Hp→OA) (p:Nat) (ks:List Nat) (n:Nat) (tm:Tm) (H:Hp):OA:=bif p.beq 254 then aH.lh254 F g_bits_Mul ks n tm H else (none)
def aH.pn:Nat→List Nat:=fun i=>(([(9,[7])]:List (Nat×List Nat)).lookup i).getD []
def aH.tb:Nat→List (List Nat):=fun i=>(([(9,[[],[],[],[1,2],[],[],[4,5],[1,2,3,4,5,6],[0,1,2,3,4,5,6,7],[0,1,2,3,4,5,6,7,8]])]:List (Nat×List (List Nat))).lookup i).getD []
noncomputable def aH.mk (g:Sl→Int→Hp→OA) (args:List AV) (H:Hp):OA:=match args with
 | [(.sl aa),(.int .i64 ag)]=>g aa ag H
 | _=>none
noncomputable def aH.cs (F:Nat) (g_bits_Mul:Int→Int→Hp→OA):List (FuncId×(List AV→Hp→OA)):=[(158,bits_Mul.mk g_bits_Mul)]
theorem aH.loops (F:Nat) (g_bits_Mul:Int→Int→Hp→OA):LoopsOk tabs (mkOrc (aH.cs F g_bits_Mul)) aH.pn (aH.lh F g_bits_Mul) F [] 1 aH.code (fun tm H=>aresults tabs.ty H tm Try.f129.results.toList fun v=>some (v,H)) (fun _ _ _=>none) (fun tm H=>aresults tabs.ty H tm Try.f129.results.toList fun v=>some (v,H)):=by
 refine LoopsOk.seq ?_ ?_
 ·exact loops_none (by kernel_rfl)
 ·refine LoopsOk.seq ?_ ?_
  ·exact loops_none (by kernel_rfl)
  ·refine LoopsOk.seq ?_ ?_
   ·exact loops_none (by kernel_rfl)
   ·refine LoopsOk.seq ?_ ?_
    ·exact loops_none (by kernel_rfl)
    ·refine LoopsOk.seq ?_ ?_
     ·exact loops_none (by kernel_rfl)
     ·refine LoopsOk.seq ?_ ?_
      ·exact loops_none (by kernel_rfl)
      ·refine LoopsOk.seq ?_ ?_
       ·refine LoopsOk.block ?_
        refine LoopsOk.loop (fun tm H=>?_) (fun k254 tm H r h0=>?_) (fun k254=>?_)
        ·refine none_of fun r h0=>?_
         obtain ⟨bQ,bX,hks,e7,e8,h⟩:=aH.lh254_inv (show aH.lh254 F g_bits_Mul [] 0 tm H = some r from h0)
         cases h
        ·obtain ⟨bQ,bX,hks,e7,e8,h⟩:=aH.lh254_inv (show aH.lh254 F g_bits_Mul [] (k254 + 1) tm H = some r from h0)
         have q0:(Tm.put tm 7 (.sl bQ)) = tm:=by exact Tm.put_same e7
         have q1:(Tm.put (Tm.put tm 7 (.sl bQ)) 8 (.int .i64 bX)) = tm:=by rw [q0]; exact Tm.put_same e8
         rw [← q1]
         exact Eq.trans (by kernel_rfl) h
        ·exact loops_none (by kernel_rfl)
       ·exact loops_none (by kernel_rfl)
theorem aH.eqX (F:Nat) (g_bits_Mul:Int→Int→Hp→OA) (aa:Sl) (ag:Int) (H:Hp):aCode tabs (mkOrc (aH.cs F g_bits_Mul)) aH.pn (aH.lh F g_bits_Mul) F [] 1 aH.code (argTm [(.sl aa),(.int .i64 ag)]) H (fun tm H=>aresults tabs.ty H tm Try.f129.results.toList fun v=>some (v,H)) (fun _ _ _=>none) (fun tm H=>aresults tabs.ty H tm Try.f129.results.toList fun v=>some (v,H)) = aH.twX F g_bits_Mul aa ag H:=by kernel_rfl
theorem aH.cs_ok (F:Nat):∀ p ∈ aH.cs F (bits_Mul.tw F),∀ args H v H',p.2 args H = some (v,H')→Go.AE.T Try.prog p.1 args H v H':=by
 intro p hp
 simp only [aH.cs,List.mem_cons,List.not_mem_nil,or_false] at hp
 subst hp
 exact fun args H v H' h=>bits_Mul.mk_T h
theorem aH.ok:codeOk aH.pn Try.f129.ntmps aH.tb aH.code = true:=by kernel_rfl
theorem aH.T {F:Nat} {aa:Sl} {ag:Int} {H:Hp} {v:AV} {H':Hp} (h:aH.tw F aa ag H = some (v,H')):Go.AE.T Try.prog 129 [(.sl aa),(.int .i64 ag)] H v H':=
 Go.AE.T.of (Y:=tabs) (C:=mkOrc (aH.cs F (bits_Mul.tw F))) (PN:=aH.pn) (LH:=aH.lh F (bits_Mul.tw F)) (F:=F) (TB:=aH.tb) (fn:=Try.f129) (code:=aH.code) mixed tabs_ok (mkOrc_ok (aH.cs_ok F)) Try.func129 (by kernel_rfl) (by kernel_rfl) aH.ok (Nat.le_of_ble_eq_true (by kernel_rfl)) (aH.loops F (bits_Mul.tw F)) (Eq.trans (aH.eqX F (bits_Mul.tw F) aa ag H) h)
theorem aH.mk_T {F:Nat} {args:List AV} {H:Hp} {v:AV} {H':Hp} (h:aH.mk (aH.tw F) args H = some (v,H')):Go.AE.T Try.prog 129 args H v H':=by
 unfold aH.mk at h
 split at h
 ·exact aH.T h
 ·cases h
noncomputable def af.j7 (F:Nat) (aZ:Sl→Int→Sl→Sl→Hp→OA) (bh:Sl→Int→Sl→Sl→Hp→OA) (aD:Sl→Int→Sl→Sl→Hp→OA) (bK:Sl→Int→Hp→OA) (bi:Sl→Hp→OA) (C509_:Sl→Sl→Int→Int→Hp→OA) (Ez:Sl) (EA:Sl) (kO:Int) (kP:Int) (H363:Hp):OA:=C509_ Ez EA kO (IntKind.i64.wrap (kP + 1)) H363
noncomputable def af.j8 (F:Nat) (aZ:Sl→Int→Sl→Sl→Hp→OA) (bh:Sl→Int→Sl→Sl→Hp→OA) (aD:Sl→Int→Sl→Sl→Hp→OA) (bK:Sl→Int→Hp→OA) (bi:Sl→Hp→OA) (C509_:Sl→Sl→Int→Int→Hp→OA) (EB:Sl) (EC:Sl) (kQ:Int) (kR:Int) (H339:Hp):OA:=af.j7 F aZ bh aD bK bi C509_ EB EC kQ kR H339
noncomputable def af.j9 (F:Nat) (aZ:Sl→Int→Sl→Sl→Hp→OA) (bh:Sl→Int→Sl→Sl→Hp→OA) (aD:Sl→Int→Sl→Sl→Hp→OA) (bK:Sl→Int→Hp→OA) (bi:Sl→Hp→OA) (C16301_:Sl→Sl→Int→Int→Int→Int→Hp→OA) (ED:Sl) (EE:Sl) (kS:Int) (kT:Int) (kU:Int) (kV:Int) (H398:Hp):OA:=C16301_ ED EE kS kT kU (IntKind.i64.wrap (kV + 1)) H398
noncomputable def af.l16301 (F:Nat) (aZ:Sl→Int→Sl→Sl→Hp→OA) (bh:Sl→Int→Sl→Sl→Hp→OA) (aD:Sl→Int→Sl→Sl→Hp→OA) (bK:Sl→Int→Hp→OA) (bi:Sl→Hp→OA) (C509_:Sl→Sl→Int→Int→Hp→OA):Nat→Sl→Sl→Int→Int→Int→Int→Hp→OA
 | 0,_,_,_,_,_,_,_=>none
 | wD + 1,eS,fa,dp,dP,d_,cG,H280=>(bif (decide (cG < d_)) then ((Sl.idx eS cG 1).bind fun p364=>(Hp.ldI H280 .i64 p364.1 p364.2).bind fun n365=>(Sl.idx fa n365 1).bind fun p366=>(Hp.ldI H280 .i64 p366.1 p366.2).bind fun n367=>(bif (decide (n367 ≥ 0)) then ((Sl.idx eS (IntKind.i64.wrap ((IntKind.i64.wrap (cG - (Int.tmod cG 4))) + (Int.tmod (IntKind.i64.wrap (cG + 1)) 4))) 1).bind fun p368=>(Hp.ldI H280 .i64 p368.1 p368.2).bind fun n369=>(Sl.idx fa n369 1).bind fun p370=>(Hp.st H280 p370.1 p370.2 (.int .i64 (IntKind.i64.wrap (1 - n367)))).bind fun H371=>af.j9 F aZ bh aD bK bi (af.l16301 F aZ bh aD bK bi C509_ wD) eS fa dp dP d_ cG H371) else (af.j9 F aZ bh aD bK bi (af.l16301 F aZ bh aD bK bi C509_ wD) eS fa dp dP d_ cG H280))) else (af.j8 F aZ bh aD bK bi C509_ eS fa dp dP H280))
termination_by structural n=>n
noncomputable def af.l509 (F:Nat) (aZ:Sl→Int→Sl→Sl→Hp→OA) (bh:Sl→Int→Sl→Sl→Hp→OA) (aD:Sl→Int→Sl→Sl→Hp→OA) (bK:Sl→Int→Hp→OA) (bi:Sl→Hp→OA) :Nat→Sl→Sl→Int→Int→Hp→OA
 | 0,_,_,_,_,_=>none
 | et + 1,gb,gD,eH,eT,H116=>(bif (decide (eT < eH)) then (af.l16301 F aZ bh aD bK bi (af.l509 F aZ bh aD bK bi et) F gb gD eH eT (gb.n:Int) 0 H116) else (some ((.sl gD),H116)))
termination_by structural n=>n
noncomputable def af.j10 (F:Nat) (aZ:Sl→Int→Sl→Sl→Hp→OA) (bh:Sl→Int→Sl→Sl→Hp→OA) (aD:Sl→Int→Sl→Sl→Hp→OA) (bK:Sl→Int→Hp→OA) (bi:Sl→Hp→OA) (EF:Sl) (wE:Sl) (H96:Hp):OA:=af.l509 F aZ bh aD bK bi F EF wE (wE.n:Int) 0 H96
noncomputable def af.j11 (F:Nat) (aZ:Sl→Int→Sl→Sl→Hp→OA) (bh:Sl→Int→Sl→Sl→Hp→OA) (aD:Sl→Int→Sl→Sl→Hp→OA) (bK:Sl→Int→Hp→OA) (bi:Sl→Hp→OA) (C253_:Sl→Sl→Sl→Sl→Int→Int→Hp→OA) (EG:Sl) (EH:Sl) (EI:Sl) (EJ:Sl) (kW:Int) (kX:Int) (H429:Hp):OA:=C253_ EG EH EI EJ kW (IntKind.i64.wrap (kX + 1)) H429
noncomputable def af.l253 (F:Nat) (aZ:Sl→Int→Sl→Sl→Hp→OA) (bh:Sl→Int→Sl→Sl→Hp→OA) (aD:Sl→Int→Sl→Sl→Hp→OA) (bK:Sl→Int→Hp→OA) (bi:Sl→Hp→OA) :Nat→Sl→Sl→Sl→Sl→Int→Int→Hp→OA
 | 0,_,_,_,_,_,_,_=>none
 | ln + 1,fb,fp,fC,gc,ea,df,H47=>(bif (decide (df < ea)) then ((Sl.idx gc df 1).bind fun p399=>(Hp.ldI H47 .i64 p399.1 p399.2).bind fun n400=>(Sl.idx fC n400 1).bind fun p401=>(Hp.ldB H47 p401.1 p401.2).bind fun b402=>(bif (!b402) then ((Sl.idx fC n400 1).bind fun p403=>(Hp.st H47 p403.1 p403.2 (.bool true)).bind fun H404=>(Sl.idx fb (IntKind.i64.wrap (4 * df)) 1).bind fun p405=>(Hp.ldI H404 .i64 p405.1 p405.2).bind fun n406=>(Sl.idx fp n406 1).bind fun p407=>(Hp.st H404 p407.1 p407.2 (.int .i64 0)).bind fun H408=>af.j11 F aZ bh aD bK bi (af.l253 F aZ bh aD bK bi ln) fb fp fC gc ea df H408) else (af.j11 F aZ bh aD bK bi (af.l253 F aZ bh aD bK bi ln) fb fp fC gc ea df H47))) else (af.j10 F aZ bh aD bK bi fb fp H47))
termination_by structural n=>n
noncomputable def af.twX (F:Nat) (aZ:Sl→Int→Sl→Sl→Hp→OA) (bh:Sl→Int→Sl→Sl→Hp→OA) (aD:Sl→Int→Sl→Sl→Hp→OA) (bK:Sl→Int→Hp→OA) (bi:Sl→Hp→OA) (aa:Sl) (ab:Int) (ah:Sl) (aL:Sl) (H:Hp):OA:=(Hp.new H [(.sl aa),(.int .i64 ab)]).bind fun H5=>(Hp.new H5 [(.sl ah),(.sl aL)]).bind fun H6=>(Hp.ldSl H6 H.length 0).bind fun s7=>(Hp.ldI H6 .i64 H.length (0 + 1)).bind fun n8=>(Hp.ldSl H6 H5.length 0).bind fun s9=>(Hp.ldSl H6 H5.length (0 + 1)).bind fun s10=>(aZ s7 n8 s9 s10 H6).bind fun r11=>((r11.1).asSl).bind fun s12=>(Hp.ldSl r11.2 H.length 0).bind fun s13=>(Hp.ldI r11.2 .i64 H.length (0 + 1)).bind fun n14=>(Hp.ldSl r11.2 H5.length 0).bind fun s15=>(Hp.ldSl r11.2 H5.length (0 + 1)).bind fun s16=>(bh s13 n14 s15 s16 r11.2).bind fun r17=>((r17.1).asSl).bind fun s18=>(Hp.new r17.2 [(.int .i64 (-1))]).bind fun H19=>(Hp.ldSl H19 H.length 0).bind fun s20=>(Hp.ldI H19 .i64 H.length (0 + 1)).bind fun n21=>(Hp.ldSl H19 H5.length 0).bind fun s22=>(Hp.ldSl H19 H5.length (0 + 1)).bind fun s23=>(aD s20 n21 s22 s23 H19).bind fun r24=>((r24.1).asSl).bind fun s25=>(bK (⟨some (r17.2.length,0),1,.ex 1⟩:Sl) (s25.n:Int) r24.2).bind fun r26=>((r26.1).asSl).bind fun s27=>(bi s18 r26.2).bind fun r28=>((r28.1).asI .i64).bind fun n29=>(Hp.mk r28.2 [.bool false] 1 n29 n29).bind fun m30=>af.l253 F aZ bh aD bK bi F s12 s27 m30.1 s18 (s18.n:Int) 0 m30.2
noncomputable def af.tw (F:Nat) (aa:Sl) (ab:Int) (ah:Sl) (aL:Sl) (H:Hp):OA:=af.twX F (ap.tw F) (aE.tw F) (aj.tw F) (aH.tw F) (ba.tw F) aa ab ah aL H
noncomputable def af.code:Go.Code:=(Try.f73.body).getD .skip
noncomputable def af.lh253 (F:Nat) (aZ:Sl→Int→Sl→Sl→Hp→OA) (bh:Sl→Int→Sl→Sl→Hp→OA) (aD:Sl→Int→Sl→Sl→Hp→OA) (bK:Sl→Int→Hp→OA) (bi:Sl→Hp→OA) (ks:List Nat) (n:Nat) (tm:Tm) (H:Hp):OA:=match ks,tm 5,tm 7,tm 8,tm 28,tm 29,tm 30 with
 | [],(.sl fb),(.sl fp),(.sl fC),(.sl gc),(.int .i64 ea),(.int .i64 df)=>af.l253 F aZ bh aD bK bi n fb fp fC gc ea df H
 | _,_,_,_,_,_,_=>none
theorem af.lh253_inv {F:Nat} {aZ:Sl→Int→Sl→Sl→Hp→OA} {bh:Sl→Int→Sl→Sl→Hp→OA} {aD:Sl→Int→Sl→Sl→Hp→OA} {bK:Sl→Int→Hp→OA} {bi:Sl→Hp→OA} {ks:List Nat} {n:Nat} {tm:Tm} {H:Hp} {r:AV×Hp} (h:af.lh253 F aZ bh aD bK bi ks n tm H = some r):∃ fb:Sl,∃ fp:Sl,∃ fC:Sl,∃ gc:Sl,∃ ea:Int,∃ df:Int,ks = []∧tm 5 = (.sl fb)∧tm 7 = (.sl fp)∧tm 8 = (.sl fC)∧tm 28 = (.sl gc)∧tm 29 = (.int .i64 ea)∧tm 30 = (.int .i64 df)∧af.l253 F aZ bh aD bK bi n fb fp fC gc ea df H = some r:=by
 unfold af.lh253 at h
 split at h
 ·exact ⟨_,_,_,_,_,_,rfl,by assumption,by assumption,by assumption,by assumption,by assumption,by assumption,h⟩
 ·cases h
noncomputable def af.lh509 (F:Nat) (aZ:Sl→Int→Sl→Sl→Hp→OA) (bh:Sl→Int→Sl→Sl→Hp→OA) (aD:Sl→Int→Sl→Sl→Hp→OA) (bK:Sl→Int→Hp→OA) (bi:Sl→Hp→OA) (ks:List Nat) (n:Nat) (tm:Tm) (H:Hp):OA:=match ks,tm 5,tm 7,tm 52,tm 53 with
 | [],(.sl gb),(.sl gD),(.int .i64 eH),(.int .i64 eT)=>af.l509 F aZ bh aD bK bi n gb gD eH eT H
 | _,_,_,_,_=>none
theorem af.lh509_inv {F:Nat} {aZ:Sl→Int→Sl→Sl→Hp→OA} {bh:Sl→Int→Sl→Sl→Hp→OA} {aD:Sl→Int→Sl→Sl→Hp→OA} {bK:Sl→Int→Hp→OA} {bi:Sl→Hp→OA} {ks:List Nat} {n:Nat} {tm:Tm} {H:Hp} {r:AV×Hp} (h:af.lh509 F aZ bh aD bK bi ks n tm H = some r):∃ gb:Sl,∃ gD:Sl,∃ eH:Int,∃ eT:Int,ks = []∧tm 5 = (.sl gb)∧tm 7 = (.sl gD)∧tm 52 = (.int .i64 eH)∧tm 53 = (.int .i64 eT)∧af.l509 F aZ bh aD bK bi n gb gD eH eT H = some r:=by
 unfold af.lh509 at h
 split at h
 ·exact ⟨_,_,_,_,rfl,by assumption,by assumption,by assumption,by assumption,h⟩
 ·cases h
noncomputable def af.lh16301 (F:Nat) (aZ:Sl→Int→Sl→Sl→Hp→OA) (bh:Sl→Int→Sl→Sl→Hp→OA) (aD:Sl→Int→Sl→Sl→Hp→OA) (bK:Sl→Int→Hp→OA) (bi:Sl→Hp→OA) (ks:List Nat) (n:Nat) (tm:Tm) (H:Hp):OA:=match ks,tm 5,tm 7,tm 52,tm 53,tm 56,tm 57 with
 | [et],(.sl eS),(.sl fa),(.int .i64 dp),(.int .i64 dP),(.int .i64 d_),(.int .i64 cG)=>af.l16301 F aZ bh aD bK bi (af.l509 F aZ bh aD bK bi et) n eS fa dp dP d_ cG H
 | _,_,_,_,_,_,_=>none
theorem af.lh16301_inv {F:Nat} {aZ:Sl→Int→Sl→Sl→Hp→OA} {bh:Sl→Int→Sl→Sl→Hp→OA} {aD:Sl→Int→Sl→Sl→Hp→OA} {bK:Sl→Int→Hp→OA} {bi:Sl→Hp→OA} {ks:List Nat} {n:Nat} {tm:Tm} {H:Hp} {r:AV×Hp} (h:af.lh16301 F aZ bh aD bK bi ks n tm H = some r):∃ et:Nat,∃ eS:Sl,∃ fa:Sl,∃ dp:Int,∃ dP:Int,∃ d_:Int,∃ cG:Int,ks = [et]∧tm 5 = (.sl eS)∧tm 7 = (.sl fa)∧tm 52 = (.int .i64 dp)∧tm 53 = (.int .i64 dP)∧tm 56 = (.int .i64 d_)∧tm 57 = (.int .i64 cG)∧af.l16301 F aZ bh aD bK bi (af.l509 F aZ bh aD bK bi et) n eS fa dp dP d_ cG H = some r:=by
 unfold af.lh16301 at h
 split at h
 ·exact ⟨_,_,_,_,_,_,_,rfl,by assumption,by assumption,by assumption,by assumption,by assumption,by assumption,h⟩
 ·cases h
noncomputable def af.lh (F:Nat) (aZ:Sl→Int→Sl→Sl→Hp→OA) (bh:Sl→Int→Sl→Sl→Hp→OA) (aD:Sl→Int→Sl→Sl→Hp→OA) (bK:Sl→Int→Hp→OA) (bi:Sl→Hp→OA) (p:Nat) (ks:List Nat) (n:Nat) (tm:Tm) (H:Hp):OA:=bif p.beq 16301 then af.lh16301 F aZ bh aD bK bi ks n tm H else (bif p.beq 509 then af.lh509 F aZ bh aD bK bi ks n tm H else (bif p.beq 253 then af.lh253 F aZ bh aD bK bi ks n tm H else (none)))
def af.pn:Nat→List Nat:=fun i=>(([]:List (Nat×List Nat)).lookup i).getD []
def af.tb:Nat→List (List Nat):=fun i=>(([]:List (Nat×List (List Nat))).lookup i).getD []
noncomputable def af.mk (g:Sl→Int→Sl→Sl→Hp→OA) (args:List AV) (H:Hp):OA:=match args with
 | [(.agg [(.sl aa),(.int .i64 ab)]),(.agg [(.sl ah),(.sl aL)])]=>g aa ab ah aL H
 | _=>none
noncomputable def af.cs (F:Nat) (aZ:Sl→Int→Sl→Sl→Hp→OA) (bh:Sl→Int→Sl→Sl→Hp→OA) (aD:Sl→Int→Sl→Sl→Hp→OA) (bK:Sl→Int→Hp→OA) (bi:Sl→Hp→OA):List (FuncId×(List AV→Hp→OA)):=[(127,ap.mk aZ),(126,aE.mk bh),(103,aj.mk aD),(129,aH.mk bK),(120,ba.mk bi)]
theorem af.loops (F:Nat) (aZ:Sl→Int→Sl→Sl→Hp→OA) (bh:Sl→Int→Sl→Sl→Hp→OA) (aD:Sl→Int→Sl→Sl→Hp→OA) (bK:Sl→Int→Hp→OA) (bi:Sl→Hp→OA):LoopsOk tabs (mkOrc (af.cs F aZ bh aD bK bi)) af.pn (af.lh F aZ bh aD bK bi) F [] 1 af.code (fun tm H=>aresults tabs.ty H tm Try.f73.results.toList fun v=>some (v,H)) (fun _ _ _=>none) (fun tm H=>aresults tabs.ty H tm Try.f73.results.toList fun v=>some (v,H)):=by
 refine LoopsOk.seq ?_ ?_
 ·exact loops_none (by kernel_rfl)
 ·refine LoopsOk.seq ?_ ?_
  ·exact loops_none (by kernel_rfl)
  ·refine LoopsOk.seq ?_ ?_
   ·exact loops_none (by kernel_rfl)
   ·refine LoopsOk.seq ?_ ?_
    ·exact loops_none (by kernel_rfl)
    ·refine LoopsOk.seq ?_ ?_
     ·exact loops_none (by kernel_rfl)
     ·refine LoopsOk.seq ?_ ?_
      ·refine LoopsOk.seq ?_ ?_
       ·exact loops_none (by kernel_rfl)
       ·refine LoopsOk.block ?_
        refine LoopsOk.loop (fun tm H=>?_) (fun k253 tm H r h0=>?_) (fun k253=>?_)
        ·refine none_of fun r h0=>?_
         obtain ⟨fb,fp,fC,gc,ea,df,hks,e5,e7,e8,e28,e29,e30,h⟩:=af.lh253_inv (show af.lh253 F aZ bh aD bK bi [] 0 tm H = some r from h0)
         cases h
        ·obtain ⟨fb,fp,fC,gc,ea,df,hks,e5,e7,e8,e28,e29,e30,h⟩:=af.lh253_inv (show af.lh253 F aZ bh aD bK bi [] (k253 + 1) tm H = some r from h0)
         have q0:(Tm.put tm 5 (.sl fb)) = tm:=by exact Tm.put_same e5
         have q1:(Tm.put (Tm.put tm 5 (.sl fb)) 7 (.sl fp)) = tm:=by rw [q0]; exact Tm.put_same e7
         have q2:(Tm.put (Tm.put (Tm.put tm 5 (.sl fb)) 7 (.sl fp)) 8 (.sl fC)) = tm:=by rw [q1]; exact Tm.put_same e8
         have q3:(Tm.put (Tm.put (Tm.put (Tm.put tm 5 (.sl fb)) 7 (.sl fp)) 8 (.sl fC)) 28 (.sl gc)) = tm:=by rw [q2]; exact Tm.put_same e28
         have q4:(Tm.put (Tm.put (Tm.put (Tm.put (Tm.put tm 5 (.sl fb)) 7 (.sl fp)) 8 (.sl fC)) 28 (.sl gc)) 29 (.int .i64 ea)) = tm:=by rw [q3]; exact Tm.put_same e29
         have q5:(Tm.put (Tm.put (Tm.put (Tm.put (Tm.put (Tm.put tm 5 (.sl fb)) 7 (.sl fp)) 8 (.sl fC)) 28 (.sl gc)) 29 (.int .i64 ea)) 30 (.int .i64 df)) = tm:=by rw [q4]; exact Tm.put_same e30
         rw [← q5]
         exact Eq.trans (by kernel_rfl) h
        ·exact loops_none (by kernel_rfl)
      ·refine LoopsOk.seq ?_ ?_
       ·refine LoopsOk.seq ?_ ?_
        ·exact loops_none (by kernel_rfl)
        ·refine LoopsOk.block ?_
         refine LoopsOk.loop (fun tm H=>?_) (fun k509 tm H r h0=>?_) (fun k509=>?_)
         ·refine none_of fun r h0=>?_
          obtain ⟨gb,gD,eH,eT,hks,e5,e7,e52,e53,h⟩:=af.lh509_inv (show af.lh509 F aZ bh aD bK bi [] 0 tm H = some r from h0)
          cases h
         ·obtain ⟨gb,gD,eH,eT,hks,e5,e7,e52,e53,h⟩:=af.lh509_inv (show af.lh509 F aZ bh aD bK bi [] (k509 + 1) tm H = some r from h0)
          have q0:(Tm.put tm 5 (.sl gb)) = tm:=by exact Tm.put_same e5
          have q1:(Tm.put (Tm.put tm 5 (.sl gb)) 7 (.sl gD)) = tm:=by rw [q0]; exact Tm.put_same e7
          have q2:(Tm.put (Tm.put (Tm.put tm 5 (.sl gb)) 7 (.sl gD)) 52 (.int .i64 eH)) = tm:=by rw [q1]; exact Tm.put_same e52
          have q3:(Tm.put (Tm.put (Tm.put (Tm.put tm 5 (.sl gb)) 7 (.sl gD)) 52 (.int .i64 eH)) 53 (.int .i64 eT)) = tm:=by rw [q2]; exact Tm.put_same e53
          rw [← q3]
          exact Eq.trans (by kernel_rfl) h
         ·refine LoopsOk.seq ?_ ?_
          ·exact loops_none (by kernel_rfl)
          ·refine LoopsOk.seq ?_ ?_
           ·exact loops_none (by kernel_rfl)
           ·refine LoopsOk.seq ?_ ?_
            ·refine LoopsOk.block ?_
             refine LoopsOk.seq ?_ ?_
             ·exact loops_none (by kernel_rfl)
             ·refine LoopsOk.block ?_
              refine LoopsOk.loop (fun tm H=>?_) (fun k16301 tm H r h0=>?_) (fun k16301=>?_)
              ·refine none_of fun r h0=>?_
               obtain ⟨et,eS,fa,dp,dP,d_,cG,hks,e5,e7,e52,e53,e56,e57,h⟩:=af.lh16301_inv (show af.lh16301 F aZ bh aD bK bi [k509] 0 tm H = some r from h0)
               cases h
              ·obtain ⟨et,eS,fa,dp,dP,d_,cG,hks,e5,e7,e52,e53,e56,e57,h⟩:=af.lh16301_inv (show af.lh16301 F aZ bh aD bK bi [k509] (k16301 + 1) tm H = some r from h0)
               obtain rfl:et = k509:=by simpa [eq_comm] using hks
               have q0:(Tm.put tm 5 (.sl eS)) = tm:=by exact Tm.put_same e5
               have q1:(Tm.put (Tm.put tm 5 (.sl eS)) 7 (.sl fa)) = tm:=by rw [q0]; exact Tm.put_same e7
               have q2:(Tm.put (Tm.put (Tm.put tm 5 (.sl eS)) 7 (.sl fa)) 52 (.int .i64 dp)) = tm:=by rw [q1]; exact Tm.put_same e52
               have q3:(Tm.put (Tm.put (Tm.put (Tm.put tm 5 (.sl eS)) 7 (.sl fa)) 52 (.int .i64 dp)) 53 (.int .i64 dP)) = tm:=by rw [q2]; exact Tm.put_same e53
               have q4:(Tm.put (Tm.put (Tm.put (Tm.put (Tm.put tm 5 (.sl eS)) 7 (.sl fa)) 52 (.int .i64 dp)) 53 (.int .i64 dP)) 56 (.int .i64 d_)) = tm:=by rw [q3]; exact Tm.put_same e56
               have q5:(Tm.put (Tm.put (Tm.put (Tm.put (Tm.put (Tm.put tm 5 (.sl eS)) 7 (.sl fa)) 52 (.int .i64 dp)) 53 (.int .i64 dP)) 56 (.int .i64 d_)) 57 (.int .i64 cG)) = tm:=by rw [q4]; exact Tm.put_same e57
               rw [← q5]
               exact Eq.trans (by kernel_rfl) h
              ·exact loops_none (by kernel_rfl)
            ·exact loops_none (by kernel_rfl)
       ·exact loops_none (by kernel_rfl)
theorem af.eqX (F:Nat) (aZ:Sl→Int→Sl→Sl→Hp→OA) (bh:Sl→Int→Sl→Sl→Hp→OA) (aD:Sl→Int→Sl→Sl→Hp→OA) (bK:Sl→Int→Hp→OA) (bi:Sl→Hp→OA) (aa:Sl) (ab:Int) (ah:Sl) (aL:Sl) (H:Hp):aCode tabs (mkOrc (af.cs F aZ bh aD bK bi)) af.pn (af.lh F aZ bh aD bK bi) F [] 1 af.code (argTm [(.agg [(.sl aa),(.int .i64 ab)]),(.agg [(.sl ah),(.sl aL)])]) H (fun tm H=>aresults tabs.ty H tm Try.f73.results.toList fun v=>some (v,H)) (fun _ _ _=>none) (fun tm H=>aresults tabs.ty H tm Try.f73.results.toList fun v=>some (v,H)) = af.twX F aZ bh aD bK bi aa ab ah aL H:=by kernel_rfl
theorem af.cs_ok (F:Nat):∀ p ∈ af.cs F (ap.tw F) (aE.tw F) (aj.tw F) (aH.tw F) (ba.tw F),∀ args H v H',p.2 args H = some (v,H')→Go.AE.T Try.prog p.1 args H v H':=by
 intro p hp
 simp only [af.cs,List.mem_cons,List.not_mem_nil,or_false] at hp
 rcases hp with rfl | rfl | rfl | rfl | rfl
 ·exact fun args H v H' h=>ap.mk_T h
 ·exact fun args H v H' h=>aE.mk_T h
 ·exact fun args H v H' h=>aj.mk_T h
 ·exact fun args H v H' h=>aH.mk_T h
 ·exact fun args H v H' h=>ba.mk_T h
theorem af.ok:codeOk af.pn Try.f73.ntmps af.tb af.code = true:=by kernel_rfl
theorem af.T {F:Nat} {aa:Sl} {ab:Int} {ah:Sl} {aL:Sl} {H:Hp} {v:AV} {H':Hp} (h:af.tw F aa ab ah aL H = some (v,H')):Go.AE.T Try.prog 73 [(.agg [(.sl aa),(.int .i64 ab)]),(.agg [(.sl ah),(.sl aL)])] H v H':=
 Go.AE.T.of (Y:=tabs) (C:=mkOrc (af.cs F (ap.tw F) (aE.tw F) (aj.tw F) (aH.tw F) (ba.tw F))) (PN:=af.pn) (LH:=af.lh F (ap.tw F) (aE.tw F) (aj.tw F) (aH.tw F) (ba.tw F)) (F:=F) (TB:=af.tb) (fn:=Try.f73) (code:=af.code) mixed tabs_ok (mkOrc_ok (af.cs_ok F)) Try.func73 (by kernel_rfl) (by kernel_rfl) af.ok (Nat.le_of_ble_eq_true (by kernel_rfl)) (af.loops F (ap.tw F) (aE.tw F) (aj.tw F) (aH.tw F) (ba.tw F)) (Eq.trans (af.eqX F (ap.tw F) (aE.tw F) (aj.tw F) (aH.tw F) (ba.tw F) aa ab ah aL H) h)
theorem af.mk_T {F:Nat} {args:List AV} {H:Hp} {v:AV} {H':Hp} (h:af.mk (af.tw F) args H = some (v,H')):Go.AE.T Try.prog 73 args H v H':=by
 unfold af.mk at h
 split at h
 ·exact af.T h
 ·cases h
noncomputable def bG.twX (F:Nat) (aa:Bool) (H:Hp):OA:=(bif aa then (some ((.int .i64 1),H)) else (some ((.int .i64 0),H)))
noncomputable def bG.tw (F:Nat) (aa:Bool) (H:Hp):OA:=bG.twX F aa H
noncomputable def bG.code:Go.Code:=(Try.f128.body).getD .skip
noncomputable def bG.lh (F:Nat) (p:Nat) (ks:List Nat) (n:Nat) (tm:Tm) (H:Hp):OA:=none
def bG.pn:Nat→List Nat:=fun i=>(([]:List (Nat×List Nat)).lookup i).getD []
def bG.tb:Nat→List (List Nat):=fun i=>(([]:List (Nat×List (List Nat))).lookup i).getD []
noncomputable def bG.mk (g:Bool→Hp→OA) (args:List AV) (H:Hp):OA:=match args with
 | [(.bool aa)]=>g aa H
 | _=>none
noncomputable def bG.cs (F:Nat):List (FuncId×(List AV→Hp→OA)):=[]
theorem bG.loops (F:Nat):LoopsOk tabs (mkOrc (bG.cs F)) bG.pn (bG.lh F) F [] 1 bG.code (fun tm H=>aresults tabs.ty H tm Try.f128.results.toList fun v=>some (v,H)) (fun _ _ _=>none) (fun tm H=>aresults tabs.ty H tm Try.f128.results.toList fun v=>some (v,H)):=by
 exact loops_none (by kernel_rfl)
theorem bG.eqX (F:Nat) (aa:Bool) (H:Hp):aCode tabs (mkOrc (bG.cs F)) bG.pn (bG.lh F) F [] 1 bG.code (argTm [(.bool aa)]) H (fun tm H=>aresults tabs.ty H tm Try.f128.results.toList fun v=>some (v,H)) (fun _ _ _=>none) (fun tm H=>aresults tabs.ty H tm Try.f128.results.toList fun v=>some (v,H)) = bG.twX F aa H:=by kernel_rfl
theorem bG.cs_ok (F:Nat):∀ p ∈ bG.cs F,∀ args H v H',p.2 args H = some (v,H')→Go.AE.T Try.prog p.1 args H v H':=by
 intro p hp
 exact absurd (show p ∈ [] from hp) List.not_mem_nil
theorem bG.ok:codeOk bG.pn Try.f128.ntmps bG.tb bG.code = true:=by kernel_rfl
theorem bG.T {F:Nat} {aa:Bool} {H:Hp} {v:AV} {H':Hp} (h:bG.tw F aa H = some (v,H')):Go.AE.T Try.prog 128 [(.bool aa)] H v H':=
 Go.AE.T.of (Y:=tabs) (C:=mkOrc (bG.cs F)) (PN:=bG.pn) (LH:=bG.lh F) (F:=F) (TB:=bG.tb) (fn:=Try.f128) (code:=bG.code) mixed tabs_ok (mkOrc_ok (bG.cs_ok F)) Try.func128 (by kernel_rfl) (by kernel_rfl) bG.ok (Nat.le_of_ble_eq_true (by kernel_rfl)) (bG.loops F) (Eq.trans (bG.eqX F aa H) h)
theorem bG.mk_T {F:Nat} {args:List AV} {H:Hp} {v:AV} {H':Hp} (h:bG.mk (bG.tw F) args H = some (v,H')):Go.AE.T Try.prog 128 args H v H':=by
 unfold bG.mk at h
 split at h
 ·exact bG.T h
 ·cases h
noncomputable def aQ.l61 (F:Nat) (aZ:Sl→Int→Sl→Sl→Hp→OA) (dQ:Sl→Int→Sl→Sl→Hp→OA) (dR:Bool→Hp→OA) :Nat→Int→Sl→Sl→Sl→Int→Int→Hp→OA
 | 0,_,_,_,_,_,_,_=>none
 | bo + 1,dq,bQ,bX,gE,eI,ej,H36=>(bif (decide (ej < eI)) then ((Sl.idx bQ (IntKind.i64.wrap ((IntKind.i64.wrap (4 * ej)) + 1)) 1).bind fun p46=>(Hp.ldI H36 .i64 p46.1 p46.2).bind fun n47=>(Sl.idx bX n47 1).bind fun p48=>(Hp.ldI H36 .i64 p48.1 p48.2).bind fun n49=>(dR (n49 == dq) H36).bind fun r50=>((r50.1).asI .i64).bind fun n51=>(Hp.new r50.2 [(.int .i64 (IntKind.i64.wrap ((IntKind.i64.wrap (2 * n51)) - 1)))]).bind fun H52=>(Sl.row H52 (⟨some (r50.2.length,0),1,.ex 1⟩:Sl) 1).bind fun xs54=>(Hp.app H52 1 8 gE (⟨some (r50.2.length,0),1,.ex 1⟩:Sl).n xs54).bind fun a53=>aQ.l61 F aZ dQ dR bo dq bQ bX a53.1 eI (IntKind.i64.wrap (ej + 1)) a53.2) else (some ((.sl gE),H36)))
termination_by structural n=>n
noncomputable def aQ.twX (F:Nat) (aZ:Sl→Int→Sl→Sl→Hp→OA) (dQ:Sl→Int→Sl→Sl→Hp→OA) (dR:Bool→Hp→OA) (aa:Sl) (ab:Int) (ah:Sl) (aL:Sl) (cj:Int) (H:Hp):OA:=(Hp.new H [(.sl aa),(.int .i64 ab)]).bind fun H6=>(Hp.new H6 [(.sl ah),(.sl aL)]).bind fun H7=>(Hp.ldSl H7 H.length 0).bind fun s8=>(Hp.ldI H7 .i64 H.length (0 + 1)).bind fun n9=>(Hp.ldSl H7 H6.length 0).bind fun s10=>(Hp.ldSl H7 H6.length (0 + 1)).bind fun s11=>(aZ s8 n9 s10 s11 H7).bind fun r12=>((r12.1).asSl).bind fun s13=>(if Cons H7 r12.2 then ((Hp.ldSl r12.2 H.length 0).bind fun s14=>(Hp.ldI r12.2 .i64 H.length (0 + 1)).bind fun n15=>(Hp.ldSl r12.2 H6.length 0).bind fun s16=>(Hp.ldSl r12.2 H6.length (0 + 1)).bind fun s17=>(dQ s14 n15 s16 s17 r12.2).bind fun r18=>((r18.1).asSl).bind fun s19=>(Hp.ldSl r18.2 H.length 0).bind fun s20=>aQ.l61 F aZ dQ dR F cj s13 s19 (⟨none,0,.ex 0⟩:Sl) (s20.n:Int) 0 r18.2) else none)
noncomputable def aQ.tw (F:Nat) (aa:Sl) (ab:Int) (ah:Sl) (aL:Sl) (cj:Int) (H:Hp):OA:=aQ.twX F (ap.tw F) (af.tw F) (bG.tw F) aa ab ah aL cj H
noncomputable def aQ.code:Go.Code:=(Try.f72.body).getD .skip
noncomputable def aQ.lh61 (F:Nat) (aZ:Sl→Int→Sl→Sl→Hp→OA) (dQ:Sl→Int→Sl→Sl→Hp→OA) (dR:Bool→Hp→OA) (ks:List Nat) (n:Nat) (tm:Tm) (H:Hp):OA:=match ks,tm 2,tm 7,tm 8,tm 9,tm 19,tm 20 with
 | [],(.int .i64 dq),(.sl bQ),(.sl bX),(.sl gE),(.int .i64 eI),(.int .i64 ej)=>aQ.l61 F aZ dQ dR n dq bQ bX gE eI ej H
 | _,_,_,_,_,_,_=>none
theorem aQ.lh61_inv {F:Nat} {aZ:Sl→Int→Sl→Sl→Hp→OA} {dQ:Sl→Int→Sl→Sl→Hp→OA} {dR:Bool→Hp→OA} {ks:List Nat} {n:Nat} {tm:Tm} {H:Hp} {r:AV×Hp} (h:aQ.lh61 F aZ dQ dR ks n tm H = some r):∃ dq:Int,∃ bQ:Sl,∃ bX:Sl,∃ gE:Sl,∃ eI:Int,∃ ej:Int,ks = []∧tm 2 = (.int .i64 dq)∧tm 7 = (.sl bQ)∧tm 8 = (.sl bX)∧tm 9 = (.sl gE)∧tm 19 = (.int .i64 eI)∧tm 20 = (.int .i64 ej)∧aQ.l61 F aZ dQ dR n dq bQ bX gE eI ej H = some r:=by
 unfold aQ.lh61 at h
 split at h
 ·exact ⟨_,_,_,_,_,_,rfl,by assumption,by assumption,by assumption,by assumption,by assumption,by assumption,h⟩
 ·cases h
noncomputable def aQ.lh (F:Nat) (aZ:Sl→Int→Sl→Sl→Hp→OA) (dQ:Sl→Int→Sl→Sl→Hp→OA) (dR:Bool→Hp→OA) (p:Nat) (ks:List Nat) (n:Nat) (tm:Tm) (H:Hp):OA:=bif p.beq 61 then aQ.lh61 F aZ dQ dR ks n tm H else (none)
def aQ.pn:Nat→List Nat:=fun i=>(([(1,[5])]:List (Nat×List Nat)).lookup i).getD []
def aQ.tb:Nat→List (List Nat):=fun i=>(([(1,[[],[],[0,1],[],[],[0,1,2,3,4],[0,1,2,3,4,5],[0,1,2,3,4,5,6]])]:List (Nat×List (List Nat))).lookup i).getD []
noncomputable def aQ.mk (g:Sl→Int→Sl→Sl→Int→Hp→OA) (args:List AV) (H:Hp):OA:=match args with
 | [(.agg [(.sl aa),(.int .i64 ab)]),(.agg [(.sl ah),(.sl aL)]),(.int .i64 cj)]=>g aa ab ah aL cj H
 | _=>none
noncomputable def aQ.cs (F:Nat) (aZ:Sl→Int→Sl→Sl→Hp→OA) (dQ:Sl→Int→Sl→Sl→Hp→OA) (dR:Bool→Hp→OA):List (FuncId×(List AV→Hp→OA)):=[(127,ap.mk aZ),(73,af.mk dQ),(128,bG.mk dR)]
theorem aQ.loops (F:Nat) (aZ:Sl→Int→Sl→Sl→Hp→OA) (dQ:Sl→Int→Sl→Sl→Hp→OA) (dR:Bool→Hp→OA):LoopsOk tabs (mkOrc (aQ.cs F aZ dQ dR)) aQ.pn (aQ.lh F aZ dQ dR) F [] 1 aQ.code (fun tm H=>aresults tabs.ty H tm Try.f72.results.toList fun v=>some (v,H)) (fun _ _ _=>none) (fun tm H=>aresults tabs.ty H tm Try.f72.results.toList fun v=>some (v,H)):=by
 refine LoopsOk.seq ?_ ?_
 ·exact loops_none (by kernel_rfl)
 ·refine LoopsOk.seq ?_ ?_
  ·exact loops_none (by kernel_rfl)
  ·refine LoopsOk.seq ?_ ?_
   ·exact loops_none (by kernel_rfl)
   ·refine LoopsOk.seq ?_ ?_
    ·refine LoopsOk.seq ?_ ?_
     ·exact loops_none (by kernel_rfl)
     ·refine LoopsOk.block ?_
      refine LoopsOk.loop (fun tm H=>?_) (fun k61 tm H r h0=>?_) (fun k61=>?_)
      ·refine none_of fun r h0=>?_
       obtain ⟨dq,bQ,bX,gE,eI,ej,hks,e2,e7,e8,e9,e19,e20,h⟩:=aQ.lh61_inv (show aQ.lh61 F aZ dQ dR [] 0 tm H = some r from h0)
       cases h
      ·obtain ⟨dq,bQ,bX,gE,eI,ej,hks,e2,e7,e8,e9,e19,e20,h⟩:=aQ.lh61_inv (show aQ.lh61 F aZ dQ dR [] (k61 + 1) tm H = some r from h0)
       have q0:(Tm.put tm 2 (.int .i64 dq)) = tm:=by exact Tm.put_same e2
       have q1:(Tm.put (Tm.put tm 2 (.int .i64 dq)) 7 (.sl bQ)) = tm:=by rw [q0]; exact Tm.put_same e7
       have q2:(Tm.put (Tm.put (Tm.put tm 2 (.int .i64 dq)) 7 (.sl bQ)) 8 (.sl bX)) = tm:=by rw [q1]; exact Tm.put_same e8
       have q3:(Tm.put (Tm.put (Tm.put (Tm.put tm 2 (.int .i64 dq)) 7 (.sl bQ)) 8 (.sl bX)) 9 (.sl gE)) = tm:=by rw [q2]; exact Tm.put_same e9
       have q4:(Tm.put (Tm.put (Tm.put (Tm.put (Tm.put tm 2 (.int .i64 dq)) 7 (.sl bQ)) 8 (.sl bX)) 9 (.sl gE)) 19 (.int .i64 eI)) = tm:=by rw [q3]; exact Tm.put_same e19
       have q5:(Tm.put (Tm.put (Tm.put (Tm.put (Tm.put (Tm.put tm 2 (.int .i64 dq)) 7 (.sl bQ)) 8 (.sl bX)) 9 (.sl gE)) 19 (.int .i64 eI)) 20 (.int .i64 ej)) = tm:=by rw [q4]; exact Tm.put_same e20
       rw [← q5]
       exact Eq.trans (by kernel_rfl) h
      ·exact loops_none (by kernel_rfl)
    ·exact loops_none (by kernel_rfl)
theorem aQ.eqX (F:Nat) (aZ:Sl→Int→Sl→Sl→Hp→OA) (dQ:Sl→Int→Sl→Sl→Hp→OA) (dR:Bool→Hp→OA) (aa:Sl) (ab:Int) (ah:Sl) (aL:Sl) (cj:Int) (H:Hp):aCode tabs (mkOrc (aQ.cs F aZ dQ dR)) aQ.pn (aQ.lh F aZ dQ dR) F [] 1 aQ.code (argTm [(.agg [(.sl aa),(.int .i64 ab)]),(.agg [(.sl ah),(.sl aL)]),(.int .i64 cj)]) H (fun tm H=>aresults tabs.ty H tm Try.f72.results.toList fun v=>some (v,H)) (fun _ _ _=>none) (fun tm H=>aresults tabs.ty H tm Try.f72.results.toList fun v=>some (v,H)) = aQ.twX F aZ dQ dR aa ab ah aL cj H:=by kernel_rfl
end Go.Proofs.Ythfinhmkgdmelaa.AE
