import Derived.Test.YthfinhmkgdmelaaTab1
import Derived.Test.YthfinhmkgdmelaaE2
set_option linter.unusedVariables false
set_option linter.unusedSimpArgs false
namespace Go.Proofs.Ythfinhmkgdmelaa.AE
open Go Go.AE Go.Proofs Go.RowKit Go.Maps
set_option linter.unusedVariables false
set_option maxHeartbeats 4000000
set_option maxRecDepth 100000
noncomputable def bC.twX (F:Nat) (aa:Sl) (ad:Int) (H:Hp):OA:=(bif (decide ((IntKind.i64.wrap (ad - (aa.n:Int))) < 0)) then (some ((.int .i64 (-1)),H)) else (some ((.int .i64 (IntKind.i64.wrap (ad - (aa.n:Int)))),H)))
noncomputable def bC.tw (F:Nat) (aa:Sl) (ad:Int) (H:Hp):OA:=bC.twX F aa ad H
noncomputable def bC.code:Go.Code:=(Try.f58.body).getD .skip
noncomputable def bC.lh (F:Nat) (p:Nat) (ks:List Nat) (n:Nat) (tm:Tm) (H:Hp):OA:=none
def bC.pn:Nat→List Nat:=fun i=>(([]:List (Nat×List Nat)).lookup i).getD []
def bC.tb:Nat→List (List Nat):=fun i=>(([]:List (Nat×List (List Nat))).lookup i).getD []
noncomputable def bC.mk (g:Sl→Int→Hp→OA) (args:List AV) (H:Hp):OA:=match args with
 | [(.sl aa),(.int .i64 ad)]=>g aa ad H
 | _=>none
noncomputable def bC.cs (F:Nat):List (FuncId×(List AV→Hp→OA)):=[]
theorem bC.loops (F:Nat):LoopsOk tabs (mkOrc (bC.cs F)) bC.pn (bC.lh F) F [] 1 bC.code (fun tm H=>aresults tabs.ty H tm Try.f58.results.toList fun v=>some (v,H)) (fun _ _ _=>none) (fun tm H=>aresults tabs.ty H tm Try.f58.results.toList fun v=>some (v,H)):=by
 exact loops_none (by kernel_rfl)
theorem bC.eqX (F:Nat) (aa:Sl) (ad:Int) (H:Hp):aCode tabs (mkOrc (bC.cs F)) bC.pn (bC.lh F) F [] 1 bC.code (argTm [(.sl aa),(.int .i64 ad)]) H (fun tm H=>aresults tabs.ty H tm Try.f58.results.toList fun v=>some (v,H)) (fun _ _ _=>none) (fun tm H=>aresults tabs.ty H tm Try.f58.results.toList fun v=>some (v,H)) = bC.twX F aa ad H:=by kernel_rfl
theorem bC.cs_ok (F:Nat):∀ p ∈ bC.cs F,∀ args H v H',p.2 args H = some (v,H')→Go.AE.T Try.prog p.1 args H v H':=by
 intro p hp
 exact absurd (show p ∈ [] from hp) List.not_mem_nil
theorem bC.ok:codeOk bC.pn Try.f58.ntmps bC.tb bC.code = true:=by kernel_rfl
theorem bC.T {F:Nat} {aa:Sl} {ad:Int} {H:Hp} {v:AV} {H':Hp} (h:bC.tw F aa ad H = some (v,H')):Go.AE.T Try.prog 58 [(.sl aa),(.int .i64 ad)] H v H':=
 Go.AE.T.of (Y:=tabs) (C:=mkOrc (bC.cs F)) (PN:=bC.pn) (LH:=bC.lh F) (F:=F) (TB:=bC.tb) (fn:=Try.f58) (code:=bC.code) mixed tabs_ok (mkOrc_ok (bC.cs_ok F)) Try.func58 (by kernel_rfl) (by kernel_rfl) bC.ok (Nat.le_of_ble_eq_true (by kernel_rfl)) (bC.loops F) (Eq.trans (bC.eqX F aa ad H) h)
theorem bC.mk_T {F:Nat} {args:List AV} {H:Hp} {v:AV} {H':Hp} (h:bC.mk (bC.tw F) args H = some (v,H')):Go.AE.T Try.prog 58 args H v H':=by
 unfold bC.mk at h
 split at h
 ·exact bC.T h
 ·cases h
noncomputable def bs.twX (F:Nat) (hH:Sl→Int→Hp→OA) (aa:Sl) (ab:Int) (af:Int) (H:Hp):OA:=(Hp.new H [(.sl aa),(.int .i64 ab)]).bind fun H4=>(Hp.ldSl H4 H.length 0).bind fun s5=>(hH s5 af H4).bind fun r6=>((r6.1).asI .i64).bind fun n7=>(bif (decide (n7 < 0)) then (some ((.int .i64 (-1)),r6.2)) else (some ((.int .i64 n7),r6.2)))
noncomputable def bs.tw (F:Nat) (aa:Sl) (ab:Int) (af:Int) (H:Hp):OA:=bs.twX F (bC.tw F) aa ab af H
noncomputable def bs.code:Go.Code:=(Try.f15.body).getD .skip
noncomputable def bs.lh (F:Nat) (hH:Sl→Int→Hp→OA) (p:Nat) (ks:List Nat) (n:Nat) (tm:Tm) (H:Hp):OA:=none
def bs.pn:Nat→List Nat:=fun i=>(([]:List (Nat×List Nat)).lookup i).getD []
def bs.tb:Nat→List (List Nat):=fun i=>(([]:List (Nat×List (List Nat))).lookup i).getD []
noncomputable def bs.mk (g:Sl→Int→Int→Hp→OA) (args:List AV) (H:Hp):OA:=match args with
 | [(.agg [(.sl aa),(.int .i64 ab)]),(.int .i64 af)]=>g aa ab af H
 | _=>none
noncomputable def bs.cs (F:Nat) (hH:Sl→Int→Hp→OA):List (FuncId×(List AV→Hp→OA)):=[(58,bC.mk hH)]
theorem bs.loops (F:Nat) (hH:Sl→Int→Hp→OA):LoopsOk tabs (mkOrc (bs.cs F hH)) bs.pn (bs.lh F hH) F [] 1 bs.code (fun tm H=>aresults tabs.ty H tm Try.f15.results.toList fun v=>some (v,H)) (fun _ _ _=>none) (fun tm H=>aresults tabs.ty H tm Try.f15.results.toList fun v=>some (v,H)):=by
 exact loops_none (by kernel_rfl)
theorem bs.eqX (F:Nat) (hH:Sl→Int→Hp→OA) (aa:Sl) (ab:Int) (af:Int) (H:Hp):aCode tabs (mkOrc (bs.cs F hH)) bs.pn (bs.lh F hH) F [] 1 bs.code (argTm [(.agg [(.sl aa),(.int .i64 ab)]),(.int .i64 af)]) H (fun tm H=>aresults tabs.ty H tm Try.f15.results.toList fun v=>some (v,H)) (fun _ _ _=>none) (fun tm H=>aresults tabs.ty H tm Try.f15.results.toList fun v=>some (v,H)) = bs.twX F hH aa ab af H:=by kernel_rfl
theorem bs.cs_ok (F:Nat):∀ p ∈ bs.cs F (bC.tw F),∀ args H v H',p.2 args H = some (v,H')→Go.AE.T Try.prog p.1 args H v H':=by
 intro p hp
 simp only [bs.cs,List.mem_cons,List.not_mem_nil,or_false] at hp
 subst hp
 exact fun args H v H' h=>bC.mk_T h
theorem bs.ok:codeOk bs.pn Try.f15.ntmps bs.tb bs.code = true:=by kernel_rfl
theorem bs.T {F:Nat} {aa:Sl} {ab:Int} {af:Int} {H:Hp} {v:AV} {H':Hp} (h:bs.tw F aa ab af H = some (v,H')):Go.AE.T Try.prog 15 [(.agg [(.sl aa),(.int .i64 ab)]),(.int .i64 af)] H v H':=
 Go.AE.T.of (Y:=tabs) (C:=mkOrc (bs.cs F (bC.tw F))) (PN:=bs.pn) (LH:=bs.lh F (bC.tw F)) (F:=F) (TB:=bs.tb) (fn:=Try.f15) (code:=bs.code) mixed tabs_ok (mkOrc_ok (bs.cs_ok F)) Try.func15 (by kernel_rfl) (by kernel_rfl) bs.ok (Nat.le_of_ble_eq_true (by kernel_rfl)) (bs.loops F (bC.tw F)) (Eq.trans (bs.eqX F (bC.tw F) aa ab af H) h)
theorem bs.mk_T {F:Nat} {args:List AV} {H:Hp} {v:AV} {H':Hp} (h:bs.mk (bs.tw F) args H = some (v,H')):Go.AE.T Try.prog 15 args H v H':=by
 unfold bs.mk at h
 split at h
 ·exact bs.T h
 ·cases h
noncomputable def bD.twX (F:Nat) (aa:Int) (ab:Int) (ah:Int) (az:Int) (ax:Int) (H:Hp):OA:=(Hp.new H [(.int .i64 aa),(.int .i64 ab),(.int .i64 ah),(.int .i64 az),(.int .i64 ax)]).bind fun H6=>(Hp.new H6 [.int .i64 0,.int .i64 0,.int .i64 0,.int .i64 0,.int .i64 0]).bind fun H7=>(Hp.new H7 [.int .i64 0,.int .i64 0,.int .i64 0,.int .i64 0,.int .i64 0]).bind fun H8=>(Hp.ldI H8 .i64 H.length 0).bind fun n9=>(Hp.st H8 H7.length 0 (.int .i64 n9)).bind fun H10=>(Hp.ldI H10 .i64 H.length 1).bind fun n11=>(Hp.st H10 H7.length 1 (.int .i64 n11)).bind fun H12=>(Hp.ldI H12 .i64 H.length 2).bind fun n13=>(Hp.st H12 H7.length 2 (.int .i64 n13)).bind fun H14=>(Hp.ldI H14 .i64 H.length 3).bind fun n15=>(Hp.st H14 H7.length 3 (.int .i64 n15)).bind fun H16=>(Hp.ldI H16 .i64 H.length 4).bind fun n17=>(Hp.st H16 H7.length 4 (.int .i64 n17)).bind fun H18=>(Hp.ldI H18 .i64 H7.length 0).bind fun n19=>(Hp.ldI H18 .i64 H7.length (0 + 1)).bind fun n20=>(Hp.ldI H18 .i64 H7.length (0 + 2)).bind fun n21=>(Hp.ldI H18 .i64 H7.length (0 + 3)).bind fun n22=>(Hp.ldI H18 .i64 H7.length (0 + 4)).bind fun n23=>(Hp.st H18 H6.length 0 (.int .i64 n19)).bind fun H24=>(Hp.st H24 H6.length (0 + 1) (.int .i64 n20)).bind fun H25=>(Hp.st H25 H6.length (0 + 1 + 1) (.int .i64 n21)).bind fun H26=>(Hp.st H26 H6.length (0 + 1 + 1 + 1) (.int .i64 n22)).bind fun H27=>(Hp.st H27 H6.length (0 + 1 + 1 + 1 + 1) (.int .i64 n23)).bind fun H28=>(Hp.ldI H28 .i64 H6.length 0).bind fun n29=>(Hp.ldI H28 .i64 H6.length (0 + 1)).bind fun n30=>(Hp.ldI H28 .i64 H6.length (0 + 2)).bind fun n31=>(Hp.ldI H28 .i64 H6.length (0 + 3)).bind fun n32=>(Hp.ldI H28 .i64 H6.length (0 + 4)).bind fun n33=>some ((.agg [(.int .i64 n29),(.int .i64 n30),(.int .i64 n31),(.int .i64 n32),(.int .i64 n33)]),H28)
noncomputable def bD.tw (F:Nat) (aa:Int) (ab:Int) (ah:Int) (az:Int) (ax:Int) (H:Hp):OA:=bD.twX F aa ab ah az ax H
noncomputable def bD.code:Go.Code:=(Try.f115.body).getD .skip
noncomputable def bD.lh (F:Nat) (p:Nat) (ks:List Nat) (n:Nat) (tm:Tm) (H:Hp):OA:=none
def bD.pn:Nat→List Nat:=fun i=>(([]:List (Nat×List Nat)).lookup i).getD []
def bD.tb:Nat→List (List Nat):=fun i=>(([]:List (Nat×List (List Nat))).lookup i).getD []
noncomputable def bD.mk (g:Int→Int→Int→Int→Int→Hp→OA) (args:List AV) (H:Hp):OA:=match args with
 | [(.agg [(.int .i64 aa),(.int .i64 ab),(.int .i64 ah),(.int .i64 az),(.int .i64 ax)])]=>g aa ab ah az ax H
 | _=>none
noncomputable def bD.cs (F:Nat):List (FuncId×(List AV→Hp→OA)):=[]
theorem bD.loops (F:Nat):LoopsOk tabs (mkOrc (bD.cs F)) bD.pn (bD.lh F) F [] 1 bD.code (fun tm H=>aresults tabs.ty H tm Try.f115.results.toList fun v=>some (v,H)) (fun _ _ _=>none) (fun tm H=>aresults tabs.ty H tm Try.f115.results.toList fun v=>some (v,H)):=by
 exact loops_none (by kernel_rfl)
theorem bD.eqX (F:Nat) (aa:Int) (ab:Int) (ah:Int) (az:Int) (ax:Int) (H:Hp):aCode tabs (mkOrc (bD.cs F)) bD.pn (bD.lh F) F [] 1 bD.code (argTm [(.agg [(.int .i64 aa),(.int .i64 ab),(.int .i64 ah),(.int .i64 az),(.int .i64 ax)])]) H (fun tm H=>aresults tabs.ty H tm Try.f115.results.toList fun v=>some (v,H)) (fun _ _ _=>none) (fun tm H=>aresults tabs.ty H tm Try.f115.results.toList fun v=>some (v,H)) = bD.twX F aa ab ah az ax H:=by kernel_rfl
theorem bD.cs_ok (F:Nat):∀ p ∈ bD.cs F,∀ args H v H',p.2 args H = some (v,H')→Go.AE.T Try.prog p.1 args H v H':=by
 intro p hp
 exact absurd (show p ∈ [] from hp) List.not_mem_nil
theorem bD.ok:codeOk bD.pn Try.f115.ntmps bD.tb bD.code = true:=by kernel_rfl
theorem bD.T {F:Nat} {aa:Int} {ab:Int} {ah:Int} {az:Int} {ax:Int} {H:Hp} {v:AV} {H':Hp} (h:bD.tw F aa ab ah az ax H = some (v,H')):Go.AE.T Try.prog 115 [(.agg [(.int .i64 aa),(.int .i64 ab),(.int .i64 ah),(.int .i64 az),(.int .i64 ax)])] H v H':=
 Go.AE.T.of (Y:=tabs) (C:=mkOrc (bD.cs F)) (PN:=bD.pn) (LH:=bD.lh F) (F:=F) (TB:=bD.tb) (fn:=Try.f115) (code:=bD.code) mixed tabs_ok (mkOrc_ok (bD.cs_ok F)) Try.func115 (by kernel_rfl) (by kernel_rfl) bD.ok (Nat.le_of_ble_eq_true (by kernel_rfl)) (bD.loops F) (Eq.trans (bD.eqX F aa ab ah az ax H) h)
theorem bD.mk_T {F:Nat} {args:List AV} {H:Hp} {v:AV} {H':Hp} (h:bD.mk (bD.tw F) args H = some (v,H')):Go.AE.T Try.prog 115 args H v H':=by
 unfold bD.mk at h
 split at h
 ·exact bD.T h
 ·cases h
noncomputable def aT.l29 (F:Nat) (dU:Int→Int→Int→Int→Int→Hp→OA) :Nat→Sl→Sl→Int→Hp→OA
 | 0,_,_,_,_=>none
 | cZ + 1,bM,dj,b_,H7=>(bif (decide (b_ < (bM.n:Int))) then ((Sl.idx bM b_ 5).bind fun p32=>(Hp.ldI H7 .i64 p32.1 p32.2).bind fun n33=>(Hp.ldI H7 .i64 p32.1 (p32.2 + 1)).bind fun n34=>(Hp.ldI H7 .i64 p32.1 (p32.2 + 2)).bind fun n35=>(Hp.ldI H7 .i64 p32.1 (p32.2 + 3)).bind fun n36=>(Hp.ldI H7 .i64 p32.1 (p32.2 + 4)).bind fun n37=>(dU n33 n34 n35 n36 n37 H7).bind fun r38=>((r38.1).asAgg 5).bind fun l39=>(l39[0]?).bind fun v40=>((v40).asI .i64).bind fun n41=>(l39[1]?).bind fun v42=>((v42).asI .i64).bind fun n43=>(l39[2]?).bind fun v44=>((v44).asI .i64).bind fun n45=>(l39[3]?).bind fun v46=>((v46).asI .i64).bind fun n47=>(l39[4]?).bind fun v48=>((v48).asI .i64).bind fun n49=>(Sl.idx dj b_ 5).bind fun p50=>(Hp.st r38.2 p50.1 p50.2 (.int .i64 n41)).bind fun H51=>(Hp.st H51 p50.1 (p50.2 + 1) (.int .i64 n43)).bind fun H52=>(Hp.st H52 p50.1 (p50.2 + 1 + 1) (.int .i64 n45)).bind fun H53=>(Hp.st H53 p50.1 (p50.2 + 1 + 1 + 1) (.int .i64 n47)).bind fun H54=>(Hp.st H54 p50.1 (p50.2 + 1 + 1 + 1 + 1) (.int .i64 n49)).bind fun H55=>aT.l29 F dU cZ bM dj (IntKind.i64.wrap (b_ + 1)) H55) else (some ((.sl dj),H7)))
termination_by structural n=>n
noncomputable def aT.twX (F:Nat) (dU:Int→Int→Int→Int→Int→Hp→OA) (aa:Sl) (H:Hp):OA:=(Hp.mk H [.int .i64 0,.int .i64 0,.int .i64 0,.int .i64 0,.int .i64 0] 40 (aa.n:Int) (aa.n:Int)).bind fun m2=>aT.l29 F dU F aa m2.1 0 m2.2
noncomputable def aT.tw (F:Nat) (aa:Sl) (H:Hp):OA:=aT.twX F (bD.tw F) aa H
noncomputable def aT.code:Go.Code:=(Try.f60.body).getD .skip
noncomputable def aT.lh29 (F:Nat) (dU:Int→Int→Int→Int→Int→Hp→OA) (ks:List Nat) (n:Nat) (tm:Tm) (H:Hp):OA:=match ks,tm 0,tm 3,tm 4 with
 | [],(.sl bM),(.sl dj),(.int .i64 b_)=>aT.l29 F dU n bM dj b_ H
 | _,_,_,_=>none
theorem aT.lh29_inv {F:Nat} {dU:Int→Int→Int→Int→Int→Hp→OA} {ks:List Nat} {n:Nat} {tm:Tm} {H:Hp} {r:AV×Hp} (h:aT.lh29 F dU ks n tm H = some r):∃ bM:Sl,∃ dj:Sl,∃ b_:Int,ks = []∧tm 0 = (.sl bM)∧tm 3 = (.sl dj)∧tm 4 = (.int .i64 b_)∧aT.l29 F dU n bM dj b_ H = some r:=by
 unfold aT.lh29 at h
 split at h
 ·exact ⟨_,_,_,rfl,by assumption,by assumption,by assumption,h⟩
 ·cases h
noncomputable def aT.lh (F:Nat) (dU:Int→Int→Int→Int→Int→Hp→OA) (p:Nat) (ks:List Nat) (n:Nat) (tm:Tm) (H:Hp):OA:=bif p.beq 29 then aT.lh29 F dU ks n tm H else (none)
def aT.pn:Nat→List Nat:=fun i=>(([]:List (Nat×List Nat)).lookup i).getD []
def aT.tb:Nat→List (List Nat):=fun i=>(([]:List (Nat×List (List Nat))).lookup i).getD []
noncomputable def aT.mk (g:Sl→Hp→OA) (args:List AV) (H:Hp):OA:=match args with
 | [(.sl aa)]=>g aa H
 | _=>none
noncomputable def aT.cs (F:Nat) (dU:Int→Int→Int→Int→Int→Hp→OA):List (FuncId×(List AV→Hp→OA)):=[(115,bD.mk dU)]
theorem aT.loops (F:Nat) (dU:Int→Int→Int→Int→Int→Hp→OA):LoopsOk tabs (mkOrc (aT.cs F dU)) aT.pn (aT.lh F dU) F [] 1 aT.code (fun tm H=>aresults tabs.ty H tm Try.f60.results.toList fun v=>some (v,H)) (fun _ _ _=>none) (fun tm H=>aresults tabs.ty H tm Try.f60.results.toList fun v=>some (v,H)):=by
 refine LoopsOk.seq ?_ ?_
 ·exact loops_none (by kernel_rfl)
 ·refine LoopsOk.seq ?_ ?_
  ·exact loops_none (by kernel_rfl)
  ·refine LoopsOk.seq ?_ ?_
   ·refine LoopsOk.seq ?_ ?_
    ·exact loops_none (by kernel_rfl)
    ·refine LoopsOk.block ?_
     refine LoopsOk.loop (fun tm H=>?_) (fun k29 tm H r h0=>?_) (fun k29=>?_)
     ·refine none_of fun r h0=>?_
      obtain ⟨bM,dj,b_,hks,e0,e3,e4,h⟩:=aT.lh29_inv (show aT.lh29 F dU [] 0 tm H = some r from h0)
      cases h
     ·obtain ⟨bM,dj,b_,hks,e0,e3,e4,h⟩:=aT.lh29_inv (show aT.lh29 F dU [] (k29 + 1) tm H = some r from h0)
      have q0:(Tm.put tm 0 (.sl bM)) = tm:=by exact Tm.put_same e0
      have q1:(Tm.put (Tm.put tm 0 (.sl bM)) 3 (.sl dj)) = tm:=by rw [q0]; exact Tm.put_same e3
      have q2:(Tm.put (Tm.put (Tm.put tm 0 (.sl bM)) 3 (.sl dj)) 4 (.int .i64 b_)) = tm:=by rw [q1]; exact Tm.put_same e4
      rw [← q2]
      exact Eq.trans (by kernel_rfl) h
     ·exact loops_none (by kernel_rfl)
   ·exact loops_none (by kernel_rfl)
theorem aT.eqX (F:Nat) (dU:Int→Int→Int→Int→Int→Hp→OA) (aa:Sl) (H:Hp):aCode tabs (mkOrc (aT.cs F dU)) aT.pn (aT.lh F dU) F [] 1 aT.code (argTm [(.sl aa)]) H (fun tm H=>aresults tabs.ty H tm Try.f60.results.toList fun v=>some (v,H)) (fun _ _ _=>none) (fun tm H=>aresults tabs.ty H tm Try.f60.results.toList fun v=>some (v,H)) = aT.twX F dU aa H:=by kernel_rfl
theorem aT.cs_ok (F:Nat):∀ p ∈ aT.cs F (bD.tw F),∀ args H v H',p.2 args H = some (v,H')→Go.AE.T Try.prog p.1 args H v H':=by
 intro p hp
 simp only [aT.cs,List.mem_cons,List.not_mem_nil,or_false] at hp
 subst hp
 exact fun args H v H' h=>bD.mk_T h
theorem aT.ok:codeOk aT.pn Try.f60.ntmps aT.tb aT.code = true:=by kernel_rfl
theorem aT.T {F:Nat} {aa:Sl} {H:Hp} {v:AV} {H':Hp} (h:aT.tw F aa H = some (v,H')):Go.AE.T Try.prog 60 [(.sl aa)] H v H':=
 Go.AE.T.of (Y:=tabs) (C:=mkOrc (aT.cs F (bD.tw F))) (PN:=aT.pn) (LH:=aT.lh F (bD.tw F)) (F:=F) (TB:=aT.tb) (fn:=Try.f60) (code:=aT.code) mixed tabs_ok (mkOrc_ok (aT.cs_ok F)) Try.func60 (by kernel_rfl) (by kernel_rfl) aT.ok (Nat.le_of_ble_eq_true (by kernel_rfl)) (aT.loops F (bD.tw F)) (Eq.trans (aT.eqX F (bD.tw F) aa H) h)
theorem aT.mk_T {F:Nat} {args:List AV} {H:Hp} {v:AV} {H':Hp} (h:aT.mk (aT.tw F) args H = some (v,H')):Go.AE.T Try.prog 60 args H v H':=by
 unfold aT.mk at h
 split at h
 ·exact aT.T h
 ·cases h
noncomputable def bp.twX (F:Nat) (hI:Sl→Hp→OA) (aa:Sl) (ab:Int) (H:Hp):OA:=(Hp.new H [(.sl aa),(.int .i64 ab)]).bind fun H3=>(Hp.new H3 [.sl ⟨none,0,.ex 0⟩,.int .i64 0]).bind fun H4=>(Hp.new H4 [.sl ⟨none,0,.ex 0⟩,.int .i64 0]).bind fun H5=>(Hp.ldSl H5 H.length 0).bind fun s6=>(hI s6 H5).bind fun r7=>((r7.1).asSl).bind fun s8=>(Hp.st r7.2 H4.length 0 (.sl s8)).bind fun H9=>(Hp.ldI H9 .i64 H.length 1).bind fun n10=>(Hp.st H9 H4.length 1 (.int .i64 n10)).bind fun H11=>(Hp.ldSl H11 H4.length 0).bind fun s12=>(Hp.ldI H11 .i64 H4.length (0 + 1)).bind fun n13=>(Hp.st H11 H3.length 0 (.sl s12)).bind fun H14=>(Hp.st H14 H3.length (0 + 1) (.int .i64 n13)).bind fun H15=>(Hp.ldSl H15 H3.length 0).bind fun s16=>(Hp.ldI H15 .i64 H3.length (0 + 1)).bind fun n17=>some ((.agg [(.sl s16),(.int .i64 n17)]),H15)
noncomputable def bp.tw (F:Nat) (aa:Sl) (ab:Int) (H:Hp):OA:=bp.twX F (aT.tw F) aa ab H
noncomputable def bp.code:Go.Code:=(Try.f17.body).getD .skip
noncomputable def bp.lh (F:Nat) (hI:Sl→Hp→OA) (p:Nat) (ks:List Nat) (n:Nat) (tm:Tm) (H:Hp):OA:=none
def bp.pn:Nat→List Nat:=fun i=>(([]:List (Nat×List Nat)).lookup i).getD []
def bp.tb:Nat→List (List Nat):=fun i=>(([]:List (Nat×List (List Nat))).lookup i).getD []
noncomputable def bp.mk (g:Sl→Int→Hp→OA) (args:List AV) (H:Hp):OA:=match args with
 | [(.agg [(.sl aa),(.int .i64 ab)])]=>g aa ab H
 | _=>none
noncomputable def bp.cs (F:Nat) (hI:Sl→Hp→OA):List (FuncId×(List AV→Hp→OA)):=[(60,aT.mk hI)]
theorem bp.loops (F:Nat) (hI:Sl→Hp→OA):LoopsOk tabs (mkOrc (bp.cs F hI)) bp.pn (bp.lh F hI) F [] 1 bp.code (fun tm H=>aresults tabs.ty H tm Try.f17.results.toList fun v=>some (v,H)) (fun _ _ _=>none) (fun tm H=>aresults tabs.ty H tm Try.f17.results.toList fun v=>some (v,H)):=by
 exact loops_none (by kernel_rfl)
theorem bp.eqX (F:Nat) (hI:Sl→Hp→OA) (aa:Sl) (ab:Int) (H:Hp):aCode tabs (mkOrc (bp.cs F hI)) bp.pn (bp.lh F hI) F [] 1 bp.code (argTm [(.agg [(.sl aa),(.int .i64 ab)])]) H (fun tm H=>aresults tabs.ty H tm Try.f17.results.toList fun v=>some (v,H)) (fun _ _ _=>none) (fun tm H=>aresults tabs.ty H tm Try.f17.results.toList fun v=>some (v,H)) = bp.twX F hI aa ab H:=by kernel_rfl
theorem bp.cs_ok (F:Nat):∀ p ∈ bp.cs F (aT.tw F),∀ args H v H',p.2 args H = some (v,H')→Go.AE.T Try.prog p.1 args H v H':=by
 intro p hp
 simp only [bp.cs,List.mem_cons,List.not_mem_nil,or_false] at hp
 subst hp
 exact fun args H v H' h=>aT.mk_T h
theorem bp.ok:codeOk bp.pn Try.f17.ntmps bp.tb bp.code = true:=by kernel_rfl
theorem bp.T {F:Nat} {aa:Sl} {ab:Int} {H:Hp} {v:AV} {H':Hp} (h:bp.tw F aa ab H = some (v,H')):Go.AE.T Try.prog 17 [(.agg [(.sl aa),(.int .i64 ab)])] H v H':=
 Go.AE.T.of (Y:=tabs) (C:=mkOrc (bp.cs F (aT.tw F))) (PN:=bp.pn) (LH:=bp.lh F (aT.tw F)) (F:=F) (TB:=bp.tb) (fn:=Try.f17) (code:=bp.code) mixed tabs_ok (mkOrc_ok (bp.cs_ok F)) Try.func17 (by kernel_rfl) (by kernel_rfl) bp.ok (Nat.le_of_ble_eq_true (by kernel_rfl)) (bp.loops F (aT.tw F)) (Eq.trans (bp.eqX F (aT.tw F) aa ab H) h)
theorem bp.mk_T {F:Nat} {args:List AV} {H:Hp} {v:AV} {H':Hp} (h:bp.mk (bp.tw F) args H = some (v,H')):Go.AE.T Try.prog 17 args H v H':=by
 unfold bp.mk at h
 split at h
 ·exact bp.T h
 ·cases h
noncomputable def aI.l29 (F:Nat) :Nat→Sl→Sl→Int→Hp→OA
 | 0,_,_,_,_=>none
 | cZ + 1,bM,dj,b_,H7=>(bif (decide (b_ < (bM.n:Int))) then ((Sl.idx bM b_ 1).bind fun p12=>(Hp.ldI H7 .i64 p12.1 p12.2).bind fun n13=>(Sl.idx dj b_ 1).bind fun p14=>(Hp.st H7 p14.1 p14.2 (.int .i64 n13)).bind fun H15=>aI.l29 F cZ bM dj (IntKind.i64.wrap (b_ + 1)) H15) else (some ((.sl dj),H7)))
termination_by structural n=>n
noncomputable def aI.twX (F:Nat) (aa:Sl) (H:Hp):OA:=(Hp.mk H [.int .i64 0] 8 (aa.n:Int) (aa.n:Int)).bind fun m2=>aI.l29 F F aa m2.1 0 m2.2
noncomputable def aI.tw (F:Nat) (aa:Sl) (H:Hp):OA:=aI.twX F aa H
noncomputable def aI.code:Go.Code:=(Try.f31.body).getD .skip
noncomputable def aI.lh29 (F:Nat) (ks:List Nat) (n:Nat) (tm:Tm) (H:Hp):OA:=match ks,tm 0,tm 3,tm 4 with
 | [],(.sl bM),(.sl dj),(.int .i64 b_)=>aI.l29 F n bM dj b_ H
 | _,_,_,_=>none
theorem aI.lh29_inv {F:Nat} {ks:List Nat} {n:Nat} {tm:Tm} {H:Hp} {r:AV×Hp} (h:aI.lh29 F ks n tm H = some r):∃ bM:Sl,∃ dj:Sl,∃ b_:Int,ks = []∧tm 0 = (.sl bM)∧tm 3 = (.sl dj)∧tm 4 = (.int .i64 b_)∧aI.l29 F n bM dj b_ H = some r:=by
 unfold aI.lh29 at h
 split at h
 ·exact ⟨_,_,_,rfl,by assumption,by assumption,by assumption,h⟩
 ·cases h
noncomputable def aI.lh (F:Nat) (p:Nat) (ks:List Nat) (n:Nat) (tm:Tm) (H:Hp):OA:=bif p.beq 29 then aI.lh29 F ks n tm H else (none)
def aI.pn:Nat→List Nat:=fun i=>(([]:List (Nat×List Nat)).lookup i).getD []
def aI.tb:Nat→List (List Nat):=fun i=>(([]:List (Nat×List (List Nat))).lookup i).getD []
noncomputable def aI.mk (g:Sl→Hp→OA) (args:List AV) (H:Hp):OA:=match args with
 | [(.sl aa)]=>g aa H
 | _=>none
noncomputable def aI.cs (F:Nat):List (FuncId×(List AV→Hp→OA)):=[]
theorem aI.loops (F:Nat):LoopsOk tabs (mkOrc (aI.cs F)) aI.pn (aI.lh F) F [] 1 aI.code (fun tm H=>aresults tabs.ty H tm Try.f31.results.toList fun v=>some (v,H)) (fun _ _ _=>none) (fun tm H=>aresults tabs.ty H tm Try.f31.results.toList fun v=>some (v,H)):=by
 refine LoopsOk.seq ?_ ?_
 ·exact loops_none (by kernel_rfl)
 ·refine LoopsOk.seq ?_ ?_
  ·exact loops_none (by kernel_rfl)
  ·refine LoopsOk.seq ?_ ?_
   ·refine LoopsOk.seq ?_ ?_
    ·exact loops_none (by kernel_rfl)
    ·refine LoopsOk.block ?_
     refine LoopsOk.loop (fun tm H=>?_) (fun k29 tm H r h0=>?_) (fun k29=>?_)
     ·refine none_of fun r h0=>?_
      obtain ⟨bM,dj,b_,hks,e0,e3,e4,h⟩:=aI.lh29_inv (show aI.lh29 F [] 0 tm H = some r from h0)
      cases h
     ·obtain ⟨bM,dj,b_,hks,e0,e3,e4,h⟩:=aI.lh29_inv (show aI.lh29 F [] (k29 + 1) tm H = some r from h0)
      have q0:(Tm.put tm 0 (.sl bM)) = tm:=by exact Tm.put_same e0
      have q1:(Tm.put (Tm.put tm 0 (.sl bM)) 3 (.sl dj)) = tm:=by rw [q0]; exact Tm.put_same e3
      have q2:(Tm.put (Tm.put (Tm.put tm 0 (.sl bM)) 3 (.sl dj)) 4 (.int .i64 b_)) = tm:=by rw [q1]; exact Tm.put_same e4
      rw [← q2]
      exact Eq.trans (by kernel_rfl) h
     ·exact loops_none (by kernel_rfl)
   ·exact loops_none (by kernel_rfl)
theorem aI.eqX (F:Nat) (aa:Sl) (H:Hp):aCode tabs (mkOrc (aI.cs F)) aI.pn (aI.lh F) F [] 1 aI.code (argTm [(.sl aa)]) H (fun tm H=>aresults tabs.ty H tm Try.f31.results.toList fun v=>some (v,H)) (fun _ _ _=>none) (fun tm H=>aresults tabs.ty H tm Try.f31.results.toList fun v=>some (v,H)) = aI.twX F aa H:=by kernel_rfl
theorem aI.cs_ok (F:Nat):∀ p ∈ aI.cs F,∀ args H v H',p.2 args H = some (v,H')→Go.AE.T Try.prog p.1 args H v H':=by
 intro p hp
 exact absurd (show p ∈ [] from hp) List.not_mem_nil
theorem aI.ok:codeOk aI.pn Try.f31.ntmps aI.tb aI.code = true:=by kernel_rfl
theorem aI.T {F:Nat} {aa:Sl} {H:Hp} {v:AV} {H':Hp} (h:aI.tw F aa H = some (v,H')):Go.AE.T Try.prog 31 [(.sl aa)] H v H':=
 Go.AE.T.of (Y:=tabs) (C:=mkOrc (aI.cs F)) (PN:=aI.pn) (LH:=aI.lh F) (F:=F) (TB:=aI.tb) (fn:=Try.f31) (code:=aI.code) mixed tabs_ok (mkOrc_ok (aI.cs_ok F)) Try.func31 (by kernel_rfl) (by kernel_rfl) aI.ok (Nat.le_of_ble_eq_true (by kernel_rfl)) (aI.loops F) (Eq.trans (aI.eqX F aa H) h)
theorem aI.mk_T {F:Nat} {args:List AV} {H:Hp} {v:AV} {H':Hp} (h:aI.mk (aI.tw F) args H = some (v,H')):Go.AE.T Try.prog 31 args H v H':=by
 unfold aI.mk at h
 split at h
 ·exact aI.T h
 ·cases h
noncomputable def aY.twX (F:Nat) (aa:Int) (ad:Int) (bQ:Int) (H:Hp):OA:=(bif (decide (aa ≥ ad)) then (some ((.bool (decide (aa ≤ bQ))),H)) else (some ((.bool false),H)))
noncomputable def aY.tw (F:Nat) (aa:Int) (ad:Int) (bQ:Int) (H:Hp):OA:=aY.twX F aa ad bQ H
noncomputable def aY.code:Go.Code:=(Try.f65.body).getD .skip
noncomputable def aY.lh (F:Nat) (p:Nat) (ks:List Nat) (n:Nat) (tm:Tm) (H:Hp):OA:=none
def aY.pn:Nat→List Nat:=fun i=>(([]:List (Nat×List Nat)).lookup i).getD []
def aY.tb:Nat→List (List Nat):=fun i=>(([]:List (Nat×List (List Nat))).lookup i).getD []
noncomputable def aY.mk (g:Int→Int→Int→Hp→OA) (args:List AV) (H:Hp):OA:=match args with
 | [(.int .i64 aa),(.int .i64 ad),(.int .i64 bQ)]=>g aa ad bQ H
 | _=>none
noncomputable def aY.cs (F:Nat):List (FuncId×(List AV→Hp→OA)):=[]
theorem aY.loops (F:Nat):LoopsOk tabs (mkOrc (aY.cs F)) aY.pn (aY.lh F) F [] 1 aY.code (fun tm H=>aresults tabs.ty H tm Try.f65.results.toList fun v=>some (v,H)) (fun _ _ _=>none) (fun tm H=>aresults tabs.ty H tm Try.f65.results.toList fun v=>some (v,H)):=by
 exact loops_none (by kernel_rfl)
theorem aY.eqX (F:Nat) (aa:Int) (ad:Int) (bQ:Int) (H:Hp):aCode tabs (mkOrc (aY.cs F)) aY.pn (aY.lh F) F [] 1 aY.code (argTm [(.int .i64 aa),(.int .i64 ad),(.int .i64 bQ)]) H (fun tm H=>aresults tabs.ty H tm Try.f65.results.toList fun v=>some (v,H)) (fun _ _ _=>none) (fun tm H=>aresults tabs.ty H tm Try.f65.results.toList fun v=>some (v,H)) = aY.twX F aa ad bQ H:=by kernel_rfl
theorem aY.cs_ok (F:Nat):∀ p ∈ aY.cs F,∀ args H v H',p.2 args H = some (v,H')→Go.AE.T Try.prog p.1 args H v H':=by
 intro p hp
 exact absurd (show p ∈ [] from hp) List.not_mem_nil
theorem aY.ok:codeOk aY.pn Try.f65.ntmps aY.tb aY.code = true:=by kernel_rfl
theorem aY.T {F:Nat} {aa:Int} {ad:Int} {bQ:Int} {H:Hp} {v:AV} {H':Hp} (h:aY.tw F aa ad bQ H = some (v,H')):Go.AE.T Try.prog 65 [(.int .i64 aa),(.int .i64 ad),(.int .i64 bQ)] H v H':=
 Go.AE.T.of (Y:=tabs) (C:=mkOrc (aY.cs F)) (PN:=aY.pn) (LH:=aY.lh F) (F:=F) (TB:=aY.tb) (fn:=Try.f65) (code:=aY.code) mixed tabs_ok (mkOrc_ok (aY.cs_ok F)) Try.func65 (by kernel_rfl) (by kernel_rfl) aY.ok (Nat.le_of_ble_eq_true (by kernel_rfl)) (aY.loops F) (Eq.trans (aY.eqX F aa ad bQ H) h)
theorem aY.mk_T {F:Nat} {args:List AV} {H:Hp} {v:AV} {H':Hp} (h:aY.mk (aY.tw F) args H = some (v,H')):Go.AE.T Try.prog 65 args H v H':=by
 unfold aY.mk at h
 split at h
 ·exact aY.T h
 ·cases h
noncomputable def aZ.twX (F:Nat) (aa:Int) (ab:Int) (ah:Int) (az:Int) (ax:Int) (bd:Int) (H:Hp):OA:=(Hp.new H [(.int .i64 aa),(.int .i64 ab),(.int .i64 ah),(.int .i64 az),(.int .i64 ax)]).bind fun H7=>(Hp.ldI H7 .i64 H.length 0).bind fun n8=>(Hp.ldI H7 .i64 H.length 1).bind fun n9=>(Hp.ldI H7 .i64 H.length 2).bind fun n10=>(Hp.ldI H7 .i64 H.length 3).bind fun n11=>(Hp.new H7 [(.int .i64 n8),(.int .i64 n9),(.int .i64 n10),(.int .i64 n11)]).bind fun H12=>(Sl.idx (⟨some (H7.length,0),4,.ex 4⟩:Sl) bd 1).bind fun p13=>(Hp.ldI H12 .i64 p13.1 p13.2).bind fun n14=>some ((.int .i64 n14),H12)
noncomputable def aZ.tw (F:Nat) (aa:Int) (ab:Int) (ah:Int) (az:Int) (ax:Int) (bd:Int) (H:Hp):OA:=aZ.twX F aa ab ah az ax bd H
noncomputable def aZ.code:Go.Code:=(Try.f140.body).getD .skip
noncomputable def aZ.lh (F:Nat) (p:Nat) (ks:List Nat) (n:Nat) (tm:Tm) (H:Hp):OA:=none
def aZ.pn:Nat→List Nat:=fun i=>(([]:List (Nat×List Nat)).lookup i).getD []
def aZ.tb:Nat→List (List Nat):=fun i=>(([]:List (Nat×List (List Nat))).lookup i).getD []
noncomputable def aZ.mk (g:Int→Int→Int→Int→Int→Int→Hp→OA) (args:List AV) (H:Hp):OA:=match args with
 | [(.agg [(.int .i64 aa),(.int .i64 ab),(.int .i64 ah),(.int .i64 az),(.int .i64 ax)]),(.int .i64 bd)]=>g aa ab ah az ax bd H
 | _=>none
noncomputable def aZ.cs (F:Nat):List (FuncId×(List AV→Hp→OA)):=[]
theorem aZ.loops (F:Nat):LoopsOk tabs (mkOrc (aZ.cs F)) aZ.pn (aZ.lh F) F [] 1 aZ.code (fun tm H=>aresults tabs.ty H tm Try.f140.results.toList fun v=>some (v,H)) (fun _ _ _=>none) (fun tm H=>aresults tabs.ty H tm Try.f140.results.toList fun v=>some (v,H)):=by
 exact loops_none (by kernel_rfl)
theorem aZ.eqX (F:Nat) (aa:Int) (ab:Int) (ah:Int) (az:Int) (ax:Int) (bd:Int) (H:Hp):aCode tabs (mkOrc (aZ.cs F)) aZ.pn (aZ.lh F) F [] 1 aZ.code (argTm [(.agg [(.int .i64 aa),(.int .i64 ab),(.int .i64 ah),(.int .i64 az),(.int .i64 ax)]),(.int .i64 bd)]) H (fun tm H=>aresults tabs.ty H tm Try.f140.results.toList fun v=>some (v,H)) (fun _ _ _=>none) (fun tm H=>aresults tabs.ty H tm Try.f140.results.toList fun v=>some (v,H)) = aZ.twX F aa ab ah az ax bd H:=by kernel_rfl
theorem aZ.cs_ok (F:Nat):∀ p ∈ aZ.cs F,∀ args H v H',p.2 args H = some (v,H')→Go.AE.T Try.prog p.1 args H v H':=by
 intro p hp
 exact absurd (show p ∈ [] from hp) List.not_mem_nil
theorem aZ.ok:codeOk aZ.pn Try.f140.ntmps aZ.tb aZ.code = true:=by kernel_rfl
theorem aZ.T {F:Nat} {aa:Int} {ab:Int} {ah:Int} {az:Int} {ax:Int} {bd:Int} {H:Hp} {v:AV} {H':Hp} (h:aZ.tw F aa ab ah az ax bd H = some (v,H')):Go.AE.T Try.prog 140 [(.agg [(.int .i64 aa),(.int .i64 ab),(.int .i64 ah),(.int .i64 az),(.int .i64 ax)]),(.int .i64 bd)] H v H':=
 Go.AE.T.of (Y:=tabs) (C:=mkOrc (aZ.cs F)) (PN:=aZ.pn) (LH:=aZ.lh F) (F:=F) (TB:=aZ.tb) (fn:=Try.f140) (code:=aZ.code) mixed tabs_ok (mkOrc_ok (aZ.cs_ok F)) Try.func140 (by kernel_rfl) (by kernel_rfl) aZ.ok (Nat.le_of_ble_eq_true (by kernel_rfl)) (aZ.loops F) (Eq.trans (aZ.eqX F aa ab ah az ax bd H) h)
theorem aZ.mk_T {F:Nat} {args:List AV} {H:Hp} {v:AV} {H':Hp} (h:aZ.mk (aZ.tw F) args H = some (v,H')):Go.AE.T Try.prog 140 args H v H':=by
 unfold aZ.mk at h
 split at h
 ·exact aZ.T h
 ·cases h
noncomputable def a_.twX (F:Nat) (aa:Int) (ab:Int) (ah:Int) (az:Int) (ax:Int) (bd:Int) (H:Hp):OA:=(Hp.new H [(.int .i64 aa),(.int .i64 ab),(.int .i64 ah),(.int .i64 az),(.int .i64 ax)]).bind fun H7=>(bif (bd == 0) then (some ((.bool true),H7)) else ((bif (bd == 3) then ((Hp.ldI H7 .i64 H.length 4).bind fun n8=>(bif (n8 == 1) then (some ((.bool true),H7)) else ((bif (bd == 1) then ((Hp.ldI H7 .i64 H.length 4).bind fun n9=>some ((.bool (n9 == (-1))),H7)) else (some ((.bool false),H7)))))) else ((bif (bd == 1) then ((Hp.ldI H7 .i64 H.length 4).bind fun n10=>some ((.bool (n10 == (-1))),H7)) else (some ((.bool false),H7)))))))
noncomputable def a_.tw (F:Nat) (aa:Int) (ab:Int) (ah:Int) (az:Int) (ax:Int) (bd:Int) (H:Hp):OA:=a_.twX F aa ab ah az ax bd H
noncomputable def a_.code:Go.Code:=(Try.f141.body).getD .skip
noncomputable def a_.lh (F:Nat) (p:Nat) (ks:List Nat) (n:Nat) (tm:Tm) (H:Hp):OA:=none
def a_.pn:Nat→List Nat:=fun i=>(([]:List (Nat×List Nat)).lookup i).getD []
def a_.tb:Nat→List (List Nat):=fun i=>(([]:List (Nat×List (List Nat))).lookup i).getD []
noncomputable def a_.mk (g:Int→Int→Int→Int→Int→Int→Hp→OA) (args:List AV) (H:Hp):OA:=match args with
 | [(.agg [(.int .i64 aa),(.int .i64 ab),(.int .i64 ah),(.int .i64 az),(.int .i64 ax)]),(.int .i64 bd)]=>g aa ab ah az ax bd H
 | _=>none
noncomputable def a_.cs (F:Nat):List (FuncId×(List AV→Hp→OA)):=[]
theorem a_.loops (F:Nat):LoopsOk tabs (mkOrc (a_.cs F)) a_.pn (a_.lh F) F [] 1 a_.code (fun tm H=>aresults tabs.ty H tm Try.f141.results.toList fun v=>some (v,H)) (fun _ _ _=>none) (fun tm H=>aresults tabs.ty H tm Try.f141.results.toList fun v=>some (v,H)):=by
 exact loops_none (by kernel_rfl)
theorem a_.eqX (F:Nat) (aa:Int) (ab:Int) (ah:Int) (az:Int) (ax:Int) (bd:Int) (H:Hp):aCode tabs (mkOrc (a_.cs F)) a_.pn (a_.lh F) F [] 1 a_.code (argTm [(.agg [(.int .i64 aa),(.int .i64 ab),(.int .i64 ah),(.int .i64 az),(.int .i64 ax)]),(.int .i64 bd)]) H (fun tm H=>aresults tabs.ty H tm Try.f141.results.toList fun v=>some (v,H)) (fun _ _ _=>none) (fun tm H=>aresults tabs.ty H tm Try.f141.results.toList fun v=>some (v,H)) = a_.twX F aa ab ah az ax bd H:=by kernel_rfl
theorem a_.cs_ok (F:Nat):∀ p ∈ a_.cs F,∀ args H v H',p.2 args H = some (v,H')→Go.AE.T Try.prog p.1 args H v H':=by
 intro p hp
 exact absurd (show p ∈ [] from hp) List.not_mem_nil
theorem a_.ok:codeOk a_.pn Try.f141.ntmps a_.tb a_.code = true:=by kernel_rfl
theorem a_.T {F:Nat} {aa:Int} {ab:Int} {ah:Int} {az:Int} {ax:Int} {bd:Int} {H:Hp} {v:AV} {H':Hp} (h:a_.tw F aa ab ah az ax bd H = some (v,H')):Go.AE.T Try.prog 141 [(.agg [(.int .i64 aa),(.int .i64 ab),(.int .i64 ah),(.int .i64 az),(.int .i64 ax)]),(.int .i64 bd)] H v H':=
 Go.AE.T.of (Y:=tabs) (C:=mkOrc (a_.cs F)) (PN:=a_.pn) (LH:=a_.lh F) (F:=F) (TB:=a_.tb) (fn:=Try.f141) (code:=a_.code) mixed tabs_ok (mkOrc_ok (a_.cs_ok F)) Try.func141 (by kernel_rfl) (by kernel_rfl) a_.ok (Nat.le_of_ble_eq_true (by kernel_rfl)) (a_.loops F) (Eq.trans (a_.eqX F aa ab ah az ax bd H) h)
theorem a_.mk_T {F:Nat} {args:List AV} {H:Hp} {v:AV} {H':Hp} (h:a_.mk (a_.tw F) args H = some (v,H')):Go.AE.T Try.prog 141 args H v H':=by
 unfold a_.mk at h
 split at h
 ·exact a_.T h
 ·cases h
noncomputable def ap.l3927 (F:Nat) (aU:Int→Int→Int→Int→Int→Int→Hp→OA) (bf:Int→Int→Int→Hp→OA) (aV:Int→Int→Int→Int→Int→Int→Hp→OA) (C61_:Nat→Nat→Int→Sl→Sl→Int→Hp→OA):Nat→Nat→Nat→Int→Sl→Sl→Int→Nat→Nat→Int→Hp→OA
 | 0,_,_,_,_,_,_,_,_,_,_=>none
 | vU + 1,dV,fF,cV,fG,fP,cu,c_,eB,du,H126=>(bif (decide (du < 4)) then ((Hp.ldI H126 .i64 c_ eB).bind fun n151=>(Hp.ldI H126 .i64 c_ (eB + 1)).bind fun n152=>(Hp.ldI H126 .i64 c_ (eB + 2)).bind fun n153=>(Hp.ldI H126 .i64 c_ (eB + 3)).bind fun n154=>(Hp.ldI H126 .i64 c_ (eB + 4)).bind fun n155=>(aU n151 n152 n153 n154 n155 du H126).bind fun r156=>((r156.1).asI .i64).bind fun n157=>(bf n157 0 (IntKind.i64.wrap (cV - 1)) r156.2).bind fun r158=>((r158.1).asB).bind fun b159=>(bif (!b159) then (some ((.bool false),r158.2)) else ((Hp.ldI r158.2 .i64 c_ eB).bind fun n160=>(Hp.ldI r158.2 .i64 c_ (eB + 1)).bind fun n161=>(Hp.ldI r158.2 .i64 c_ (eB + 2)).bind fun n162=>(Hp.ldI r158.2 .i64 c_ (eB + 3)).bind fun n163=>(Hp.ldI r158.2 .i64 c_ (eB + 4)).bind fun n164=>(aV n160 n161 n162 n163 n164 du r158.2).bind fun r165=>((r165.1).asB).bind fun b166=>(bif b166 then ((Sl.idx fG n157 1).bind fun p167=>(Hp.ldB r165.2 p167.1 p167.2).bind fun b168=>(bif b168 then (some ((.bool false),r165.2)) else ((Sl.idx fG n157 1).bind fun p169=>(Hp.st r165.2 p169.1 p169.2 (.bool true)).bind fun H170=>ap.l3927 F aU bf aV C61_ vU dV fF cV fG fP cu c_ eB (IntKind.i64.wrap (du + 1)) H170))) else ((Sl.idx fP n157 1).bind fun p171=>(Hp.ldB r165.2 p171.1 p171.2).bind fun b172=>(bif b172 then (some ((.bool false),r165.2)) else ((Sl.idx fP n157 1).bind fun p173=>(Hp.st r165.2 p173.1 p173.2 (.bool true)).bind fun H174=>ap.l3927 F aU bf aV C61_ vU dV fF cV fG fP cu c_ eB (IntKind.i64.wrap (du + 1)) H174))))))) else (C61_ dV fF cV fG fP (IntKind.i64.wrap (cu + 1)) H126))
termination_by structural n=>n
noncomputable def ap.l61 (F:Nat) (aU:Int→Int→Int→Int→Int→Int→Hp→OA) (bf:Int→Int→Int→Hp→OA) (aV:Int→Int→Int→Int→Int→Int→Hp→OA) :Nat→Nat→Nat→Int→Sl→Sl→Int→Hp→OA
 | 0,_,_,_,_,_,_,_=>none
 | bj + 1,ch,cb,bN,da,cp,dW,H16=>(Hp.ldSl H16 ch cb).bind fun s96=>(bif (decide (dW < (s96.n:Int))) then ((Hp.ldSl H16 ch cb).bind fun s97=>(Sl.idx s97 dW 5).bind fun p98=>(Hp.ldI H16 .i64 p98.1 p98.2).bind fun n99=>(Hp.ldI H16 .i64 p98.1 (p98.2 + 1)).bind fun n100=>(Hp.ldI H16 .i64 p98.1 (p98.2 + 2)).bind fun n101=>(Hp.ldI H16 .i64 p98.1 (p98.2 + 3)).bind fun n102=>(Hp.ldI H16 .i64 p98.1 (p98.2 + 4)).bind fun n103=>(Hp.new H16 [.int .i64 0,.int .i64 0,.int .i64 0,.int .i64 0,.int .i64 0]).bind fun H104=>(Hp.st H104 H16.length 0 (.int .i64 n99)).bind fun H105=>(Hp.st H105 H16.length (0 + 1) (.int .i64 n100)).bind fun H106=>(Hp.st H106 H16.length (0 + 1 + 1) (.int .i64 n101)).bind fun H107=>(Hp.st H107 H16.length (0 + 1 + 1 + 1) (.int .i64 n102)).bind fun H108=>(Hp.st H108 H16.length (0 + 1 + 1 + 1 + 1) (.int .i64 n103)).bind fun H109=>(Hp.ldI H109 .i64 H16.length 4).bind fun n110=>(bif (n110 != 1) then ((Hp.ldI H109 .i64 H16.length 4).bind fun n111=>(bif (n111 != (-1)) then (some ((.bool false),H109)) else (ap.l3927 F aU bf aV (ap.l61 F aU bf aV bj) F ch cb bN da cp dW H16.length 0 0 H109))) else (ap.l3927 F aU bf aV (ap.l61 F aU bf aV bj) F ch cb bN da cp dW H16.length 0 0 H109))) else (some ((.bool true),H16)))
termination_by structural n=>n
noncomputable def ap.twX (F:Nat) (aU:Int→Int→Int→Int→Int→Int→Hp→OA) (bf:Int→Int→Int→Hp→OA) (aV:Int→Int→Int→Int→Int→Int→Hp→OA) (aa:Sl) (ab:Int) (H:Hp):OA:=(Hp.new H [(.sl aa),(.int .i64 ab)]).bind fun H3=>(Hp.ldSl H3 H.length 0).bind fun s4=>(Hp.mk H3 [.bool false] 1 (IntKind.i64.wrap (2 * (s4.n:Int))) (IntKind.i64.wrap (2 * (s4.n:Int)))).bind fun m5=>(Hp.mk m5.2 [.bool false] 1 (IntKind.i64.wrap (2 * (s4.n:Int))) (IntKind.i64.wrap (2 * (s4.n:Int)))).bind fun m6=>ap.l61 F aU bf aV F H.length 0 (IntKind.i64.wrap (2 * (s4.n:Int))) m5.1 m6.1 0 m6.2
noncomputable def ap.tw (F:Nat) (aa:Sl) (ab:Int) (H:Hp):OA:=ap.twX F (aZ.tw F) (aY.tw F) (a_.tw F) aa ab H
noncomputable def ap.code:Go.Code:=(Try.f104.body).getD .skip
noncomputable def ap.lh61 (F:Nat) (aU:Int→Int→Int→Int→Int→Int→Hp→OA) (bf:Int→Int→Int→Hp→OA) (aV:Int→Int→Int→Int→Int→Int→Hp→OA) (ks:List Nat) (n:Nat) (tm:Tm) (H:Hp):OA:=match ks,tm 1,tm 3,tm 4,tm 5,tm 6 with
 | [],(.ptr ch cb),(.int .i64 bN),(.sl da),(.sl cp),(.int .i64 dW)=>ap.l61 F aU bf aV n ch cb bN da cp dW H
 | _,_,_,_,_,_=>none
theorem ap.lh61_inv {F:Nat} {aU:Int→Int→Int→Int→Int→Int→Hp→OA} {bf:Int→Int→Int→Hp→OA} {aV:Int→Int→Int→Int→Int→Int→Hp→OA} {ks:List Nat} {n:Nat} {tm:Tm} {H:Hp} {r:AV×Hp} (h:ap.lh61 F aU bf aV ks n tm H = some r):∃ ch:Nat,∃ cb:Nat,∃ bN:Int,∃ da:Sl,∃ cp:Sl,∃ dW:Int,ks = []∧tm 1 = (.ptr ch cb)∧tm 3 = (.int .i64 bN)∧tm 4 = (.sl da)∧tm 5 = (.sl cp)∧tm 6 = (.int .i64 dW)∧ap.l61 F aU bf aV n ch cb bN da cp dW H = some r:=by
 unfold ap.lh61 at h
 split at h
 ·exact ⟨_,_,_,_,_,_,rfl,by assumption,by assumption,by assumption,by assumption,by assumption,h⟩
 ·cases h
noncomputable def ap.lh3927 (F:Nat) (aU:Int→Int→Int→Int→Int→Int→Hp→OA) (bf:Int→Int→Int→Hp→OA) (aV:Int→Int→Int→Int→Int→Int→Hp→OA) (ks:List Nat) (n:Nat) (tm:Tm) (H:Hp):OA:=match ks,tm 1,tm 3,tm 4,tm 5,tm 6,tm 7,tm 8 with
 | [bj],(.ptr dV fF),(.int .i64 cV),(.sl fG),(.sl fP),(.int .i64 cu),(.ptr c_ eB),(.int .i64 du)=>ap.l3927 F aU bf aV (ap.l61 F aU bf aV bj) n dV fF cV fG fP cu c_ eB du H
 | _,_,_,_,_,_,_,_=>none
theorem ap.lh3927_inv {F:Nat} {aU:Int→Int→Int→Int→Int→Int→Hp→OA} {bf:Int→Int→Int→Hp→OA} {aV:Int→Int→Int→Int→Int→Int→Hp→OA} {ks:List Nat} {n:Nat} {tm:Tm} {H:Hp} {r:AV×Hp} (h:ap.lh3927 F aU bf aV ks n tm H = some r):∃ bj:Nat,∃ dV:Nat,∃ fF:Nat,∃ cV:Int,∃ fG:Sl,∃ fP:Sl,∃ cu:Int,∃ c_:Nat,∃ eB:Nat,∃ du:Int,ks = [bj]∧tm 1 = (.ptr dV fF)∧tm 3 = (.int .i64 cV)∧tm 4 = (.sl fG)∧tm 5 = (.sl fP)∧tm 6 = (.int .i64 cu)∧tm 7 = (.ptr c_ eB)∧tm 8 = (.int .i64 du)∧ap.l3927 F aU bf aV (ap.l61 F aU bf aV bj) n dV fF cV fG fP cu c_ eB du H = some r:=by
 unfold ap.lh3927 at h
 split at h
 ·exact ⟨_,_,_,_,_,_,_,_,_,_,rfl,by assumption,by assumption,by assumption,by assumption,by assumption,by assumption,by assumption,h⟩
 ·cases h
noncomputable def ap.lh (F:Nat) (aU:Int→Int→Int→Int→Int→Int→Hp→OA) (bf:Int→Int→Int→Hp→OA) (aV:Int→Int→Int→Int→Int→Int→Hp→OA) (p:Nat) (ks:List Nat) (n:Nat) (tm:Tm) (H:Hp):OA:=bif p.beq 3927 then ap.lh3927 F aU bf aV ks n tm H else (bif p.beq 61 then ap.lh61 F aU bf aV ks n tm H else (none))
def ap.pn:Nat→List Nat:=fun i=>(([(2,[])]:List (Nat×List Nat)).lookup i).getD []
def ap.tb:Nat→List (List Nat):=fun i=>(([(2,[[],[0],[],[2],[0,1],[0,1,2,3,4]])]:List (Nat×List (List Nat))).lookup i).getD []
noncomputable def ap.mk (g:Sl→Int→Hp→OA) (args:List AV) (H:Hp):OA:=match args with
 | [(.agg [(.sl aa),(.int .i64 ab)])]=>g aa ab H
 | _=>none
noncomputable def ap.cs (F:Nat) (aU:Int→Int→Int→Int→Int→Int→Hp→OA) (bf:Int→Int→Int→Hp→OA) (aV:Int→Int→Int→Int→Int→Int→Hp→OA):List (FuncId×(List AV→Hp→OA)):=[(140,aZ.mk aU),(65,aY.mk bf),(141,a_.mk aV)]
theorem ap.loops (F:Nat) (aU:Int→Int→Int→Int→Int→Int→Hp→OA) (bf:Int→Int→Int→Hp→OA) (aV:Int→Int→Int→Int→Int→Int→Hp→OA):LoopsOk tabs (mkOrc (ap.cs F aU bf aV)) ap.pn (ap.lh F aU bf aV) F [] 1 ap.code (fun tm H=>aresults tabs.ty H tm Try.f104.results.toList fun v=>some (v,H)) (fun _ _ _=>none) (fun tm H=>aresults tabs.ty H tm Try.f104.results.toList fun v=>some (v,H)):=by
 refine LoopsOk.seq ?_ ?_
 ·exact loops_none (by kernel_rfl)
 ·refine LoopsOk.seq ?_ ?_
  ·exact loops_none (by kernel_rfl)
  ·refine LoopsOk.seq ?_ ?_
   ·exact loops_none (by kernel_rfl)
   ·refine LoopsOk.seq ?_ ?_
    ·refine LoopsOk.seq ?_ ?_
     ·exact loops_none (by kernel_rfl)
     ·refine LoopsOk.block ?_
      refine LoopsOk.loop (fun tm H=>?_) (fun k61 tm H r h0=>?_) (fun k61=>?_)
      ·refine none_of fun r h0=>?_
       obtain ⟨ch,cb,bN,da,cp,dW,hks,e1,e3,e4,e5,e6,h⟩:=ap.lh61_inv (show ap.lh61 F aU bf aV [] 0 tm H = some r from h0)
       cases h
      ·obtain ⟨ch,cb,bN,da,cp,dW,hks,e1,e3,e4,e5,e6,h⟩:=ap.lh61_inv (show ap.lh61 F aU bf aV [] (k61 + 1) tm H = some r from h0)
       have q0:(Tm.put tm 1 (.ptr ch cb)) = tm:=by exact Tm.put_same e1
       have q1:(Tm.put (Tm.put tm 1 (.ptr ch cb)) 3 (.int .i64 bN)) = tm:=by rw [q0]; exact Tm.put_same e3
       have q2:(Tm.put (Tm.put (Tm.put tm 1 (.ptr ch cb)) 3 (.int .i64 bN)) 4 (.sl da)) = tm:=by rw [q1]; exact Tm.put_same e4
       have q3:(Tm.put (Tm.put (Tm.put (Tm.put tm 1 (.ptr ch cb)) 3 (.int .i64 bN)) 4 (.sl da)) 5 (.sl cp)) = tm:=by rw [q2]; exact Tm.put_same e5
       have q4:(Tm.put (Tm.put (Tm.put (Tm.put (Tm.put tm 1 (.ptr ch cb)) 3 (.int .i64 bN)) 4 (.sl da)) 5 (.sl cp)) 6 (.int .i64 dW)) = tm:=by rw [q3]; exact Tm.put_same e6
       rw [← q4]
       exact Eq.trans (by kernel_rfl) h
      ·refine LoopsOk.seq ?_ ?_
       ·exact loops_none (by kernel_rfl)
       ·refine LoopsOk.seq ?_ ?_
        ·refine LoopsOk.block ?_
         refine LoopsOk.seq ?_ ?_
         ·exact loops_none (by kernel_rfl)
         ·refine LoopsOk.seq ?_ ?_
          ·exact loops_none (by kernel_rfl)
          ·refine LoopsOk.seq ?_ ?_
           ·exact loops_none (by kernel_rfl)
           ·refine LoopsOk.block ?_
            refine LoopsOk.loop (fun tm H=>?_) (fun k3927 tm H r h0=>?_) (fun k3927=>?_)
            ·refine none_of fun r h0=>?_
             obtain ⟨bj,dV,fF,cV,fG,fP,cu,c_,eB,du,hks,e1,e3,e4,e5,e6,e7,e8,h⟩:=ap.lh3927_inv (show ap.lh3927 F aU bf aV [k61] 0 tm H = some r from h0)
             cases h
            ·obtain ⟨bj,dV,fF,cV,fG,fP,cu,c_,eB,du,hks,e1,e3,e4,e5,e6,e7,e8,h⟩:=ap.lh3927_inv (show ap.lh3927 F aU bf aV [k61] (k3927 + 1) tm H = some r from h0)
             obtain rfl:bj = k61:=by simpa [eq_comm] using hks
             have q0:(Tm.put tm 1 (.ptr dV fF)) = tm:=by exact Tm.put_same e1
             have q1:(Tm.put (Tm.put tm 1 (.ptr dV fF)) 3 (.int .i64 cV)) = tm:=by rw [q0]; exact Tm.put_same e3
             have q2:(Tm.put (Tm.put (Tm.put tm 1 (.ptr dV fF)) 3 (.int .i64 cV)) 4 (.sl fG)) = tm:=by rw [q1]; exact Tm.put_same e4
             have q3:(Tm.put (Tm.put (Tm.put (Tm.put tm 1 (.ptr dV fF)) 3 (.int .i64 cV)) 4 (.sl fG)) 5 (.sl fP)) = tm:=by rw [q2]; exact Tm.put_same e5
             have q4:(Tm.put (Tm.put (Tm.put (Tm.put (Tm.put tm 1 (.ptr dV fF)) 3 (.int .i64 cV)) 4 (.sl fG)) 5 (.sl fP)) 6 (.int .i64 cu)) = tm:=by rw [q3]; exact Tm.put_same e6
             have q5:(Tm.put (Tm.put (Tm.put (Tm.put (Tm.put (Tm.put tm 1 (.ptr dV fF)) 3 (.int .i64 cV)) 4 (.sl fG)) 5 (.sl fP)) 6 (.int .i64 cu)) 7 (.ptr c_ eB)) = tm:=by rw [q4]; exact Tm.put_same e7
             have q6:(Tm.put (Tm.put (Tm.put (Tm.put (Tm.put (Tm.put (Tm.put tm 1 (.ptr dV fF)) 3 (.int .i64 cV)) 4 (.sl fG)) 5 (.sl fP)) 6 (.int .i64 cu)) 7 (.ptr c_ eB)) 8 (.int .i64 du)) = tm:=by rw [q5]; exact Tm.put_same e8
             rw [← q6]
             exact Eq.trans (by kernel_rfl) h
            ·exact loops_none (by kernel_rfl)
        ·exact loops_none (by kernel_rfl)
    ·exact loops_none (by kernel_rfl)
theorem ap.eqX (F:Nat) (aU:Int→Int→Int→Int→Int→Int→Hp→OA) (bf:Int→Int→Int→Hp→OA) (aV:Int→Int→Int→Int→Int→Int→Hp→OA) (aa:Sl) (ab:Int) (H:Hp):aCode tabs (mkOrc (ap.cs F aU bf aV)) ap.pn (ap.lh F aU bf aV) F [] 1 ap.code (argTm [(.agg [(.sl aa),(.int .i64 ab)])]) H (fun tm H=>aresults tabs.ty H tm Try.f104.results.toList fun v=>some (v,H)) (fun _ _ _=>none) (fun tm H=>aresults tabs.ty H tm Try.f104.results.toList fun v=>some (v,H)) = ap.twX F aU bf aV aa ab H:=by kernel_rfl
theorem ap.cs_ok (F:Nat):∀ p ∈ ap.cs F (aZ.tw F) (aY.tw F) (a_.tw F),∀ args H v H',p.2 args H = some (v,H')→Go.AE.T Try.prog p.1 args H v H':=by
 intro p hp
 simp only [ap.cs,List.mem_cons,List.not_mem_nil,or_false] at hp
 rcases hp with rfl | rfl | rfl
 ·exact fun args H v H' h=>aZ.mk_T h
 ·exact fun args H v H' h=>aY.mk_T h
 ·exact fun args H v H' h=>a_.mk_T h
theorem ap.ok:codeOk ap.pn Try.f104.ntmps ap.tb ap.code = true:=by kernel_rfl
theorem ap.T {F:Nat} {aa:Sl} {ab:Int} {H:Hp} {v:AV} {H':Hp} (h:ap.tw F aa ab H = some (v,H')):Go.AE.T Try.prog 104 [(.agg [(.sl aa),(.int .i64 ab)])] H v H':=
 Go.AE.T.of (Y:=tabs) (C:=mkOrc (ap.cs F (aZ.tw F) (aY.tw F) (a_.tw F))) (PN:=ap.pn) (LH:=ap.lh F (aZ.tw F) (aY.tw F) (a_.tw F)) (F:=F) (TB:=ap.tb) (fn:=Try.f104) (code:=ap.code) mixed tabs_ok (mkOrc_ok (ap.cs_ok F)) Try.func104 (by kernel_rfl) (by kernel_rfl) ap.ok (Nat.le_of_ble_eq_true (by kernel_rfl)) (ap.loops F (aZ.tw F) (aY.tw F) (a_.tw F)) (Eq.trans (ap.eqX F (aZ.tw F) (aY.tw F) (a_.tw F) aa ab H) h)
theorem ap.mk_T {F:Nat} {args:List AV} {H:Hp} {v:AV} {H':Hp} (h:ap.mk (ap.tw F) args H = some (v,H')):Go.AE.T Try.prog 104 args H v H':=by
 unfold ap.mk at h
 split at h
 ·exact ap.T h
 ·cases h
noncomputable def ai.j3 (F:Nat) (aU:Int→Int→Int→Int→Int→Int→Hp→OA) (aV:Int→Int→Int→Int→Int→Int→Hp→OA) (C13_:Int→Bool→Nat→Nat→Int→Hp→OA) (ju:Int) (kN:Bool) (kO:Nat) (Bq:Nat) (kP:Int) (H147:Hp):OA:=C13_ ju kN kO Bq (IntKind.i64.wrap (kP + 1)) H147
noncomputable def ai.j4 (F:Nat) (aU:Int→Int→Int→Int→Int→Int→Hp→OA) (aV:Int→Int→Int→Int→Int→Int→Hp→OA) (C13_:Int→Bool→Nat→Nat→Int→Hp→OA) (kQ:Int) (kR:Bool) (pc:Nat) (Br:Nat) (kS:Int) (H134:Hp):OA:=ai.j3 F aU aV C13_ kQ kR pc Br kS H134
noncomputable def ai.l213 (F:Nat) (aU:Int→Int→Int→Int→Int→Int→Hp→OA) (aV:Int→Int→Int→Int→Int→Int→Hp→OA) (C13_:Int→Bool→Nat→Nat→Int→Hp→OA):Nat→Int→Bool→Nat→Nat→Int→Int→Hp→OA
 | 0,_,_,_,_,_,_,_=>none
 | vV + 1,db,dk,eG,fY,cW,dc,H103=>(bif (decide (dc < 4)) then ((Hp.ldSl H103 eG fY).bind fun s148=>(Sl.idx s148 cW 5).bind fun p149=>(Hp.ldI H103 .i64 p149.1 p149.2).bind fun n150=>(Hp.ldI H103 .i64 p149.1 (p149.2 + 1)).bind fun n151=>(Hp.ldI H103 .i64 p149.1 (p149.2 + 2)).bind fun n152=>(Hp.ldI H103 .i64 p149.1 (p149.2 + 3)).bind fun n153=>(Hp.ldI H103 .i64 p149.1 (p149.2 + 4)).bind fun n154=>(aU n150 n151 n152 n153 n154 dc H103).bind fun r155=>((r155.1).asI .i64).bind fun n156=>(bif (n156 == db) then ((Hp.ldSl r155.2 eG fY).bind fun s157=>(Sl.idx s157 cW 5).bind fun p158=>(Hp.ldI r155.2 .i64 p158.1 p158.2).bind fun n159=>(Hp.ldI r155.2 .i64 p158.1 (p158.2 + 1)).bind fun n160=>(Hp.ldI r155.2 .i64 p158.1 (p158.2 + 2)).bind fun n161=>(Hp.ldI r155.2 .i64 p158.1 (p158.2 + 3)).bind fun n162=>(Hp.ldI r155.2 .i64 p158.1 (p158.2 + 4)).bind fun n163=>(aV n159 n160 n161 n162 n163 dc r155.2).bind fun r164=>((r164.1).asB).bind fun b165=>(bif (b165 == dk) then (some ((.tup [(.int .i64 cW),(.int .i64 dc)]),r164.2)) else (ai.l213 F aU aV C13_ vV db dk eG fY cW (IntKind.i64.wrap (dc + 1)) r164.2))) else (ai.l213 F aU aV C13_ vV db dk eG fY cW (IntKind.i64.wrap (dc + 1)) r155.2))) else (ai.j4 F aU aV C13_ db dk eG fY cW H103))
termination_by structural n=>n
noncomputable def ai.l13 (F:Nat) (aU:Int→Int→Int→Int→Int→Int→Hp→OA) (aV:Int→Int→Int→Int→Int→Int→Hp→OA) :Nat→Int→Bool→Nat→Nat→Int→Hp→OA
 | 0,_,_,_,_,_,_=>none
 | fZ + 1,bV,fu,cL,cw,fv,H15=>(Hp.ldSl H15 cL cw).bind fun s91=>(bif (decide (fv < (s91.n:Int))) then (ai.l213 F aU aV (ai.l13 F aU aV fZ) F bV fu cL cw fv 0 H15) else (some ((.tup [(.int .i64 (-1)),(.int .i64 (-1))]),H15)))
termination_by structural n=>n
noncomputable def ai.twX (F:Nat) (aU:Int→Int→Int→Int→Int→Int→Hp→OA) (aV:Int→Int→Int→Int→Int→Int→Hp→OA) (aa:Sl) (ab:Int) (af:Int) (bJ:Bool) (H:Hp):OA:=(Hp.new H [(.sl aa),(.int .i64 ab)]).bind fun H5=>ai.l13 F aU aV F af bJ H.length 0 0 H5
noncomputable def ai.tw (F:Nat) (aa:Sl) (ab:Int) (af:Int) (bJ:Bool) (H:Hp):OA:=ai.twX F (aZ.tw F) (a_.tw F) aa ab af bJ H
noncomputable def ai.code:Go.Code:=(Try.f152.body).getD .skip
noncomputable def ai.lh13 (F:Nat) (aU:Int→Int→Int→Int→Int→Int→Hp→OA) (aV:Int→Int→Int→Int→Int→Int→Hp→OA) (ks:List Nat) (n:Nat) (tm:Tm) (H:Hp):OA:=match ks,tm 1,tm 2,tm 3,tm 8 with
 | [],(.int .i64 bV),(.bool fu),(.ptr cL cw),(.int .i64 fv)=>ai.l13 F aU aV n bV fu cL cw fv H
 | _,_,_,_,_=>none
theorem ai.lh13_inv {F:Nat} {aU:Int→Int→Int→Int→Int→Int→Hp→OA} {aV:Int→Int→Int→Int→Int→Int→Hp→OA} {ks:List Nat} {n:Nat} {tm:Tm} {H:Hp} {r:AV×Hp} (h:ai.lh13 F aU aV ks n tm H = some r):∃ bV:Int,∃ fu:Bool,∃ cL:Nat,∃ cw:Nat,∃ fv:Int,ks = []∧tm 1 = (.int .i64 bV)∧tm 2 = (.bool fu)∧tm 3 = (.ptr cL cw)∧tm 8 = (.int .i64 fv)∧ai.l13 F aU aV n bV fu cL cw fv H = some r:=by
 unfold ai.lh13 at h
 split at h
 ·exact ⟨_,_,_,_,_,rfl,by assumption,by assumption,by assumption,by assumption,h⟩
 ·cases h
noncomputable def ai.lh213 (F:Nat) (aU:Int→Int→Int→Int→Int→Int→Hp→OA) (aV:Int→Int→Int→Int→Int→Int→Hp→OA) (ks:List Nat) (n:Nat) (tm:Tm) (H:Hp):OA:=match ks,tm 1,tm 2,tm 3,tm 8,tm 9 with
 | [fZ],(.int .i64 db),(.bool dk),(.ptr eG fY),(.int .i64 cW),(.int .i64 dc)=>ai.l213 F aU aV (ai.l13 F aU aV fZ) n db dk eG fY cW dc H
 | _,_,_,_,_,_=>none
theorem ai.lh213_inv {F:Nat} {aU:Int→Int→Int→Int→Int→Int→Hp→OA} {aV:Int→Int→Int→Int→Int→Int→Hp→OA} {ks:List Nat} {n:Nat} {tm:Tm} {H:Hp} {r:AV×Hp} (h:ai.lh213 F aU aV ks n tm H = some r):∃ fZ:Nat,∃ db:Int,∃ dk:Bool,∃ eG:Nat,∃ fY:Nat,∃ cW:Int,∃ dc:Int,ks = [fZ]∧tm 1 = (.int .i64 db)∧tm 2 = (.bool dk)∧tm 3 = (.ptr eG fY)∧tm 8 = (.int .i64 cW)∧tm 9 = (.int .i64 dc)∧ai.l213 F aU aV (ai.l13 F aU aV fZ) n db dk eG fY cW dc H = some r:=by
 unfold ai.lh213 at h
 split at h
 ·exact ⟨_,_,_,_,_,_,_,rfl,by assumption,by assumption,by assumption,by assumption,by assumption,h⟩
 ·cases h
noncomputable def ai.lh (F:Nat) (aU:Int→Int→Int→Int→Int→Int→Hp→OA) (aV:Int→Int→Int→Int→Int→Int→Hp→OA) (p:Nat) (ks:List Nat) (n:Nat) (tm:Tm) (H:Hp):OA:=bif p.beq 213 then ai.lh213 F aU aV ks n tm H else (bif p.beq 13 then ai.lh13 F aU aV ks n tm H else (none))
def ai.pn:Nat→List Nat:=fun i=>(([]:List (Nat×List Nat)).lookup i).getD []
def ai.tb:Nat→List (List Nat):=fun i=>(([]:List (Nat×List (List Nat))).lookup i).getD []
noncomputable def ai.mk (g:Sl→Int→Int→Bool→Hp→OA) (args:List AV) (H:Hp):OA:=match args with
 | [(.agg [(.sl aa),(.int .i64 ab)]),(.int .i64 af),(.bool bJ)]=>g aa ab af bJ H
 | _=>none
noncomputable def ai.cs (F:Nat) (aU:Int→Int→Int→Int→Int→Int→Hp→OA) (aV:Int→Int→Int→Int→Int→Int→Hp→OA):List (FuncId×(List AV→Hp→OA)):=[(140,aZ.mk aU),(141,a_.mk aV)]
theorem ai.loops (F:Nat) (aU:Int→Int→Int→Int→Int→Int→Hp→OA) (aV:Int→Int→Int→Int→Int→Int→Hp→OA):LoopsOk tabs (mkOrc (ai.cs F aU aV)) ai.pn (ai.lh F aU aV) F [] 1 ai.code (fun tm H=>aresults tabs.ty H tm Try.f152.results.toList fun v=>some (v,H)) (fun _ _ _=>none) (fun tm H=>aresults tabs.ty H tm Try.f152.results.toList fun v=>some (v,H)):=by
 refine LoopsOk.seq ?_ ?_
 ·exact loops_none (by kernel_rfl)
 ·refine LoopsOk.seq ?_ ?_
  ·refine LoopsOk.seq ?_ ?_
   ·exact loops_none (by kernel_rfl)
   ·refine LoopsOk.block ?_
    refine LoopsOk.loop (fun tm H=>?_) (fun k13 tm H r h0=>?_) (fun k13=>?_)
    ·refine none_of fun r h0=>?_
     obtain ⟨bV,fu,cL,cw,fv,hks,e1,e2,e3,e8,h⟩:=ai.lh13_inv (show ai.lh13 F aU aV [] 0 tm H = some r from h0)
     cases h
    ·obtain ⟨bV,fu,cL,cw,fv,hks,e1,e2,e3,e8,h⟩:=ai.lh13_inv (show ai.lh13 F aU aV [] (k13 + 1) tm H = some r from h0)
     have q0:(Tm.put tm 1 (.int .i64 bV)) = tm:=by exact Tm.put_same e1
     have q1:(Tm.put (Tm.put tm 1 (.int .i64 bV)) 2 (.bool fu)) = tm:=by rw [q0]; exact Tm.put_same e2
     have q2:(Tm.put (Tm.put (Tm.put tm 1 (.int .i64 bV)) 2 (.bool fu)) 3 (.ptr cL cw)) = tm:=by rw [q1]; exact Tm.put_same e3
     have q3:(Tm.put (Tm.put (Tm.put (Tm.put tm 1 (.int .i64 bV)) 2 (.bool fu)) 3 (.ptr cL cw)) 8 (.int .i64 fv)) = tm:=by rw [q2]; exact Tm.put_same e8
     rw [← q3]
     exact Eq.trans (by kernel_rfl) h
    ·refine LoopsOk.seq ?_ ?_
     ·exact loops_none (by kernel_rfl)
     ·refine LoopsOk.seq ?_ ?_
      ·refine LoopsOk.block ?_
       refine LoopsOk.seq ?_ ?_
       ·exact loops_none (by kernel_rfl)
       ·refine LoopsOk.block ?_
        refine LoopsOk.loop (fun tm H=>?_) (fun k213 tm H r h0=>?_) (fun k213=>?_)
        ·refine none_of fun r h0=>?_
         obtain ⟨fZ,db,dk,eG,fY,cW,dc,hks,e1,e2,e3,e8,e9,h⟩:=ai.lh213_inv (show ai.lh213 F aU aV [k13] 0 tm H = some r from h0)
         cases h
        ·obtain ⟨fZ,db,dk,eG,fY,cW,dc,hks,e1,e2,e3,e8,e9,h⟩:=ai.lh213_inv (show ai.lh213 F aU aV [k13] (k213 + 1) tm H = some r from h0)
         obtain rfl:fZ = k13:=by simpa [eq_comm] using hks
         have q0:(Tm.put tm 1 (.int .i64 db)) = tm:=by exact Tm.put_same e1
         have q1:(Tm.put (Tm.put tm 1 (.int .i64 db)) 2 (.bool dk)) = tm:=by rw [q0]; exact Tm.put_same e2
         have q2:(Tm.put (Tm.put (Tm.put tm 1 (.int .i64 db)) 2 (.bool dk)) 3 (.ptr eG fY)) = tm:=by rw [q1]; exact Tm.put_same e3
         have q3:(Tm.put (Tm.put (Tm.put (Tm.put tm 1 (.int .i64 db)) 2 (.bool dk)) 3 (.ptr eG fY)) 8 (.int .i64 cW)) = tm:=by rw [q2]; exact Tm.put_same e8
         have q4:(Tm.put (Tm.put (Tm.put (Tm.put (Tm.put tm 1 (.int .i64 db)) 2 (.bool dk)) 3 (.ptr eG fY)) 8 (.int .i64 cW)) 9 (.int .i64 dc)) = tm:=by rw [q3]; exact Tm.put_same e9
         rw [← q4]
         exact Eq.trans (by kernel_rfl) h
        ·exact loops_none (by kernel_rfl)
      ·exact loops_none (by kernel_rfl)
  ·exact loops_none (by kernel_rfl)
theorem ai.eqX (F:Nat) (aU:Int→Int→Int→Int→Int→Int→Hp→OA) (aV:Int→Int→Int→Int→Int→Int→Hp→OA) (aa:Sl) (ab:Int) (af:Int) (bJ:Bool) (H:Hp):aCode tabs (mkOrc (ai.cs F aU aV)) ai.pn (ai.lh F aU aV) F [] 1 ai.code (argTm [(.agg [(.sl aa),(.int .i64 ab)]),(.int .i64 af),(.bool bJ)]) H (fun tm H=>aresults tabs.ty H tm Try.f152.results.toList fun v=>some (v,H)) (fun _ _ _=>none) (fun tm H=>aresults tabs.ty H tm Try.f152.results.toList fun v=>some (v,H)) = ai.twX F aU aV aa ab af bJ H:=by kernel_rfl
theorem ai.cs_ok (F:Nat):∀ p ∈ ai.cs F (aZ.tw F) (a_.tw F),∀ args H v H',p.2 args H = some (v,H')→Go.AE.T Try.prog p.1 args H v H':=by
 intro p hp
 simp only [ai.cs,List.mem_cons,List.not_mem_nil,or_false] at hp
 rcases hp with rfl | rfl
 ·exact fun args H v H' h=>aZ.mk_T h
 ·exact fun args H v H' h=>a_.mk_T h
theorem ai.ok:codeOk ai.pn Try.f152.ntmps ai.tb ai.code = true:=by kernel_rfl
theorem ai.T {F:Nat} {aa:Sl} {ab:Int} {af:Int} {bJ:Bool} {H:Hp} {v:AV} {H':Hp} (h:ai.tw F aa ab af bJ H = some (v,H')):Go.AE.T Try.prog 152 [(.agg [(.sl aa),(.int .i64 ab)]),(.int .i64 af),(.bool bJ)] H v H':=
 Go.AE.T.of (Y:=tabs) (C:=mkOrc (ai.cs F (aZ.tw F) (a_.tw F))) (PN:=ai.pn) (LH:=ai.lh F (aZ.tw F) (a_.tw F)) (F:=F) (TB:=ai.tb) (fn:=Try.f152) (code:=ai.code) mixed tabs_ok (mkOrc_ok (ai.cs_ok F)) Try.func152 (by kernel_rfl) (by kernel_rfl) ai.ok (Nat.le_of_ble_eq_true (by kernel_rfl)) (ai.loops F (aZ.tw F) (a_.tw F)) (Eq.trans (ai.eqX F (aZ.tw F) (a_.tw F) aa ab af bJ H) h)
theorem ai.mk_T {F:Nat} {args:List AV} {H:Hp} {v:AV} {H':Hp} (h:ai.mk (ai.tw F) args H = some (v,H')):Go.AE.T Try.prog 152 args H v H':=by
 unfold ai.mk at h
 split at h
 ·exact ai.T h
 ·cases h
noncomputable def bn.twX (F:Nat) (aU:Int→Int→Int→Int→Int→Int→Hp→OA) (aV:Int→Int→Int→Int→Int→Int→Hp→OA) (bl:Sl→Int→Int→Bool→Hp→OA) (aa:Sl) (ab:Int) (af:Int) (H:Hp):OA:=(Hp.new H [(.sl aa),(.int .i64 ab)]).bind fun H4=>(Hp.ldSl H4 H.length 0).bind fun s5=>(Sl.idx s5 (IntKind.i64.wrap (Int.tdiv af 4)) 5).bind fun p6=>(Hp.ldI H4 .i64 p6.1 p6.2).bind fun n7=>(Hp.ldI H4 .i64 p6.1 (p6.2 + 1)).bind fun n8=>(Hp.ldI H4 .i64 p6.1 (p6.2 + 2)).bind fun n9=>(Hp.ldI H4 .i64 p6.1 (p6.2 + 3)).bind fun n10=>(Hp.ldI H4 .i64 p6.1 (p6.2 + 4)).bind fun n11=>(Hp.new H4 [.int .i64 0,.int .i64 0,.int .i64 0,.int .i64 0,.int .i64 0]).bind fun H12=>(Hp.st H12 H4.length 0 (.int .i64 n7)).bind fun H13=>(Hp.st H13 H4.length (0 + 1) (.int .i64 n8)).bind fun H14=>(Hp.st H14 H4.length (0 + 1 + 1) (.int .i64 n9)).bind fun H15=>(Hp.st H15 H4.length (0 + 1 + 1 + 1) (.int .i64 n10)).bind fun H16=>(Hp.st H16 H4.length (0 + 1 + 1 + 1 + 1) (.int .i64 n11)).bind fun H17=>(Hp.ldSl H17 H.length 0).bind fun s18=>(Hp.ldI H17 .i64 H.length (0 + 1)).bind fun n19=>(Hp.ldI H17 .i64 H4.length 0).bind fun n20=>(Hp.ldI H17 .i64 H4.length (0 + 1)).bind fun n21=>(Hp.ldI H17 .i64 H4.length (0 + 2)).bind fun n22=>(Hp.ldI H17 .i64 H4.length (0 + 3)).bind fun n23=>(Hp.ldI H17 .i64 H4.length (0 + 4)).bind fun n24=>(aU n20 n21 n22 n23 n24 (Int.tmod (IntKind.i64.wrap ((Int.tmod af 4) + 1)) 4) H17).bind fun r25=>((r25.1).asI .i64).bind fun n26=>(if Cons H17 r25.2 then ((Hp.ldI r25.2 .i64 H4.length 0).bind fun n27=>(Hp.ldI r25.2 .i64 H4.length (0 + 1)).bind fun n28=>(Hp.ldI r25.2 .i64 H4.length (0 + 2)).bind fun n29=>(Hp.ldI r25.2 .i64 H4.length (0 + 3)).bind fun n30=>(Hp.ldI r25.2 .i64 H4.length (0 + 4)).bind fun n31=>(aV n27 n28 n29 n30 n31 (Int.tmod (IntKind.i64.wrap ((Int.tmod af 4) + 1)) 4) r25.2).bind fun r32=>((r32.1).asB).bind fun b33=>(if Cons r25.2 r32.2 then ((bl s18 n19 n26 (!b33) r32.2).bind fun r34=>((r34.1).asTup 2).bind fun l35=>(l35[0]?).bind fun v36=>((v36).asI .i64).bind fun n37=>(l35[1]?).bind fun v38=>((v38).asI .i64).bind fun n39=>some ((.int .i64 (IntKind.i64.wrap ((IntKind.i64.wrap (4 * n37)) + n39))),r34.2)) else none)) else none)
noncomputable def bn.tw (F:Nat) (aa:Sl) (ab:Int) (af:Int) (H:Hp):OA:=bn.twX F (aZ.tw F) (a_.tw F) (ai.tw F) aa ab af H
noncomputable def bn.code:Go.Code:=(Try.f142.body).getD .skip
noncomputable def bn.lh (F:Nat) (aU:Int→Int→Int→Int→Int→Int→Hp→OA) (aV:Int→Int→Int→Int→Int→Int→Hp→OA) (bl:Sl→Int→Int→Bool→Hp→OA) (p:Nat) (ks:List Nat) (n:Nat) (tm:Tm) (H:Hp):OA:=none
def bn.pn:Nat→List Nat:=fun i=>(([(3,[8])]:List (Nat×List Nat)).lookup i).getD []
def bn.tb:Nat→List (List Nat):=fun i=>(([(3,[[],[],[],[1,2],[],[],[1,2,3,4,5],[1,2,3,4,5,6],[0,1,2,3,4,5,6,7],[0,1,2,3,4,5,6,7,8],[0,1,2,3,4,5,6,7,8,9],[0,1,2,3,4,5,6,7,8,9],[0,1,2,3,4,5,6,7,8,9,10],[0,1,2,3,4,5,6,7,8,9,10,11,12]])]:List (Nat×List (List Nat))).lookup i).getD []
noncomputable def bn.mk (g:Sl→Int→Int→Hp→OA) (args:List AV) (H:Hp):OA:=match args with
 | [(.agg [(.sl aa),(.int .i64 ab)]),(.int .i64 af)]=>g aa ab af H
 | _=>none
noncomputable def bn.cs (F:Nat) (aU:Int→Int→Int→Int→Int→Int→Hp→OA) (aV:Int→Int→Int→Int→Int→Int→Hp→OA) (bl:Sl→Int→Int→Bool→Hp→OA):List (FuncId×(List AV→Hp→OA)):=[(140,aZ.mk aU),(141,a_.mk aV),(152,ai.mk bl)]
theorem bn.loops (F:Nat) (aU:Int→Int→Int→Int→Int→Int→Hp→OA) (aV:Int→Int→Int→Int→Int→Int→Hp→OA) (bl:Sl→Int→Int→Bool→Hp→OA):LoopsOk tabs (mkOrc (bn.cs F aU aV bl)) bn.pn (bn.lh F aU aV bl) F [] 1 bn.code (fun tm H=>aresults tabs.ty H tm Try.f142.results.toList fun v=>some (v,H)) (fun _ _ _=>none) (fun tm H=>aresults tabs.ty H tm Try.f142.results.toList fun v=>some (v,H)):=by
 exact loops_none (by kernel_rfl)
theorem bn.eqX (F:Nat) (aU:Int→Int→Int→Int→Int→Int→Hp→OA) (aV:Int→Int→Int→Int→Int→Int→Hp→OA) (bl:Sl→Int→Int→Bool→Hp→OA) (aa:Sl) (ab:Int) (af:Int) (H:Hp):aCode tabs (mkOrc (bn.cs F aU aV bl)) bn.pn (bn.lh F aU aV bl) F [] 1 bn.code (argTm [(.agg [(.sl aa),(.int .i64 ab)]),(.int .i64 af)]) H (fun tm H=>aresults tabs.ty H tm Try.f142.results.toList fun v=>some (v,H)) (fun _ _ _=>none) (fun tm H=>aresults tabs.ty H tm Try.f142.results.toList fun v=>some (v,H)) = bn.twX F aU aV bl aa ab af H:=by kernel_rfl
theorem bn.cs_ok (F:Nat):∀ p ∈ bn.cs F (aZ.tw F) (a_.tw F) (ai.tw F),∀ args H v H',p.2 args H = some (v,H')→Go.AE.T Try.prog p.1 args H v H':=by
 intro p hp
 simp only [bn.cs,List.mem_cons,List.not_mem_nil,or_false] at hp
 rcases hp with rfl | rfl | rfl
 ·exact fun args H v H' h=>aZ.mk_T h
 ·exact fun args H v H' h=>a_.mk_T h
 ·exact fun args H v H' h=>ai.mk_T h
theorem bn.ok:codeOk bn.pn Try.f142.ntmps bn.tb bn.code = true:=by kernel_rfl
theorem bn.T {F:Nat} {aa:Sl} {ab:Int} {af:Int} {H:Hp} {v:AV} {H':Hp} (h:bn.tw F aa ab af H = some (v,H')):Go.AE.T Try.prog 142 [(.agg [(.sl aa),(.int .i64 ab)]),(.int .i64 af)] H v H':=
 Go.AE.T.of (Y:=tabs) (C:=mkOrc (bn.cs F (aZ.tw F) (a_.tw F) (ai.tw F))) (PN:=bn.pn) (LH:=bn.lh F (aZ.tw F) (a_.tw F) (ai.tw F)) (F:=F) (TB:=bn.tb) (fn:=Try.f142) (code:=bn.code) mixed tabs_ok (mkOrc_ok (bn.cs_ok F)) Try.func142 (by kernel_rfl) (by kernel_rfl) bn.ok (Nat.le_of_ble_eq_true (by kernel_rfl)) (bn.loops F (aZ.tw F) (a_.tw F) (ai.tw F)) (Eq.trans (bn.eqX F (aZ.tw F) (a_.tw F) (ai.tw F) aa ab af H) h)
theorem bn.mk_T {F:Nat} {args:List AV} {H:Hp} {v:AV} {H':Hp} (h:bn.mk (bn.tw F) args H = some (v,H')):Go.AE.T Try.prog 142 args H v H':=by
 unfold bn.mk at h
 split at h
 ·exact bn.T h
 ·cases h
noncomputable def ao.j4 (F:Nat) (cc:Sl→Int→Int→Hp→OA) (C61_:Nat→Nat→Sl→Sl→Int→Hp→OA) (pd:Nat) (Bs:Nat) (Bt:Sl) (Bu:Sl) (kT:Int) (H108:Hp):OA:=C61_ pd Bs Bt Bu (IntKind.i64.wrap (kT + 1)) H108
noncomputable def ao.j5 (F:Nat) (cc:Sl→Int→Int→Hp→OA) (C61_:Nat→Nat→Sl→Sl→Int→Hp→OA) (pe:Nat) (Bv:Nat) (Bw:Sl) (Bx:Sl) (kU:Int) (H164:Hp):OA:=C61_ pe Bv Bw Bx (IntKind.i64.wrap (kU + 1)) H164
noncomputable def ao.j6 (F:Nat) (cc:Sl→Int→Int→Hp→OA) (C61_:Nat→Nat→Sl→Sl→Int→Hp→OA) (pf:Nat) (ju:Nat) (kO:Sl) (By:Sl) (kV:Int) (Bz:Sl) (H147:Hp):OA:=(Hp.new H147 [(.sl Bz)]).bind fun H148=>(Sl.row H148 (⟨some (H147.length,0),1,.ex 1⟩:Sl) 1).bind fun xs150=>(Hp.app H148 1 24 kO (⟨some (H147.length,0),1,.ex 1⟩:Sl).n xs150).bind fun a149=>ao.j5 F cc C61_ pf ju a149.1 By kV a149.2
noncomputable def ao.l7853 (F:Nat) (cc:Sl→Int→Int→Hp→OA) (C61_:Nat→Nat→Sl→Sl→Int→Hp→OA):Nat→Nat→Nat→Sl→Sl→Int→Sl→Int→Hp→OA
 | 0,_,_,_,_,_,_,_,_=>none
 | BA + 1,dX,fH,gl,f_,eH,cu,dv,H122=>(Sl.idx f_ dv 1).bind fun p165=>(Hp.ldB H122 p165.1 p165.2).bind fun b166=>(bif (!b166) then ((Sl.idx f_ dv 1).bind fun p167=>(Hp.st H122 p167.1 p167.2 (.bool true)).bind fun H168=>(Hp.new H168 [(.int .i64 dv)]).bind fun H169=>(Sl.row H169 (⟨some (H168.length,0),1,.ex 1⟩:Sl) 1).bind fun xs171=>(Hp.app H169 1 8 cu (⟨some (H168.length,0),1,.ex 1⟩:Sl).n xs171).bind fun a170=>(Hp.ldSl a170.2 dX fH).bind fun s172=>(Hp.ldI a170.2 .i64 dX (fH + 1)).bind fun n173=>(cc s172 n173 dv a170.2).bind fun r174=>((r174.1).asI .i64).bind fun n175=>ao.l7853 F cc C61_ BA dX fH gl f_ eH a170.1 n175 r174.2) else (ao.j6 F cc C61_ dX fH gl f_ eH cu H122))
termination_by structural n=>n
noncomputable def ao.l61 (F:Nat) (cc:Sl→Int→Int→Hp→OA) :Nat→Nat→Nat→Sl→Sl→Int→Hp→OA
 | 0,_,_,_,_,_,_=>none
 | bj + 1,ch,cb,bN,da,cp,H15=>(bif (decide (cp < (da.n:Int))) then ((Sl.idx da cp 1).bind fun p96=>(Hp.ldB H15 p96.1 p96.2).bind fun b97=>(bif b97 then (ao.j4 F cc (ao.l61 F cc bj) ch cb bN da cp H15) else ((Hp.new H15 []).bind fun H109=>ao.l7853 F cc (ao.l61 F cc bj) F ch cb bN da cp (⟨some (H15.length,0),0,.ex 0⟩:Sl) cp H109))) else (some ((.sl bN),H15)))
termination_by structural n=>n
noncomputable def ao.twX (F:Nat) (cc:Sl→Int→Int→Hp→OA) (aa:Sl) (ab:Int) (H:Hp):OA:=(Hp.new H [(.sl aa),(.int .i64 ab)]).bind fun H3=>(Hp.new H3 []).bind fun H4=>(Hp.ldSl H4 H.length 0).bind fun s5=>(Hp.mk H4 [.bool false] 1 (IntKind.i64.wrap (4 * (s5.n:Int))) (IntKind.i64.wrap (4 * (s5.n:Int)))).bind fun m6=>ao.l61 F cc F H.length 0 (⟨some (H3.length,0),0,.ex 0⟩:Sl) m6.1 0 m6.2
noncomputable def ao.tw (F:Nat) (aa:Sl) (ab:Int) (H:Hp):OA:=ao.twX F (bn.tw F) aa ab H
noncomputable def ao.code:Go.Code:=(Try.f105.body).getD .skip
noncomputable def ao.lh61 (F:Nat) (cc:Sl→Int→Int→Hp→OA) (ks:List Nat) (n:Nat) (tm:Tm) (H:Hp):OA:=match ks,tm 1,tm 3,tm 4,tm 5 with
 | [],(.ptr ch cb),(.sl bN),(.sl da),(.int .i64 cp)=>ao.l61 F cc n ch cb bN da cp H
 | _,_,_,_,_=>none
theorem ao.lh61_inv {F:Nat} {cc:Sl→Int→Int→Hp→OA} {ks:List Nat} {n:Nat} {tm:Tm} {H:Hp} {r:AV×Hp} (h:ao.lh61 F cc ks n tm H = some r):∃ ch:Nat,∃ cb:Nat,∃ bN:Sl,∃ da:Sl,∃ cp:Int,ks = []∧tm 1 = (.ptr ch cb)∧tm 3 = (.sl bN)∧tm 4 = (.sl da)∧tm 5 = (.int .i64 cp)∧ao.l61 F cc n ch cb bN da cp H = some r:=by
 unfold ao.lh61 at h
 split at h
 ·exact ⟨_,_,_,_,_,rfl,by assumption,by assumption,by assumption,by assumption,h⟩
 ·cases h
noncomputable def ao.lh7853 (F:Nat) (cc:Sl→Int→Int→Hp→OA) (ks:List Nat) (n:Nat) (tm:Tm) (H:Hp):OA:=match ks,tm 1,tm 3,tm 4,tm 5,tm 6,tm 7 with
 | [bj],(.ptr dX fH),(.sl gl),(.sl f_),(.int .i64 eH),(.sl cu),(.int .i64 dv)=>ao.l7853 F cc (ao.l61 F cc bj) n dX fH gl f_ eH cu dv H
 | _,_,_,_,_,_,_=>none
theorem ao.lh7853_inv {F:Nat} {cc:Sl→Int→Int→Hp→OA} {ks:List Nat} {n:Nat} {tm:Tm} {H:Hp} {r:AV×Hp} (h:ao.lh7853 F cc ks n tm H = some r):∃ bj:Nat,∃ dX:Nat,∃ fH:Nat,∃ gl:Sl,∃ f_:Sl,∃ eH:Int,∃ cu:Sl,∃ dv:Int,ks = [bj]∧tm 1 = (.ptr dX fH)∧tm 3 = (.sl gl)∧tm 4 = (.sl f_)∧tm 5 = (.int .i64 eH)∧tm 6 = (.sl cu)∧tm 7 = (.int .i64 dv)∧ao.l7853 F cc (ao.l61 F cc bj) n dX fH gl f_ eH cu dv H = some r:=by
 unfold ao.lh7853 at h
 split at h
 ·exact ⟨_,_,_,_,_,_,_,_,rfl,by assumption,by assumption,by assumption,by assumption,by assumption,by assumption,h⟩
 ·cases h
noncomputable def ao.lh (F:Nat) (cc:Sl→Int→Int→Hp→OA) (p:Nat) (ks:List Nat) (n:Nat) (tm:Tm) (H:Hp):OA:=bif p.beq 7853 then ao.lh7853 F cc ks n tm H else (bif p.beq 61 then ao.lh61 F cc ks n tm H else (none))
def ao.pn:Nat→List Nat:=fun i=>(([]:List (Nat×List Nat)).lookup i).getD []
def ao.tb:Nat→List (List Nat):=fun i=>(([]:List (Nat×List (List Nat))).lookup i).getD []
noncomputable def ao.mk (g:Sl→Int→Hp→OA) (args:List AV) (H:Hp):OA:=match args with
 | [(.agg [(.sl aa),(.int .i64 ab)])]=>g aa ab H
 | _=>none
noncomputable def ao.cs (F:Nat) (cc:Sl→Int→Int→Hp→OA):List (FuncId×(List AV→Hp→OA)):=[(142,bn.mk cc)]
theorem ao.loops (F:Nat) (cc:Sl→Int→Int→Hp→OA):LoopsOk tabs (mkOrc (ao.cs F cc)) ao.pn (ao.lh F cc) F [] 1 ao.code (fun tm H=>aresults tabs.ty H tm Try.f105.results.toList fun v=>some (v,H)) (fun _ _ _=>none) (fun tm H=>aresults tabs.ty H tm Try.f105.results.toList fun v=>some (v,H)):=by
 refine LoopsOk.seq ?_ ?_
 ·exact loops_none (by kernel_rfl)
 ·refine LoopsOk.seq ?_ ?_
  ·exact loops_none (by kernel_rfl)
  ·refine LoopsOk.seq ?_ ?_
   ·exact loops_none (by kernel_rfl)
   ·refine LoopsOk.seq ?_ ?_
    ·refine LoopsOk.seq ?_ ?_
     ·exact loops_none (by kernel_rfl)
     ·refine LoopsOk.block ?_
      refine LoopsOk.loop (fun tm H=>?_) (fun k61 tm H r h0=>?_) (fun k61=>?_)
      ·refine none_of fun r h0=>?_
       obtain ⟨ch,cb,bN,da,cp,hks,e1,e3,e4,e5,h⟩:=ao.lh61_inv (show ao.lh61 F cc [] 0 tm H = some r from h0)
       cases h
      ·obtain ⟨ch,cb,bN,da,cp,hks,e1,e3,e4,e5,h⟩:=ao.lh61_inv (show ao.lh61 F cc [] (k61 + 1) tm H = some r from h0)
       have q0:(Tm.put tm 1 (.ptr ch cb)) = tm:=by exact Tm.put_same e1
       have q1:(Tm.put (Tm.put tm 1 (.ptr ch cb)) 3 (.sl bN)) = tm:=by rw [q0]; exact Tm.put_same e3
       have q2:(Tm.put (Tm.put (Tm.put tm 1 (.ptr ch cb)) 3 (.sl bN)) 4 (.sl da)) = tm:=by rw [q1]; exact Tm.put_same e4
       have q3:(Tm.put (Tm.put (Tm.put (Tm.put tm 1 (.ptr ch cb)) 3 (.sl bN)) 4 (.sl da)) 5 (.int .i64 cp)) = tm:=by rw [q2]; exact Tm.put_same e5
       rw [← q3]
       exact Eq.trans (by kernel_rfl) h
      ·refine LoopsOk.seq ?_ ?_
       ·exact loops_none (by kernel_rfl)
       ·refine LoopsOk.seq ?_ ?_
        ·refine LoopsOk.block ?_
         refine LoopsOk.seq ?_ ?_
         ·exact loops_none (by kernel_rfl)
         ·refine LoopsOk.seq ?_ ?_
          ·exact loops_none (by kernel_rfl)
          ·refine LoopsOk.seq ?_ ?_
           ·refine LoopsOk.seq ?_ ?_
            ·exact loops_none (by kernel_rfl)
            ·refine LoopsOk.block ?_
             refine LoopsOk.loop (fun tm H=>?_) (fun k7853 tm H r h0=>?_) (fun k7853=>?_)
             ·refine none_of fun r h0=>?_
              obtain ⟨bj,dX,fH,gl,f_,eH,cu,dv,hks,e1,e3,e4,e5,e6,e7,h⟩:=ao.lh7853_inv (show ao.lh7853 F cc [k61] 0 tm H = some r from h0)
              cases h
             ·obtain ⟨bj,dX,fH,gl,f_,eH,cu,dv,hks,e1,e3,e4,e5,e6,e7,h⟩:=ao.lh7853_inv (show ao.lh7853 F cc [k61] (k7853 + 1) tm H = some r from h0)
              obtain rfl:bj = k61:=by simpa [eq_comm] using hks
              have q0:(Tm.put tm 1 (.ptr dX fH)) = tm:=by exact Tm.put_same e1
              have q1:(Tm.put (Tm.put tm 1 (.ptr dX fH)) 3 (.sl gl)) = tm:=by rw [q0]; exact Tm.put_same e3
              have q2:(Tm.put (Tm.put (Tm.put tm 1 (.ptr dX fH)) 3 (.sl gl)) 4 (.sl f_)) = tm:=by rw [q1]; exact Tm.put_same e4
              have q3:(Tm.put (Tm.put (Tm.put (Tm.put tm 1 (.ptr dX fH)) 3 (.sl gl)) 4 (.sl f_)) 5 (.int .i64 eH)) = tm:=by rw [q2]; exact Tm.put_same e5
              have q4:(Tm.put (Tm.put (Tm.put (Tm.put (Tm.put tm 1 (.ptr dX fH)) 3 (.sl gl)) 4 (.sl f_)) 5 (.int .i64 eH)) 6 (.sl cu)) = tm:=by rw [q3]; exact Tm.put_same e6
              have q5:(Tm.put (Tm.put (Tm.put (Tm.put (Tm.put (Tm.put tm 1 (.ptr dX fH)) 3 (.sl gl)) 4 (.sl f_)) 5 (.int .i64 eH)) 6 (.sl cu)) 7 (.int .i64 dv)) = tm:=by rw [q4]; exact Tm.put_same e7
              rw [← q5]
              exact Eq.trans (by kernel_rfl) h
             ·exact loops_none (by kernel_rfl)
           ·exact loops_none (by kernel_rfl)
        ·exact loops_none (by kernel_rfl)
    ·exact loops_none (by kernel_rfl)
theorem ao.eqX (F:Nat) (cc:Sl→Int→Int→Hp→OA) (aa:Sl) (ab:Int) (H:Hp):aCode tabs (mkOrc (ao.cs F cc)) ao.pn (ao.lh F cc) F [] 1 ao.code (argTm [(.agg [(.sl aa),(.int .i64 ab)])]) H (fun tm H=>aresults tabs.ty H tm Try.f105.results.toList fun v=>some (v,H)) (fun _ _ _=>none) (fun tm H=>aresults tabs.ty H tm Try.f105.results.toList fun v=>some (v,H)) = ao.twX F cc aa ab H:=by kernel_rfl
theorem ao.cs_ok (F:Nat):∀ p ∈ ao.cs F (bn.tw F),∀ args H v H',p.2 args H = some (v,H')→Go.AE.T Try.prog p.1 args H v H':=by
 intro p hp
 simp only [ao.cs,List.mem_cons,List.not_mem_nil,or_false] at hp
 subst hp
 exact fun args H v H' h=>bn.mk_T h
theorem ao.ok:codeOk ao.pn Try.f105.ntmps ao.tb ao.code = true:=by kernel_rfl
theorem ao.T {F:Nat} {aa:Sl} {ab:Int} {H:Hp} {v:AV} {H':Hp} (h:ao.tw F aa ab H = some (v,H')):Go.AE.T Try.prog 105 [(.agg [(.sl aa),(.int .i64 ab)])] H v H':=
 Go.AE.T.of (Y:=tabs) (C:=mkOrc (ao.cs F (bn.tw F))) (PN:=ao.pn) (LH:=ao.lh F (bn.tw F)) (F:=F) (TB:=ao.tb) (fn:=Try.f105) (code:=ao.code) mixed tabs_ok (mkOrc_ok (ao.cs_ok F)) Try.func105 (by kernel_rfl) (by kernel_rfl) ao.ok (Nat.le_of_ble_eq_true (by kernel_rfl)) (ao.loops F (bn.tw F)) (Eq.trans (ao.eqX F (bn.tw F) aa ab H) h)
theorem ao.mk_T {F:Nat} {args:List AV} {H:Hp} {v:AV} {H':Hp} (h:ao.mk (ao.tw F) args H = some (v,H')):Go.AE.T Try.prog 105 args H v H':=by
 unfold ao.mk at h
 split at h
 ·exact ao.T h
 ·cases h
noncomputable def ag.j6 (F:Nat) (bl:Sl→Int→Int→Bool→Hp→OA) (C61_:Nat→Nat→Sl→Int→Hp→OA) (pg:Nat) (BB:Nat) (BC:Sl) (kW:Int) (H243:Hp):OA:=C61_ pg BB BC (IntKind.i64.wrap (kW + 1)) H243
noncomputable def ag.j7 (F:Nat) (bl:Sl→Int→Int→Bool→Hp→OA) (C61_:Nat→Nat→Sl→Int→Hp→OA) (ph:Nat) (BD:Nat) (kX:Sl) (jv:Int) (H226:Hp):OA:=ag.j6 F bl C61_ ph BD kX jv H226
noncomputable def ag.j8 (F:Nat) (bl:Sl→Int→Int→Bool→Hp→OA) (C7855_:Nat→Nat→Sl→Int→Int→Int→Int→Hp→OA) (pi:Nat) (BE:Nat) (BF:Sl) (kY:Int) (kZ:Int) (k_:Int) (lf:Int) (H265:Hp):OA:=C7855_ pi BE BF kY kZ k_ (IntKind.i64.wrap (lf + 1)) H265
noncomputable def ag.l7855 (F:Nat) (bl:Sl→Int→Int→Bool→Hp→OA) (C61_:Nat→Nat→Sl→Int→Hp→OA):Nat→Nat→Nat→Sl→Int→Int→Int→Int→Hp→OA
 | 0,_,_,_,_,_,_,_,_=>none
 | vW + 1,eC,fQ,fw,dL,cM,cX,dw,H187=>(bif (decide (dw < (fw.n:Int))) then ((Sl.idx fw dw 1).bind fun p244=>(Hp.ldI H187 .i64 p244.1 p244.2).bind fun n245=>(bif (n245 == (if cX > cM then cX else cM)) then ((Sl.idx fw dw 1).bind fun p246=>(Hp.st H187 p246.1 p246.2 (.int .i64 (if cX < cM then cX else cM))).bind fun H247=>ag.j8 F bl (ag.l7855 F bl C61_ vW) eC fQ fw dL cM cX dw H247) else (ag.j8 F bl (ag.l7855 F bl C61_ vW) eC fQ fw dL cM cX dw H187))) else (ag.j7 F bl C61_ eC fQ fw dL H187))
termination_by structural n=>n
noncomputable def ag.l61 (F:Nat) (bl:Sl→Int→Int→Bool→Hp→OA) :Nat→Nat→Nat→Sl→Int→Hp→OA
 | 0,_,_,_,_,_=>none
 | bj + 1,cd,cC,gC,bS,H35=>(Hp.ldSl H35 cd cC).bind fun s151=>(bif (decide (bS < (IntKind.i64.wrap (2 * (s151.n:Int))))) then ((Hp.ldSl H35 cd cC).bind fun s152=>(Hp.ldI H35 .i64 cd (cC + 1)).bind fun n153=>(bl s152 n153 bS true H35).bind fun r154=>((r154.1).asTup 2).bind fun l155=>(l155[0]?).bind fun v156=>((v156).asI .i64).bind fun n157=>(l155[1]?).bind fun v158=>((v158).asI .i64).bind fun n159=>(Hp.ldSl r154.2 cd cC).bind fun s160=>(Hp.ldI r154.2 .i64 cd (cC + 1)).bind fun n161=>(bl s160 n161 bS false r154.2).bind fun r162=>((r162.1).asTup 2).bind fun l163=>(l163[0]?).bind fun v164=>((v164).asI .i64).bind fun n165=>(l163[1]?).bind fun v166=>((v166).asI .i64).bind fun n167=>(Sl.idx gC n157 1).bind fun p168=>(Hp.ldI r162.2 .i64 p168.1 p168.2).bind fun n169=>(Sl.idx gC n165 1).bind fun p170=>(Hp.ldI r162.2 .i64 p170.1 p170.2).bind fun n171=>ag.l7855 F bl (ag.l61 F bl bj) F cd cC gC bS n169 n171 0 r162.2) else (some ((.sl gC),H35)))
termination_by structural n=>n
noncomputable def ag.j9 (F:Nat) (bl:Sl→Int→Int→Bool→Hp→OA) (pj:Nat) (lg:Nat) (BG:Sl) (H25:Hp):OA:=ag.l61 F bl F pj lg BG 0 H25
noncomputable def ag.l29 (F:Nat) (bl:Sl→Int→Int→Bool→Hp→OA) :Nat→Nat→Nat→Sl→Int→Hp→OA
 | 0,_,_,_,_,_=>none
 | cZ + 1,cl,bV,cL,cv,H12=>(Hp.ldSl H12 cl bV).bind fun s266=>(bif (decide (cv < (s266.n:Int))) then ((Hp.new H12 [(.int .i64 cv)]).bind fun H267=>(Sl.row H267 (⟨some (H12.length,0),1,.ex 1⟩:Sl) 1).bind fun xs269=>(Hp.app H267 1 8 cL (⟨some (H12.length,0),1,.ex 1⟩:Sl).n xs269).bind fun a268=>ag.l29 F bl cZ cl bV a268.1 (IntKind.i64.wrap (cv + 1)) a268.2) else (ag.j9 F bl cl bV cL H12))
termination_by structural n=>n
noncomputable def ag.twX (F:Nat) (bl:Sl→Int→Int→Bool→Hp→OA) (aa:Sl) (ab:Int) (H:Hp):OA:=(Hp.new H [(.sl aa),(.int .i64 ab)]).bind fun H3=>(Hp.new H3 []).bind fun H4=>ag.l29 F bl F H.length 0 (⟨some (H3.length,0),0,.ex 0⟩:Sl) 0 H4
noncomputable def ag.tw (F:Nat) (aa:Sl) (ab:Int) (H:Hp):OA:=ag.twX F (ai.tw F) aa ab H
noncomputable def ag.code:Go.Code:=(Try.f122.body).getD .skip
noncomputable def ag.lh29 (F:Nat) (bl:Sl→Int→Int→Bool→Hp→OA) (ks:List Nat) (n:Nat) (tm:Tm) (H:Hp):OA:=match ks,tm 1,tm 3,tm 4 with
 | [],(.ptr cl bV),(.sl cL),(.int .i64 cv)=>ag.l29 F bl n cl bV cL cv H
 | _,_,_,_=>none
theorem ag.lh29_inv {F:Nat} {bl:Sl→Int→Int→Bool→Hp→OA} {ks:List Nat} {n:Nat} {tm:Tm} {H:Hp} {r:AV×Hp} (h:ag.lh29 F bl ks n tm H = some r):∃ cl:Nat,∃ bV:Nat,∃ cL:Sl,∃ cv:Int,ks = []∧tm 1 = (.ptr cl bV)∧tm 3 = (.sl cL)∧tm 4 = (.int .i64 cv)∧ag.l29 F bl n cl bV cL cv H = some r:=by
 unfold ag.lh29 at h
 split at h
 ·exact ⟨_,_,_,_,rfl,by assumption,by assumption,by assumption,h⟩
 ·cases h
noncomputable def ag.lh61 (F:Nat) (bl:Sl→Int→Int→Bool→Hp→OA) (ks:List Nat) (n:Nat) (tm:Tm) (H:Hp):OA:=match ks,tm 1,tm 3,tm 5 with
 | [],(.ptr cd cC),(.sl gC),(.int .i64 bS)=>ag.l61 F bl n cd cC gC bS H
 | _,_,_,_=>none
theorem ag.lh61_inv {F:Nat} {bl:Sl→Int→Int→Bool→Hp→OA} {ks:List Nat} {n:Nat} {tm:Tm} {H:Hp} {r:AV×Hp} (h:ag.lh61 F bl ks n tm H = some r):∃ cd:Nat,∃ cC:Nat,∃ gC:Sl,∃ bS:Int,ks = []∧tm 1 = (.ptr cd cC)∧tm 3 = (.sl gC)∧tm 5 = (.int .i64 bS)∧ag.l61 F bl n cd cC gC bS H = some r:=by
 unfold ag.lh61 at h
 split at h
 ·exact ⟨_,_,_,_,rfl,by assumption,by assumption,by assumption,h⟩
 ·cases h
noncomputable def ag.lh7855 (F:Nat) (bl:Sl→Int→Int→Bool→Hp→OA) (ks:List Nat) (n:Nat) (tm:Tm) (H:Hp):OA:=match ks,tm 1,tm 3,tm 5,tm 10,tm 11,tm 12 with
 | [bj],(.ptr eC fQ),(.sl fw),(.int .i64 dL),(.int .i64 cM),(.int .i64 cX),(.int .i64 dw)=>ag.l7855 F bl (ag.l61 F bl bj) n eC fQ fw dL cM cX dw H
 | _,_,_,_,_,_,_=>none
theorem ag.lh7855_inv {F:Nat} {bl:Sl→Int→Int→Bool→Hp→OA} {ks:List Nat} {n:Nat} {tm:Tm} {H:Hp} {r:AV×Hp} (h:ag.lh7855 F bl ks n tm H = some r):∃ bj:Nat,∃ eC:Nat,∃ fQ:Nat,∃ fw:Sl,∃ dL:Int,∃ cM:Int,∃ cX:Int,∃ dw:Int,ks = [bj]∧tm 1 = (.ptr eC fQ)∧tm 3 = (.sl fw)∧tm 5 = (.int .i64 dL)∧tm 10 = (.int .i64 cM)∧tm 11 = (.int .i64 cX)∧tm 12 = (.int .i64 dw)∧ag.l7855 F bl (ag.l61 F bl bj) n eC fQ fw dL cM cX dw H = some r:=by
 unfold ag.lh7855 at h
 split at h
 ·exact ⟨_,_,_,_,_,_,_,_,rfl,by assumption,by assumption,by assumption,by assumption,by assumption,by assumption,h⟩
 ·cases h
noncomputable def ag.lh (F:Nat) (bl:Sl→Int→Int→Bool→Hp→OA) (p:Nat) (ks:List Nat) (n:Nat) (tm:Tm) (H:Hp):OA:=bif p.beq 7855 then ag.lh7855 F bl ks n tm H else (bif p.beq 61 then ag.lh61 F bl ks n tm H else (bif p.beq 29 then ag.lh29 F bl ks n tm H else (none)))
def ag.pn:Nat→List Nat:=fun i=>(([(11,[])]:List (Nat×List Nat)).lookup i).getD []
def ag.tb:Nat→List (List Nat):=fun i=>(([(11,[[],[],[0,1],[0,1,2],[],[],[4,5],[4,5,6],[0,1,2,3],[0,1,2,3,4,5,6,7,8]])]:List (Nat×List (List Nat))).lookup i).getD []
noncomputable def ag.mk (g:Sl→Int→Hp→OA) (args:List AV) (H:Hp):OA:=match args with
 | [(.agg [(.sl aa),(.int .i64 ab)])]=>g aa ab H
 | _=>none
noncomputable def ag.cs (F:Nat) (bl:Sl→Int→Int→Bool→Hp→OA):List (FuncId×(List AV→Hp→OA)):=[(152,ai.mk bl)]
theorem ag.loops (F:Nat) (bl:Sl→Int→Int→Bool→Hp→OA):LoopsOk tabs (mkOrc (ag.cs F bl)) ag.pn (ag.lh F bl) F [] 1 ag.code (fun tm H=>aresults tabs.ty H tm Try.f122.results.toList fun v=>some (v,H)) (fun _ _ _=>none) (fun tm H=>aresults tabs.ty H tm Try.f122.results.toList fun v=>some (v,H)):=by
 refine LoopsOk.seq ?_ ?_
 ·exact loops_none (by kernel_rfl)
 ·refine LoopsOk.seq ?_ ?_
  ·exact loops_none (by kernel_rfl)
  ·refine LoopsOk.seq ?_ ?_
   ·refine LoopsOk.seq ?_ ?_
    ·exact loops_none (by kernel_rfl)
    ·refine LoopsOk.block ?_
     refine LoopsOk.loop (fun tm H=>?_) (fun k29 tm H r h0=>?_) (fun k29=>?_)
     ·refine none_of fun r h0=>?_
      obtain ⟨cl,bV,cL,cv,hks,e1,e3,e4,h⟩:=ag.lh29_inv (show ag.lh29 F bl [] 0 tm H = some r from h0)
      cases h
     ·obtain ⟨cl,bV,cL,cv,hks,e1,e3,e4,h⟩:=ag.lh29_inv (show ag.lh29 F bl [] (k29 + 1) tm H = some r from h0)
      have q0:(Tm.put tm 1 (.ptr cl bV)) = tm:=by exact Tm.put_same e1
      have q1:(Tm.put (Tm.put tm 1 (.ptr cl bV)) 3 (.sl cL)) = tm:=by rw [q0]; exact Tm.put_same e3
      have q2:(Tm.put (Tm.put (Tm.put tm 1 (.ptr cl bV)) 3 (.sl cL)) 4 (.int .i64 cv)) = tm:=by rw [q1]; exact Tm.put_same e4
      rw [← q2]
      exact Eq.trans (by kernel_rfl) h
     ·exact loops_none (by kernel_rfl)
   ·refine LoopsOk.seq ?_ ?_
    ·refine LoopsOk.seq ?_ ?_
     ·exact loops_none (by kernel_rfl)
     ·refine LoopsOk.block ?_
      refine LoopsOk.loop (fun tm H=>?_) (fun k61 tm H r h0=>?_) (fun k61=>?_)
      ·refine none_of fun r h0=>?_
       obtain ⟨cd,cC,gC,bS,hks,e1,e3,e5,h⟩:=ag.lh61_inv (show ag.lh61 F bl [] 0 tm H = some r from h0)
       cases h
      ·obtain ⟨cd,cC,gC,bS,hks,e1,e3,e5,h⟩:=ag.lh61_inv (show ag.lh61 F bl [] (k61 + 1) tm H = some r from h0)
       have q0:(Tm.put tm 1 (.ptr cd cC)) = tm:=by exact Tm.put_same e1
       have q1:(Tm.put (Tm.put tm 1 (.ptr cd cC)) 3 (.sl gC)) = tm:=by rw [q0]; exact Tm.put_same e3
       have q2:(Tm.put (Tm.put (Tm.put tm 1 (.ptr cd cC)) 3 (.sl gC)) 5 (.int .i64 bS)) = tm:=by rw [q1]; exact Tm.put_same e5
       rw [← q2]
       exact Eq.trans (by kernel_rfl) h
      ·refine LoopsOk.seq ?_ ?_
       ·exact loops_none (by kernel_rfl)
       ·refine LoopsOk.seq ?_ ?_
        ·refine LoopsOk.block ?_
         refine LoopsOk.seq ?_ ?_
         ·exact loops_none (by kernel_rfl)
         ·refine LoopsOk.seq ?_ ?_
          ·exact loops_none (by kernel_rfl)
          ·refine LoopsOk.seq ?_ ?_
           ·exact loops_none (by kernel_rfl)
           ·refine LoopsOk.seq ?_ ?_
            ·exact loops_none (by kernel_rfl)
            ·refine LoopsOk.block ?_
             refine LoopsOk.loop (fun tm H=>?_) (fun k7855 tm H r h0=>?_) (fun k7855=>?_)
             ·refine none_of fun r h0=>?_
              obtain ⟨bj,eC,fQ,fw,dL,cM,cX,dw,hks,e1,e3,e5,e10,e11,e12,h⟩:=ag.lh7855_inv (show ag.lh7855 F bl [k61] 0 tm H = some r from h0)
              cases h
             ·obtain ⟨bj,eC,fQ,fw,dL,cM,cX,dw,hks,e1,e3,e5,e10,e11,e12,h⟩:=ag.lh7855_inv (show ag.lh7855 F bl [k61] (k7855 + 1) tm H = some r from h0)
              obtain rfl:bj = k61:=by simpa [eq_comm] using hks
              have q0:(Tm.put tm 1 (.ptr eC fQ)) = tm:=by exact Tm.put_same e1
              have q1:(Tm.put (Tm.put tm 1 (.ptr eC fQ)) 3 (.sl fw)) = tm:=by rw [q0]; exact Tm.put_same e3
              have q2:(Tm.put (Tm.put (Tm.put tm 1 (.ptr eC fQ)) 3 (.sl fw)) 5 (.int .i64 dL)) = tm:=by rw [q1]; exact Tm.put_same e5
              have q3:(Tm.put (Tm.put (Tm.put (Tm.put tm 1 (.ptr eC fQ)) 3 (.sl fw)) 5 (.int .i64 dL)) 10 (.int .i64 cM)) = tm:=by rw [q2]; exact Tm.put_same e10
              have q4:(Tm.put (Tm.put (Tm.put (Tm.put (Tm.put tm 1 (.ptr eC fQ)) 3 (.sl fw)) 5 (.int .i64 dL)) 10 (.int .i64 cM)) 11 (.int .i64 cX)) = tm:=by rw [q3]; exact Tm.put_same e11
              have q5:(Tm.put (Tm.put (Tm.put (Tm.put (Tm.put (Tm.put tm 1 (.ptr eC fQ)) 3 (.sl fw)) 5 (.int .i64 dL)) 10 (.int .i64 cM)) 11 (.int .i64 cX)) 12 (.int .i64 dw)) = tm:=by rw [q4]; exact Tm.put_same e12
              rw [← q5]
              exact Eq.trans (by kernel_rfl) h
             ·exact loops_none (by kernel_rfl)
        ·exact loops_none (by kernel_rfl)
    ·exact loops_none (by kernel_rfl)
theorem ag.eqX (F:Nat) (bl:Sl→Int→Int→Bool→Hp→OA) (aa:Sl) (ab:Int) (H:Hp):aCode tabs (mkOrc (ag.cs F bl)) ag.pn (ag.lh F bl) F [] 1 ag.code (argTm [(.agg [(.sl aa),(.int .i64 ab)])]) H (fun tm H=>aresults tabs.ty H tm Try.f122.results.toList fun v=>some (v,H)) (fun _ _ _=>none) (fun tm H=>aresults tabs.ty H tm Try.f122.results.toList fun v=>some (v,H)) = ag.twX F bl aa ab H:=by kernel_rfl
theorem ag.cs_ok (F:Nat):∀ p ∈ ag.cs F (ai.tw F),∀ args H v H',p.2 args H = some (v,H')→Go.AE.T Try.prog p.1 args H v H':=by
 intro p hp
 simp only [ag.cs,List.mem_cons,List.not_mem_nil,or_false] at hp
 subst hp
 exact fun args H v H' h=>ai.mk_T h
theorem ag.ok:codeOk ag.pn Try.f122.ntmps ag.tb ag.code = true:=by kernel_rfl
theorem ag.T {F:Nat} {aa:Sl} {ab:Int} {H:Hp} {v:AV} {H':Hp} (h:ag.tw F aa ab H = some (v,H')):Go.AE.T Try.prog 122 [(.agg [(.sl aa),(.int .i64 ab)])] H v H':=
 Go.AE.T.of (Y:=tabs) (C:=mkOrc (ag.cs F (ai.tw F))) (PN:=ag.pn) (LH:=ag.lh F (ai.tw F)) (F:=F) (TB:=ag.tb) (fn:=Try.f122) (code:=ag.code) mixed tabs_ok (mkOrc_ok (ag.cs_ok F)) Try.func122 (by kernel_rfl) (by kernel_rfl) ag.ok (Nat.le_of_ble_eq_true (by kernel_rfl)) (ag.loops F (ai.tw F)) (Eq.trans (ag.eqX F (ai.tw F) aa ab H) h)
theorem ag.mk_T {F:Nat} {args:List AV} {H:Hp} {v:AV} {H':Hp} (h:ag.mk (ag.tw F) args H = some (v,H')):Go.AE.T Try.prog 122 args H v H':=by
 unfold ag.mk at h
 split at h
 ·exact ag.T h
 ·cases h
noncomputable def aA.j2 (F:Nat) (dd:Sl→Int→Hp→OA) (C61_:Int→Sl→Int→Hp→OA) (li:Int) (BH:Sl) (lj:Int) (H42:Hp):OA:=C61_ li BH (IntKind.i64.wrap (lj + 1)) H42
noncomputable def aA.l61 (F:Nat) (dd:Sl→Int→Hp→OA) :Nat→Int→Sl→Int→Hp→OA
 | 0,_,_,_,_=>none
 | bj + 1,bt,cm,dx,H16=>(bif (decide (dx < (cm.n:Int))) then ((Sl.idx cm dx 1).bind fun p30=>(Hp.ldI H16 .i64 p30.1 p30.2).bind fun n31=>(bif (n31 == dx) then (aA.j2 F dd (aA.l61 F dd bj) (IntKind.i64.wrap (bt + 1)) cm dx H16) else (aA.j2 F dd (aA.l61 F dd bj) bt cm dx H16))) else (some ((.int .i64 bt),H16)))
termination_by structural n=>n
noncomputable def aA.twX (F:Nat) (dd:Sl→Int→Hp→OA) (aa:Sl) (ab:Int) (H:Hp):OA:=(Hp.new H [(.sl aa),(.int .i64 ab)]).bind fun H3=>(Hp.ldSl H3 H.length 0).bind fun s4=>(Hp.ldI H3 .i64 H.length (0 + 1)).bind fun n5=>(dd s4 n5 H3).bind fun r6=>((r6.1).asSl).bind fun s7=>aA.l61 F dd F 0 s7 0 r6.2
noncomputable def aA.tw (F:Nat) (aa:Sl) (ab:Int) (H:Hp):OA:=aA.twX F (ag.tw F) aa ab H
noncomputable def aA.code:Go.Code:=(Try.f97.body).getD .skip
noncomputable def aA.lh61 (F:Nat) (dd:Sl→Int→Hp→OA) (ks:List Nat) (n:Nat) (tm:Tm) (H:Hp):OA:=match ks,tm 3,tm 4,tm 5 with
 | [],(.int .i64 bt),(.sl cm),(.int .i64 dx)=>aA.l61 F dd n bt cm dx H
 | _,_,_,_=>none
theorem aA.lh61_inv {F:Nat} {dd:Sl→Int→Hp→OA} {ks:List Nat} {n:Nat} {tm:Tm} {H:Hp} {r:AV×Hp} (h:aA.lh61 F dd ks n tm H = some r):∃ bt:Int,∃ cm:Sl,∃ dx:Int,ks = []∧tm 3 = (.int .i64 bt)∧tm 4 = (.sl cm)∧tm 5 = (.int .i64 dx)∧aA.l61 F dd n bt cm dx H = some r:=by
 unfold aA.lh61 at h
 split at h
 ·exact ⟨_,_,_,rfl,by assumption,by assumption,by assumption,h⟩
 ·cases h
noncomputable def aA.lh (F:Nat) (dd:Sl→Int→Hp→OA) (p:Nat) (ks:List Nat) (n:Nat) (tm:Tm) (H:Hp):OA:=bif p.beq 61 then aA.lh61 F dd ks n tm H else (none)
def aA.pn:Nat→List Nat:=fun i=>(([]:List (Nat×List Nat)).lookup i).getD []
def aA.tb:Nat→List (List Nat):=fun i=>(([]:List (Nat×List (List Nat))).lookup i).getD []
noncomputable def aA.mk (g:Sl→Int→Hp→OA) (args:List AV) (H:Hp):OA:=match args with
 | [(.agg [(.sl aa),(.int .i64 ab)])]=>g aa ab H
 | _=>none
noncomputable def aA.cs (F:Nat) (dd:Sl→Int→Hp→OA):List (FuncId×(List AV→Hp→OA)):=[(122,ag.mk dd)]
theorem aA.loops (F:Nat) (dd:Sl→Int→Hp→OA):LoopsOk tabs (mkOrc (aA.cs F dd)) aA.pn (aA.lh F dd) F [] 1 aA.code (fun tm H=>aresults tabs.ty H tm Try.f97.results.toList fun v=>some (v,H)) (fun _ _ _=>none) (fun tm H=>aresults tabs.ty H tm Try.f97.results.toList fun v=>some (v,H)):=by
 refine LoopsOk.seq ?_ ?_
 ·exact loops_none (by kernel_rfl)
 ·refine LoopsOk.seq ?_ ?_
  ·exact loops_none (by kernel_rfl)
  ·refine LoopsOk.seq ?_ ?_
   ·exact loops_none (by kernel_rfl)
   ·refine LoopsOk.seq ?_ ?_
    ·refine LoopsOk.seq ?_ ?_
     ·exact loops_none (by kernel_rfl)
     ·refine LoopsOk.block ?_
      refine LoopsOk.loop (fun tm H=>?_) (fun k61 tm H r h0=>?_) (fun k61=>?_)
      ·refine none_of fun r h0=>?_
       obtain ⟨bt,cm,dx,hks,e3,e4,e5,h⟩:=aA.lh61_inv (show aA.lh61 F dd [] 0 tm H = some r from h0)
       cases h
      ·obtain ⟨bt,cm,dx,hks,e3,e4,e5,h⟩:=aA.lh61_inv (show aA.lh61 F dd [] (k61 + 1) tm H = some r from h0)
       have q0:(Tm.put tm 3 (.int .i64 bt)) = tm:=by exact Tm.put_same e3
       have q1:(Tm.put (Tm.put tm 3 (.int .i64 bt)) 4 (.sl cm)) = tm:=by rw [q0]; exact Tm.put_same e4
       have q2:(Tm.put (Tm.put (Tm.put tm 3 (.int .i64 bt)) 4 (.sl cm)) 5 (.int .i64 dx)) = tm:=by rw [q1]; exact Tm.put_same e5
       rw [← q2]
       exact Eq.trans (by kernel_rfl) h
      ·exact loops_none (by kernel_rfl)
    ·exact loops_none (by kernel_rfl)
theorem aA.eqX (F:Nat) (dd:Sl→Int→Hp→OA) (aa:Sl) (ab:Int) (H:Hp):aCode tabs (mkOrc (aA.cs F dd)) aA.pn (aA.lh F dd) F [] 1 aA.code (argTm [(.agg [(.sl aa),(.int .i64 ab)])]) H (fun tm H=>aresults tabs.ty H tm Try.f97.results.toList fun v=>some (v,H)) (fun _ _ _=>none) (fun tm H=>aresults tabs.ty H tm Try.f97.results.toList fun v=>some (v,H)) = aA.twX F dd aa ab H:=by kernel_rfl
theorem aA.cs_ok (F:Nat):∀ p ∈ aA.cs F (ag.tw F),∀ args H v H',p.2 args H = some (v,H')→Go.AE.T Try.prog p.1 args H v H':=by
 intro p hp
 simp only [aA.cs,List.mem_cons,List.not_mem_nil,or_false] at hp
 subst hp
 exact fun args H v H' h=>ag.mk_T h
theorem aA.ok:codeOk aA.pn Try.f97.ntmps aA.tb aA.code = true:=by kernel_rfl
theorem aA.T {F:Nat} {aa:Sl} {ab:Int} {H:Hp} {v:AV} {H':Hp} (h:aA.tw F aa ab H = some (v,H')):Go.AE.T Try.prog 97 [(.agg [(.sl aa),(.int .i64 ab)])] H v H':=
 Go.AE.T.of (Y:=tabs) (C:=mkOrc (aA.cs F (ag.tw F))) (PN:=aA.pn) (LH:=aA.lh F (ag.tw F)) (F:=F) (TB:=aA.tb) (fn:=Try.f97) (code:=aA.code) mixed tabs_ok (mkOrc_ok (aA.cs_ok F)) Try.func97 (by kernel_rfl) (by kernel_rfl) aA.ok (Nat.le_of_ble_eq_true (by kernel_rfl)) (aA.loops F (ag.tw F)) (Eq.trans (aA.eqX F (ag.tw F) aa ab H) h)
theorem aA.mk_T {F:Nat} {args:List AV} {H:Hp} {v:AV} {H':Hp} (h:aA.mk (aA.tw F) args H = some (v,H')):Go.AE.T Try.prog 97 args H v H':=by
 unfold aA.mk at h
 split at h
 ·exact aA.T h
 ·cases h
noncomputable def bo.twX (F:Nat) (bf:Int→Int→Int→Hp→OA) (hJ:Sl→Int→Hp→OA) (hK:Sl→Int→Hp→OA) (hL:Sl→Int→Hp→OA) (aa:Sl) (ab:Int) (H:Hp):OA:=(Hp.new H [(.sl aa),(.int .i64 ab)]).bind fun H3=>(Hp.ldSl H3 H.length 0).bind fun s4=>(bif (decide ((s4.n:Int) > 10)) then (some ((.bool false),H3)) else ((Hp.ldI H3 .i64 H.length 1).bind fun n5=>(bf n5 0 8 H3).bind fun r6=>((r6.1).asB).bind fun b7=>(bif (!b7) then (some ((.bool false),r6.2)) else ((Hp.ldSl r6.2 H.length 0).bind fun s8=>(Hp.ldI r6.2 .i64 H.length (0 + 1)).bind fun n9=>(hJ s8 n9 r6.2).bind fun r10=>((r10.1).asB).bind fun b11=>(bif (!b11) then (some ((.bool false),r10.2)) else ((Hp.ldSl r10.2 H.length 0).bind fun s12=>(Hp.ldI r10.2 .i64 H.length (0 + 1)).bind fun n13=>(hK s12 n13 r10.2).bind fun r14=>((r14.1).asSl).bind fun s15=>(if Cons r10.2 r14.2 then ((Hp.ldSl r14.2 H.length 0).bind fun s16=>(Hp.ldSl r14.2 H.length 0).bind fun s17=>(Hp.ldI r14.2 .i64 H.length (0 + 1)).bind fun n18=>(hL s17 n18 r14.2).bind fun r19=>((r19.1).asI .i64).bind fun n20=>(if Cons r14.2 r19.2 then (some ((.bool ((s15.n:Int) == (IntKind.i64.wrap ((s16.n:Int) + (IntKind.i64.wrap (2 * n20)))))),r19.2)) else none)) else none)))))))
noncomputable def bo.tw (F:Nat) (aa:Sl) (ab:Int) (H:Hp):OA:=bo.twX F (aY.tw F) (ap.tw F) (ao.tw F) (aA.tw F) aa ab H
noncomputable def bo.code:Go.Code:=(Try.f50.body).getD .skip
noncomputable def bo.lh (F:Nat) (bf:Int→Int→Int→Hp→OA) (hJ:Sl→Int→Hp→OA) (hK:Sl→Int→Hp→OA) (hL:Sl→Int→Hp→OA) (p:Nat) (ks:List Nat) (n:Nat) (tm:Tm) (H:Hp):OA:=none
def bo.pn:Nat→List Nat:=fun i=>(([(3,[])]:List (Nat×List Nat)).lookup i).getD []
def bo.tb:Nat→List (List Nat):=fun i=>(([(3,[[],[0],[0,1],[],[3],[3,4],[],[0,1,6],[0,1,6,7],[0,1,3,4,5,6,7,8],[0,1,2,3,4,5,6,7,8,9],[0,1,2,3,4,5,6,7,8,9,10]])]:List (Nat×List (List Nat))).lookup i).getD []
noncomputable def bo.mk (g:Sl→Int→Hp→OA) (args:List AV) (H:Hp):OA:=match args with
 | [(.agg [(.sl aa),(.int .i64 ab)])]=>g aa ab H
 | _=>none
noncomputable def bo.cs (F:Nat) (bf:Int→Int→Int→Hp→OA) (hJ:Sl→Int→Hp→OA) (hK:Sl→Int→Hp→OA) (hL:Sl→Int→Hp→OA):List (FuncId×(List AV→Hp→OA)):=[(65,aY.mk bf),(104,ap.mk hJ),(105,ao.mk hK),(97,aA.mk hL)]
theorem bo.loops (F:Nat) (bf:Int→Int→Int→Hp→OA) (hJ:Sl→Int→Hp→OA) (hK:Sl→Int→Hp→OA) (hL:Sl→Int→Hp→OA):LoopsOk tabs (mkOrc (bo.cs F bf hJ hK hL)) bo.pn (bo.lh F bf hJ hK hL) F [] 1 bo.code (fun tm H=>aresults tabs.ty H tm Try.f50.results.toList fun v=>some (v,H)) (fun _ _ _=>none) (fun tm H=>aresults tabs.ty H tm Try.f50.results.toList fun v=>some (v,H)):=by
 exact loops_none (by kernel_rfl)
theorem bo.eqX (F:Nat) (bf:Int→Int→Int→Hp→OA) (hJ:Sl→Int→Hp→OA) (hK:Sl→Int→Hp→OA) (hL:Sl→Int→Hp→OA) (aa:Sl) (ab:Int) (H:Hp):aCode tabs (mkOrc (bo.cs F bf hJ hK hL)) bo.pn (bo.lh F bf hJ hK hL) F [] 1 bo.code (argTm [(.agg [(.sl aa),(.int .i64 ab)])]) H (fun tm H=>aresults tabs.ty H tm Try.f50.results.toList fun v=>some (v,H)) (fun _ _ _=>none) (fun tm H=>aresults tabs.ty H tm Try.f50.results.toList fun v=>some (v,H)) = bo.twX F bf hJ hK hL aa ab H:=by kernel_rfl
theorem bo.cs_ok (F:Nat):∀ p ∈ bo.cs F (aY.tw F) (ap.tw F) (ao.tw F) (aA.tw F),∀ args H v H',p.2 args H = some (v,H')→Go.AE.T Try.prog p.1 args H v H':=by
 intro p hp
 simp only [bo.cs,List.mem_cons,List.not_mem_nil,or_false] at hp
 rcases hp with rfl | rfl | rfl | rfl
 ·exact fun args H v H' h=>aY.mk_T h
 ·exact fun args H v H' h=>ap.mk_T h
 ·exact fun args H v H' h=>ao.mk_T h
 ·exact fun args H v H' h=>aA.mk_T h
theorem bo.ok:codeOk bo.pn Try.f50.ntmps bo.tb bo.code = true:=by kernel_rfl
theorem bo.T {F:Nat} {aa:Sl} {ab:Int} {H:Hp} {v:AV} {H':Hp} (h:bo.tw F aa ab H = some (v,H')):Go.AE.T Try.prog 50 [(.agg [(.sl aa),(.int .i64 ab)])] H v H':=
 Go.AE.T.of (Y:=tabs) (C:=mkOrc (bo.cs F (aY.tw F) (ap.tw F) (ao.tw F) (aA.tw F))) (PN:=bo.pn) (LH:=bo.lh F (aY.tw F) (ap.tw F) (ao.tw F) (aA.tw F)) (F:=F) (TB:=bo.tb) (fn:=Try.f50) (code:=bo.code) mixed tabs_ok (mkOrc_ok (bo.cs_ok F)) Try.func50 (by kernel_rfl) (by kernel_rfl) bo.ok (Nat.le_of_ble_eq_true (by kernel_rfl)) (bo.loops F (aY.tw F) (ap.tw F) (ao.tw F) (aA.tw F)) (Eq.trans (bo.eqX F (aY.tw F) (ap.tw F) (ao.tw F) (aA.tw F) aa ab H) h)
theorem bo.mk_T {F:Nat} {args:List AV} {H:Hp} {v:AV} {H':Hp} (h:bo.mk (bo.tw F) args H = some (v,H')):Go.AE.T Try.prog 50 args H v H':=by
 unfold bo.mk at h
 split at h
 ·exact bo.T h
 ·cases h
noncomputable def ae.j6 (F:Nat) (pl:Nat) (BI:Nat) (BJ:Sl) (lk:Int) (H211:Hp):OA:=(Hp.ldI H211 .i64 pl (BI + 1)).bind fun n212=>some ((.tup [(.sl BJ),(.int .i64 (IntKind.i64.wrap (lk + n212)))]),H211)
noncomputable def ae.j7 (F:Nat) (C509_:Nat→Nat→Sl→Sl→Int→Int→Hp→OA) (pm:Nat) (BK:Nat) (BL:Sl) (BM:Sl) (ll:Int) (lm:Int) (H234:Hp):OA:=C509_ pm BK BL BM ll (IntKind.i64.wrap (lm + 1)) H234
noncomputable def ae.l509 (F:Nat) :Nat→Nat→Nat→Sl→Sl→Int→Int→Hp→OA
 | 0,_,_,_,_,_,_,_=>none
 | vX + 1,eI,ga,fR,gm,dl,de,H166=>(bif (decide (de < (fR.n:Int))) then ((Sl.idx fR de 1).bind fun p213=>(Hp.ldI H166 .i64 p213.1 p213.2).bind fun n214=>(bif (n214 == de) then ((Hp.new H166 [(.int .i64 dl)]).bind fun H215=>(Sl.row H215 (⟨some (H166.length,0),1,.ex 1⟩:Sl) 1).bind fun xs217=>(Hp.app H215 1 8 gm (⟨some (H166.length,0),1,.ex 1⟩:Sl).n xs217).bind fun a216=>ae.j7 F (ae.l509 F vX) eI ga fR a216.1 (IntKind.i64.wrap (dl + 1)) de a216.2) else ((Sl.idx fR de 1).bind fun p235=>(Hp.ldI H166 .i64 p235.1 p235.2).bind fun n236=>(Sl.idx gm n236 1).bind fun p237=>(Hp.ldI H166 .i64 p237.1 p237.2).bind fun n238=>(Hp.new H166 [(.int .i64 n238)]).bind fun H239=>(Sl.row H239 (⟨some (H166.length,0),1,.ex 1⟩:Sl) 1).bind fun xs241=>(Hp.app H239 1 8 gm (⟨some (H166.length,0),1,.ex 1⟩:Sl).n xs241).bind fun a240=>ae.j7 F (ae.l509 F vX) eI ga fR a240.1 dl de a240.2))) else (ae.j6 F eI ga gm dl H166))
termination_by structural n=>n
noncomputable def ae.j8 (F:Nat) (po:Nat) (BN:Nat) (BO:Sl) (H150:Hp):OA:=(Hp.new H150 []).bind fun H151=>ae.l509 F F po BN BO (⟨some (H150.length,0),0,.ex 0⟩:Sl) 0 0 H151
noncomputable def ae.j10 (F:Nat) (C61_:Nat→Nat→Sl→Int→Hp→OA) (pp:Nat) (BP:Nat) (BQ:Sl) (ln:Int) (H320:Hp):OA:=C61_ pp BP BQ (IntKind.i64.wrap (ln + 1)) H320
noncomputable def ae.j11 (F:Nat) (C61_:Nat→Nat→Sl→Int→Hp→OA) (pq:Nat) (BR:Nat) (BS:Sl) (lp:Int) (H304:Hp):OA:=ae.j10 F C61_ pq BR BS lp H304
noncomputable def ae.j12 (F:Nat) (C1963_:Nat→Nat→Sl→Int→Int→Int→Int→Hp→OA) (pr:Nat) (BT:Nat) (BU:Sl) (lq:Int) (lr:Int) (lu:Int) (lv:Int) (H341:Hp):OA:=C1963_ pr BT BU lq lr lu (IntKind.i64.wrap (lv + 1)) H341
noncomputable def ae.l1963 (F:Nat) (C61_:Nat→Nat→Sl→Int→Hp→OA):Nat→Nat→Nat→Sl→Int→Int→Int→Int→Hp→OA
 | 0,_,_,_,_,_,_,_,_=>none
 | vY + 1,eD,fS,fx,dM,cN,cY,dy,H267=>(bif (decide (dy < (fx.n:Int))) then ((Sl.idx fx dy 1).bind fun p321=>(Hp.ldI H267 .i64 p321.1 p321.2).bind fun n322=>(bif (n322 == (if cY > cN then cY else cN)) then ((Sl.idx fx dy 1).bind fun p323=>(Hp.st H267 p323.1 p323.2 (.int .i64 (if cY < cN then cY else cN))).bind fun H324=>ae.j12 F (ae.l1963 F C61_ vY) eD fS fx dM cN cY dy H324) else (ae.j12 F (ae.l1963 F C61_ vY) eD fS fx dM cN cY dy H267))) else (ae.j11 F C61_ eD fS fx dM H267))
termination_by structural n=>n
noncomputable def ae.l61 (F:Nat) :Nat→Nat→Nat→Sl→Int→Hp→OA
 | 0,_,_,_,_,_=>none
 | bj + 1,eJ,gb,gD,dY,H38=>(Hp.ldSl H38 eJ gb).bind fun s242=>(bif (decide (dY < (s242.n:Int))) then ((Hp.ldSl H38 eJ gb).bind fun s243=>(Sl.idx s243 dY 5).bind fun p244=>(Hp.ldI H38 .i64 p244.1 (p244.2 + 1)).bind fun n245=>(Sl.idx gD n245 1).bind fun p246=>(Hp.ldI H38 .i64 p246.1 p246.2).bind fun n247=>(Hp.ldSl H38 eJ gb).bind fun s248=>(Sl.idx s248 dY 5).bind fun p249=>(Hp.ldI H38 .i64 p249.1 (p249.2 + 3)).bind fun n250=>(Sl.idx gD n250 1).bind fun p251=>(Hp.ldI H38 .i64 p251.1 p251.2).bind fun n252=>ae.l1963 F (ae.l61 F bj) F eJ gb gD dY n247 n252 0 H38) else (ae.j8 F eJ gb gD H38))
termination_by structural n=>n
noncomputable def ae.j13 (F:Nat) (lg:Nat) (BV:Nat) (BW:Sl) (H27:Hp):OA:=ae.l61 F F lg BV BW 0 H27
noncomputable def ae.l29 (F:Nat) :Nat→Nat→Nat→Sl→Int→Hp→OA
 | 0,_,_,_,_,_=>none
 | cZ + 1,cl,bV,cv,dZ,H13=>(Hp.ldSl H13 cl bV).bind fun s342=>(bif (decide (dZ < (IntKind.i64.wrap (2 * (s342.n:Int))))) then ((Hp.new H13 [(.int .i64 dZ)]).bind fun H343=>(Sl.row H343 (⟨some (H13.length,0),1,.ex 1⟩:Sl) 1).bind fun xs345=>(Hp.app H343 1 8 cv (⟨some (H13.length,0),1,.ex 1⟩:Sl).n xs345).bind fun a344=>ae.l29 F cZ cl bV a344.1 (IntKind.i64.wrap (dZ + 1)) a344.2) else (ae.j13 F cl bV cv H13))
termination_by structural n=>n
noncomputable def ae.twX (F:Nat) (aa:Sl) (ab:Int) (H:Hp):OA:=(Hp.new H [(.sl aa),(.int .i64 ab)]).bind fun H3=>(Hp.new H3 []).bind fun H4=>ae.l29 F F H.length 0 (⟨some (H3.length,0),0,.ex 0⟩:Sl) 0 H4
noncomputable def ae.tw (F:Nat) (aa:Sl) (ab:Int) (H:Hp):OA:=ae.twX F aa ab H
noncomputable def ae.code:Go.Code:=(Try.f59.body).getD .skip
noncomputable def ae.lh29 (F:Nat) (ks:List Nat) (n:Nat) (tm:Tm) (H:Hp):OA:=match ks,tm 1,tm 4,tm 5 with
 | [],(.ptr cl bV),(.sl cv),(.int .i64 dZ)=>ae.l29 F n cl bV cv dZ H
 | _,_,_,_=>none
theorem ae.lh29_inv {F:Nat} {ks:List Nat} {n:Nat} {tm:Tm} {H:Hp} {r:AV×Hp} (h:ae.lh29 F ks n tm H = some r):∃ cl:Nat,∃ bV:Nat,∃ cv:Sl,∃ dZ:Int,ks = []∧tm 1 = (.ptr cl bV)∧tm 4 = (.sl cv)∧tm 5 = (.int .i64 dZ)∧ae.l29 F n cl bV cv dZ H = some r:=by
 unfold ae.lh29 at h
 split at h
 ·exact ⟨_,_,_,_,rfl,by assumption,by assumption,by assumption,h⟩
 ·cases h
noncomputable def ae.lh61 (F:Nat) (ks:List Nat) (n:Nat) (tm:Tm) (H:Hp):OA:=match ks,tm 1,tm 4,tm 6 with
 | [],(.ptr eJ gb),(.sl gD),(.int .i64 dY)=>ae.l61 F n eJ gb gD dY H
 | _,_,_,_=>none
theorem ae.lh61_inv {F:Nat} {ks:List Nat} {n:Nat} {tm:Tm} {H:Hp} {r:AV×Hp} (h:ae.lh61 F ks n tm H = some r):∃ eJ:Nat,∃ gb:Nat,∃ gD:Sl,∃ dY:Int,ks = []∧tm 1 = (.ptr eJ gb)∧tm 4 = (.sl gD)∧tm 6 = (.int .i64 dY)∧ae.l61 F n eJ gb gD dY H = some r:=by
 unfold ae.lh61 at h
 split at h
 ·exact ⟨_,_,_,_,rfl,by assumption,by assumption,by assumption,h⟩
 ·cases h
noncomputable def ae.lh509 (F:Nat) (ks:List Nat) (n:Nat) (tm:Tm) (H:Hp):OA:=match ks,tm 1,tm 4,tm 10,tm 11,tm 12 with
 | [],(.ptr eI ga),(.sl fR),(.sl gm),(.int .i64 dl),(.int .i64 de)=>ae.l509 F n eI ga fR gm dl de H
 | _,_,_,_,_,_=>none
theorem ae.lh509_inv {F:Nat} {ks:List Nat} {n:Nat} {tm:Tm} {H:Hp} {r:AV×Hp} (h:ae.lh509 F ks n tm H = some r):∃ eI:Nat,∃ ga:Nat,∃ fR:Sl,∃ gm:Sl,∃ dl:Int,∃ de:Int,ks = []∧tm 1 = (.ptr eI ga)∧tm 4 = (.sl fR)∧tm 10 = (.sl gm)∧tm 11 = (.int .i64 dl)∧tm 12 = (.int .i64 de)∧ae.l509 F n eI ga fR gm dl de H = some r:=by
 unfold ae.lh509 at h
 split at h
 ·exact ⟨_,_,_,_,_,_,rfl,by assumption,by assumption,by assumption,by assumption,by assumption,h⟩
 ·cases h
noncomputable def ae.lh1963 (F:Nat) (ks:List Nat) (n:Nat) (tm:Tm) (H:Hp):OA:=match ks,tm 1,tm 4,tm 6,tm 7,tm 8,tm 9 with
 | [bj],(.ptr eD fS),(.sl fx),(.int .i64 dM),(.int .i64 cN),(.int .i64 cY),(.int .i64 dy)=>ae.l1963 F (ae.l61 F bj) n eD fS fx dM cN cY dy H
 | _,_,_,_,_,_,_=>none
theorem ae.lh1963_inv {F:Nat} {ks:List Nat} {n:Nat} {tm:Tm} {H:Hp} {r:AV×Hp} (h:ae.lh1963 F ks n tm H = some r):∃ bj:Nat,∃ eD:Nat,∃ fS:Nat,∃ fx:Sl,∃ dM:Int,∃ cN:Int,∃ cY:Int,∃ dy:Int,ks = [bj]∧tm 1 = (.ptr eD fS)∧tm 4 = (.sl fx)∧tm 6 = (.int .i64 dM)∧tm 7 = (.int .i64 cN)∧tm 8 = (.int .i64 cY)∧tm 9 = (.int .i64 dy)∧ae.l1963 F (ae.l61 F bj) n eD fS fx dM cN cY dy H = some r:=by
 unfold ae.lh1963 at h
 split at h
 ·exact ⟨_,_,_,_,_,_,_,_,rfl,by assumption,by assumption,by assumption,by assumption,by assumption,by assumption,h⟩
 ·cases h
noncomputable def ae.lh (F:Nat) (p:Nat) (ks:List Nat) (n:Nat) (tm:Tm) (H:Hp):OA:=bif p.beq 1963 then ae.lh1963 F ks n tm H else (bif p.beq 509 then ae.lh509 F ks n tm H else (bif p.beq 61 then ae.lh61 F ks n tm H else (bif p.beq 29 then ae.lh29 F ks n tm H else (none))))
def ae.pn:Nat→List Nat:=fun i=>(([(9,[]),(24,[])]:List (Nat×List Nat)).lookup i).getD []
def ae.tb:Nat→List (List Nat):=fun i=>(([(9,[[],[],[1],[],[1,2,3],[1,2,3,4],[1,2,3,4,5],[0,1,2,3,4,5,6],[0,1,2,3,4,5,6,7],[],[],[10],[],[10,11,12],[10,11,12,13],[10,11,12,13,14],[9,10,11,12,13,14,15],[9,10,11,12,13,14,15,16],[0,1,2,3,4,5,6,7,8],[0,1,2,3,4,5,6,7,8,9,10,11,12,13,14,15,16,17,18]]),(24,[[],[],[],[2],[1,2,3],[0],[0,1,2,3,4,5]])]:List (Nat×List (List Nat))).lookup i).getD []
noncomputable def ae.mk (g:Sl→Int→Hp→OA) (args:List AV) (H:Hp):OA:=match args with
 | [(.agg [(.sl aa),(.int .i64 ab)])]=>g aa ab H
 | _=>none
noncomputable def ae.cs (F:Nat):List (FuncId×(List AV→Hp→OA)):=[]
theorem ae.loops (F:Nat):LoopsOk tabs (mkOrc (ae.cs F)) ae.pn (ae.lh F) F [] 1 ae.code (fun tm H=>aresults tabs.ty H tm Try.f59.results.toList fun v=>some (v,H)) (fun _ _ _=>none) (fun tm H=>aresults tabs.ty H tm Try.f59.results.toList fun v=>some (v,H)):=by
 refine LoopsOk.seq ?_ ?_
 ·exact loops_none (by kernel_rfl)
 ·refine LoopsOk.seq ?_ ?_
  ·exact loops_none (by kernel_rfl)
  ·refine LoopsOk.seq ?_ ?_
   ·refine LoopsOk.seq ?_ ?_
    ·exact loops_none (by kernel_rfl)
    ·refine LoopsOk.block ?_
     refine LoopsOk.loop (fun tm H=>?_) (fun k29 tm H r h0=>?_) (fun k29=>?_)
     ·refine none_of fun r h0=>?_
      obtain ⟨cl,bV,cv,dZ,hks,e1,e4,e5,h⟩:=ae.lh29_inv (show ae.lh29 F [] 0 tm H = some r from h0)
      cases h
     ·obtain ⟨cl,bV,cv,dZ,hks,e1,e4,e5,h⟩:=ae.lh29_inv (show ae.lh29 F [] (k29 + 1) tm H = some r from h0)
      have q0:(Tm.put tm 1 (.ptr cl bV)) = tm:=by exact Tm.put_same e1
      have q1:(Tm.put (Tm.put tm 1 (.ptr cl bV)) 4 (.sl cv)) = tm:=by rw [q0]; exact Tm.put_same e4
      have q2:(Tm.put (Tm.put (Tm.put tm 1 (.ptr cl bV)) 4 (.sl cv)) 5 (.int .i64 dZ)) = tm:=by rw [q1]; exact Tm.put_same e5
      rw [← q2]
      exact Eq.trans (by kernel_rfl) h
     ·exact loops_none (by kernel_rfl)
   ·refine LoopsOk.seq ?_ ?_
    ·refine LoopsOk.seq ?_ ?_
     ·exact loops_none (by kernel_rfl)
     ·refine LoopsOk.block ?_
      refine LoopsOk.loop (fun tm H=>?_) (fun k61 tm H r h0=>?_) (fun k61=>?_)
      ·refine none_of fun r h0=>?_
       obtain ⟨eJ,gb,gD,dY,hks,e1,e4,e6,h⟩:=ae.lh61_inv (show ae.lh61 F [] 0 tm H = some r from h0)
       cases h
      ·obtain ⟨eJ,gb,gD,dY,hks,e1,e4,e6,h⟩:=ae.lh61_inv (show ae.lh61 F [] (k61 + 1) tm H = some r from h0)
       have q0:(Tm.put tm 1 (.ptr eJ gb)) = tm:=by exact Tm.put_same e1
       have q1:(Tm.put (Tm.put tm 1 (.ptr eJ gb)) 4 (.sl gD)) = tm:=by rw [q0]; exact Tm.put_same e4
       have q2:(Tm.put (Tm.put (Tm.put tm 1 (.ptr eJ gb)) 4 (.sl gD)) 6 (.int .i64 dY)) = tm:=by rw [q1]; exact Tm.put_same e6
       rw [← q2]
       exact Eq.trans (by kernel_rfl) h
      ·refine LoopsOk.seq ?_ ?_
       ·exact loops_none (by kernel_rfl)
       ·refine LoopsOk.seq ?_ ?_
        ·refine LoopsOk.block ?_
         refine LoopsOk.seq ?_ ?_
         ·exact loops_none (by kernel_rfl)
         ·refine LoopsOk.seq ?_ ?_
          ·exact loops_none (by kernel_rfl)
          ·refine LoopsOk.block ?_
           refine LoopsOk.loop (fun tm H=>?_) (fun k1963 tm H r h0=>?_) (fun k1963=>?_)
           ·refine none_of fun r h0=>?_
            obtain ⟨bj,eD,fS,fx,dM,cN,cY,dy,hks,e1,e4,e6,e7,e8,e9,h⟩:=ae.lh1963_inv (show ae.lh1963 F [k61] 0 tm H = some r from h0)
            cases h
           ·obtain ⟨bj,eD,fS,fx,dM,cN,cY,dy,hks,e1,e4,e6,e7,e8,e9,h⟩:=ae.lh1963_inv (show ae.lh1963 F [k61] (k1963 + 1) tm H = some r from h0)
            obtain rfl:bj = k61:=by simpa [eq_comm] using hks
            have q0:(Tm.put tm 1 (.ptr eD fS)) = tm:=by exact Tm.put_same e1
            have q1:(Tm.put (Tm.put tm 1 (.ptr eD fS)) 4 (.sl fx)) = tm:=by rw [q0]; exact Tm.put_same e4
            have q2:(Tm.put (Tm.put (Tm.put tm 1 (.ptr eD fS)) 4 (.sl fx)) 6 (.int .i64 dM)) = tm:=by rw [q1]; exact Tm.put_same e6
            have q3:(Tm.put (Tm.put (Tm.put (Tm.put tm 1 (.ptr eD fS)) 4 (.sl fx)) 6 (.int .i64 dM)) 7 (.int .i64 cN)) = tm:=by rw [q2]; exact Tm.put_same e7
            have q4:(Tm.put (Tm.put (Tm.put (Tm.put (Tm.put tm 1 (.ptr eD fS)) 4 (.sl fx)) 6 (.int .i64 dM)) 7 (.int .i64 cN)) 8 (.int .i64 cY)) = tm:=by rw [q3]; exact Tm.put_same e8
            have q5:(Tm.put (Tm.put (Tm.put (Tm.put (Tm.put (Tm.put tm 1 (.ptr eD fS)) 4 (.sl fx)) 6 (.int .i64 dM)) 7 (.int .i64 cN)) 8 (.int .i64 cY)) 9 (.int .i64 dy)) = tm:=by rw [q4]; exact Tm.put_same e9
            rw [← q5]
            exact Eq.trans (by kernel_rfl) h
           ·exact loops_none (by kernel_rfl)
        ·exact loops_none (by kernel_rfl)
    ·refine LoopsOk.seq ?_ ?_
     ·exact loops_none (by kernel_rfl)
     ·refine LoopsOk.seq ?_ ?_
      ·exact loops_none (by kernel_rfl)
      ·refine LoopsOk.seq ?_ ?_
       ·refine LoopsOk.seq ?_ ?_
        ·exact loops_none (by kernel_rfl)
        ·refine LoopsOk.block ?_
         refine LoopsOk.loop (fun tm H=>?_) (fun k509 tm H r h0=>?_) (fun k509=>?_)
         ·refine none_of fun r h0=>?_
          obtain ⟨eI,ga,fR,gm,dl,de,hks,e1,e4,e10,e11,e12,h⟩:=ae.lh509_inv (show ae.lh509 F [] 0 tm H = some r from h0)
          cases h
         ·obtain ⟨eI,ga,fR,gm,dl,de,hks,e1,e4,e10,e11,e12,h⟩:=ae.lh509_inv (show ae.lh509 F [] (k509 + 1) tm H = some r from h0)
          have q0:(Tm.put tm 1 (.ptr eI ga)) = tm:=by exact Tm.put_same e1
          have q1:(Tm.put (Tm.put tm 1 (.ptr eI ga)) 4 (.sl fR)) = tm:=by rw [q0]; exact Tm.put_same e4
          have q2:(Tm.put (Tm.put (Tm.put tm 1 (.ptr eI ga)) 4 (.sl fR)) 10 (.sl gm)) = tm:=by rw [q1]; exact Tm.put_same e10
          have q3:(Tm.put (Tm.put (Tm.put (Tm.put tm 1 (.ptr eI ga)) 4 (.sl fR)) 10 (.sl gm)) 11 (.int .i64 dl)) = tm:=by rw [q2]; exact Tm.put_same e11
          have q4:(Tm.put (Tm.put (Tm.put (Tm.put (Tm.put tm 1 (.ptr eI ga)) 4 (.sl fR)) 10 (.sl gm)) 11 (.int .i64 dl)) 12 (.int .i64 de)) = tm:=by rw [q3]; exact Tm.put_same e12
          rw [← q4]
          exact Eq.trans (by kernel_rfl) h
         ·exact loops_none (by kernel_rfl)
       ·exact loops_none (by kernel_rfl)
theorem ae.eqX (F:Nat) (aa:Sl) (ab:Int) (H:Hp):aCode tabs (mkOrc (ae.cs F)) ae.pn (ae.lh F) F [] 1 ae.code (argTm [(.agg [(.sl aa),(.int .i64 ab)])]) H (fun tm H=>aresults tabs.ty H tm Try.f59.results.toList fun v=>some (v,H)) (fun _ _ _=>none) (fun tm H=>aresults tabs.ty H tm Try.f59.results.toList fun v=>some (v,H)) = ae.twX F aa ab H:=by kernel_rfl
theorem ae.cs_ok (F:Nat):∀ p ∈ ae.cs F,∀ args H v H',p.2 args H = some (v,H')→Go.AE.T Try.prog p.1 args H v H':=by
 intro p hp
 exact absurd (show p ∈ [] from hp) List.not_mem_nil
theorem ae.ok:codeOk ae.pn Try.f59.ntmps ae.tb ae.code = true:=by kernel_rfl
theorem ae.T {F:Nat} {aa:Sl} {ab:Int} {H:Hp} {v:AV} {H':Hp} (h:ae.tw F aa ab H = some (v,H')):Go.AE.T Try.prog 59 [(.agg [(.sl aa),(.int .i64 ab)])] H v H':=
 Go.AE.T.of (Y:=tabs) (C:=mkOrc (ae.cs F)) (PN:=ae.pn) (LH:=ae.lh F) (F:=F) (TB:=ae.tb) (fn:=Try.f59) (code:=ae.code) mixed tabs_ok (mkOrc_ok (ae.cs_ok F)) Try.func59 (by kernel_rfl) (by kernel_rfl) ae.ok (Nat.le_of_ble_eq_true (by kernel_rfl)) (ae.loops F) (Eq.trans (ae.eqX F aa ab H) h)
theorem ae.mk_T {F:Nat} {args:List AV} {H:Hp} {v:AV} {H':Hp} (h:ae.mk (ae.tw F) args H = some (v,H')):Go.AE.T Try.prog 59 args H v H':=by
 unfold ae.mk at h
 split at h
 ·exact ae.T h
 ·cases h
noncomputable def bE.twX (F:Nat) (aa:Int) (ad:Int) (H:Hp):OA:=(Hp.new H [.int .i64 0,.int .i64 0,.sl ⟨none,0,.ex 0⟩]).bind fun H3=>(Hp.mk H3 [.int .i64 0] 8 (IntKind.i64.wrap (aa * ad)) (IntKind.i64.wrap (aa * ad))).bind fun m4=>(Hp.st m4.2 H.length 0 (.int .i64 aa)).bind fun H5=>(Hp.st H5 H.length (0 + 1) (.int .i64 ad)).bind fun H6=>(Hp.st H6 H.length (0 + 1 + 1) (.sl m4.1)).bind fun H7=>(Hp.ldI H7 .i64 H.length 0).bind fun n8=>(Hp.ldI H7 .i64 H.length (0 + 1)).bind fun n9=>(Hp.ldSl H7 H.length (0 + 2)).bind fun s10=>some ((.agg [(.int .i64 n8),(.int .i64 n9),(.sl s10)]),H7)
noncomputable def bE.tw (F:Nat) (aa:Int) (ad:Int) (H:Hp):OA:=bE.twX F aa ad H
noncomputable def bE.code:Go.Code:=(Try.f130.body).getD .skip
noncomputable def bE.lh (F:Nat) (p:Nat) (ks:List Nat) (n:Nat) (tm:Tm) (H:Hp):OA:=none
def bE.pn:Nat→List Nat:=fun i=>(([]:List (Nat×List Nat)).lookup i).getD []
def bE.tb:Nat→List (List Nat):=fun i=>(([]:List (Nat×List (List Nat))).lookup i).getD []
noncomputable def bE.mk (g:Int→Int→Hp→OA) (args:List AV) (H:Hp):OA:=match args with
 | [(.int .i64 aa),(.int .i64 ad)]=>g aa ad H
 | _=>none
noncomputable def bE.cs (F:Nat):List (FuncId×(List AV→Hp→OA)):=[]
theorem bE.loops (F:Nat):LoopsOk tabs (mkOrc (bE.cs F)) bE.pn (bE.lh F) F [] 1 bE.code (fun tm H=>aresults tabs.ty H tm Try.f130.results.toList fun v=>some (v,H)) (fun _ _ _=>none) (fun tm H=>aresults tabs.ty H tm Try.f130.results.toList fun v=>some (v,H)):=by
 exact loops_none (by kernel_rfl)
theorem bE.eqX (F:Nat) (aa:Int) (ad:Int) (H:Hp):aCode tabs (mkOrc (bE.cs F)) bE.pn (bE.lh F) F [] 1 bE.code (argTm [(.int .i64 aa),(.int .i64 ad)]) H (fun tm H=>aresults tabs.ty H tm Try.f130.results.toList fun v=>some (v,H)) (fun _ _ _=>none) (fun tm H=>aresults tabs.ty H tm Try.f130.results.toList fun v=>some (v,H)) = bE.twX F aa ad H:=by kernel_rfl
theorem bE.cs_ok (F:Nat):∀ p ∈ bE.cs F,∀ args H v H',p.2 args H = some (v,H')→Go.AE.T Try.prog p.1 args H v H':=by
 intro p hp
 exact absurd (show p ∈ [] from hp) List.not_mem_nil
theorem bE.ok:codeOk bE.pn Try.f130.ntmps bE.tb bE.code = true:=by kernel_rfl
theorem bE.T {F:Nat} {aa:Int} {ad:Int} {H:Hp} {v:AV} {H':Hp} (h:bE.tw F aa ad H = some (v,H')):Go.AE.T Try.prog 130 [(.int .i64 aa),(.int .i64 ad)] H v H':=
 Go.AE.T.of (Y:=tabs) (C:=mkOrc (bE.cs F)) (PN:=bE.pn) (LH:=bE.lh F) (F:=F) (TB:=bE.tb) (fn:=Try.f130) (code:=bE.code) mixed tabs_ok (mkOrc_ok (bE.cs_ok F)) Try.func130 (by kernel_rfl) (by kernel_rfl) bE.ok (Nat.le_of_ble_eq_true (by kernel_rfl)) (bE.loops F) (Eq.trans (bE.eqX F aa ad H) h)
theorem bE.mk_T {F:Nat} {args:List AV} {H:Hp} {v:AV} {H':Hp} (h:bE.mk (bE.tw F) args H = some (v,H')):Go.AE.T Try.prog 130 args H v H':=by
 unfold bE.mk at h
 split at h
 ·exact bE.T h
 ·cases h
noncomputable def aK.l61 (F:Nat) (d_:Sl→Int→Hp→OA) (ea:Int→Int→Hp→OA) :Nat→Nat→Nat→Nat→Nat→Sl→Int→Nat→Nat→Int→Hp→OA
 | 0,_,_,_,_,_,_,_,_,_,_=>none
 | bj + 1,cd,cC,dz,eV,gc,cG,bS,eK,cD,H37=>(Hp.ldI H37 .i64 bS eK).bind fun n88=>(bif (decide (cD < n88)) then ((Hp.ldSl H37 cd cC).bind fun s89=>(Sl.idx s89 cD 5).bind fun p90=>(Hp.ldI H37 .i64 p90.1 p90.2).bind fun n91=>(Hp.ldI H37 .i64 p90.1 (p90.2 + 1)).bind fun n92=>(Hp.ldI H37 .i64 p90.1 (p90.2 + 2)).bind fun n93=>(Hp.ldI H37 .i64 p90.1 (p90.2 + 3)).bind fun n94=>(Hp.ldI H37 .i64 p90.1 (p90.2 + 4)).bind fun n95=>(Hp.new H37 [.int .i64 0,.int .i64 0,.int .i64 0,.int .i64 0,.int .i64 0]).bind fun H96=>(Hp.st H96 H37.length 0 (.int .i64 n91)).bind fun H97=>(Hp.st H97 H37.length (0 + 1) (.int .i64 n92)).bind fun H98=>(Hp.st H98 H37.length (0 + 1 + 1) (.int .i64 n93)).bind fun H99=>(Hp.st H99 H37.length (0 + 1 + 1 + 1) (.int .i64 n94)).bind fun H100=>(Hp.st H100 H37.length (0 + 1 + 1 + 1 + 1) (.int .i64 n95)).bind fun H101=>(Hp.ldI H101 .i64 H37.length 0).bind fun n102=>(Sl.idx gc n102 1).bind fun p103=>(Hp.ldI H101 .i64 p103.1 p103.2).bind fun n104=>(Hp.ldI H101 .i64 H37.length 2).bind fun n105=>(Sl.idx gc n105 1).bind fun p106=>(Hp.ldI H101 .i64 p106.1 p106.2).bind fun n107=>(Hp.ldI H101 .i64 H37.length 1).bind fun n108=>(Sl.idx gc n108 1).bind fun p109=>(Hp.ldI H101 .i64 p109.1 p109.2).bind fun n110=>(Hp.ldSl H101 bS (eK + 2)).bind fun s111=>(Hp.ldSl H101 bS (eK + 2)).bind fun s112=>(Sl.idx s112 (IntKind.i64.wrap ((IntKind.i64.wrap (cD * cG)) + n104)) 1).bind fun p113=>(Hp.ldI H101 .i64 p113.1 p113.2).bind fun n114=>(Sl.idx s111 (IntKind.i64.wrap ((IntKind.i64.wrap (cD * cG)) + n104)) 1).bind fun p115=>(Hp.st H101 p115.1 p115.2 (.int .i64 (IntKind.i64.wrap (n114 - 1)))).bind fun H116=>(Hp.ldSl H116 bS (eK + 2)).bind fun s117=>(Hp.ldSl H116 bS (eK + 2)).bind fun s118=>(Sl.idx s118 (IntKind.i64.wrap ((IntKind.i64.wrap (cD * cG)) + n107)) 1).bind fun p119=>(Hp.ldI H116 .i64 p119.1 p119.2).bind fun n120=>(Sl.idx s117 (IntKind.i64.wrap ((IntKind.i64.wrap (cD * cG)) + n107)) 1).bind fun p121=>(Hp.st H116 p121.1 p121.2 (.int .i64 (IntKind.i64.wrap (n120 - 1)))).bind fun H122=>(Hp.ldSl H122 bS (eK + 2)).bind fun s123=>(Hp.ldSl H122 bS (eK + 2)).bind fun s124=>(Sl.idx s124 (IntKind.i64.wrap ((IntKind.i64.wrap (cD * cG)) + n110)) 1).bind fun p125=>(Hp.ldI H122 .i64 p125.1 p125.2).bind fun n126=>(Sl.idx s123 (IntKind.i64.wrap ((IntKind.i64.wrap (cD * cG)) + n110)) 1).bind fun p127=>(Hp.st H122 p127.1 p127.2 (.int .i64 (IntKind.i64.wrap (n126 + 2)))).bind fun H128=>aK.l61 F d_ ea bj cd cC dz eV gc cG bS eK (IntKind.i64.wrap (cD + 1)) H128) else ((Hp.ldI H37 .i64 bS eK).bind fun n129=>(Hp.ldI H37 .i64 bS (eK + 1)).bind fun n130=>(Hp.ldSl H37 bS (eK + 2)).bind fun s131=>(Hp.st H37 dz eV (.int .i64 n129)).bind fun H132=>(Hp.st H132 dz (eV + 1) (.int .i64 n130)).bind fun H133=>(Hp.st H133 dz (eV + 1 + 1) (.sl s131)).bind fun H134=>(Hp.ldI H134 .i64 dz eV).bind fun n135=>(Hp.ldI H134 .i64 dz (eV + 1)).bind fun n136=>(Hp.ldSl H134 dz (eV + 2)).bind fun s137=>some ((.agg [(.int .i64 n135),(.int .i64 n136),(.sl s137)]),H134)))
termination_by structural n=>n
noncomputable def aK.twX (F:Nat) (d_:Sl→Int→Hp→OA) (ea:Int→Int→Hp→OA) (aa:Sl) (ab:Int) (H:Hp):OA:=(Hp.new H [(.sl aa),(.int .i64 ab)]).bind fun H3=>(Hp.new H3 [.int .i64 0,.int .i64 0,.sl ⟨none,0,.ex 0⟩]).bind fun H4=>(Hp.ldSl H4 H.length 0).bind fun s5=>(Hp.ldI H4 .i64 H.length (0 + 1)).bind fun n6=>(d_ s5 n6 H4).bind fun r7=>((r7.1).asTup 2).bind fun l8=>(l8[0]?).bind fun v9=>((v9).asSl).bind fun s10=>(l8[1]?).bind fun v11=>((v11).asI .i64).bind fun n12=>(Hp.ldSl r7.2 H.length 0).bind fun s13=>(ea (s13.n:Int) n12 r7.2).bind fun r14=>((r14.1).asAgg 3).bind fun l15=>(l15[0]?).bind fun v16=>((v16).asI .i64).bind fun n17=>(l15[1]?).bind fun v18=>((v18).asI .i64).bind fun n19=>(l15[2]?).bind fun v20=>((v20).asSl).bind fun s21=>(Hp.new r14.2 [.int .i64 0,.int .i64 0,.sl ⟨none,0,.ex 0⟩]).bind fun H22=>(Hp.st H22 r14.2.length 0 (.int .i64 n17)).bind fun H23=>(Hp.st H23 r14.2.length (0 + 1) (.int .i64 n19)).bind fun H24=>(Hp.st H24 r14.2.length (0 + 1 + 1) (.sl s21)).bind fun H25=>aK.l61 F d_ ea F H.length 0 H3.length 0 s10 n12 r14.2.length 0 0 H25
noncomputable def aK.tw (F:Nat) (aa:Sl) (ab:Int) (H:Hp):OA:=aK.twX F (ae.tw F) (bE.tw F) aa ab H
noncomputable def aK.code:Go.Code:=(Try.f76.body).getD .skip
noncomputable def aK.lh61 (F:Nat) (d_:Sl→Int→Hp→OA) (ea:Int→Int→Hp→OA) (ks:List Nat) (n:Nat) (tm:Tm) (H:Hp):OA:=match ks,tm 1,tm 2,tm 3,tm 4,tm 5,tm 6 with
 | [],(.ptr cd cC),(.ptr dz eV),(.sl gc),(.int .i64 cG),(.ptr bS eK),(.int .i64 cD)=>aK.l61 F d_ ea n cd cC dz eV gc cG bS eK cD H
 | _,_,_,_,_,_,_=>none
theorem aK.lh61_inv {F:Nat} {d_:Sl→Int→Hp→OA} {ea:Int→Int→Hp→OA} {ks:List Nat} {n:Nat} {tm:Tm} {H:Hp} {r:AV×Hp} (h:aK.lh61 F d_ ea ks n tm H = some r):∃ cd:Nat,∃ cC:Nat,∃ dz:Nat,∃ eV:Nat,∃ gc:Sl,∃ cG:Int,∃ bS:Nat,∃ eK:Nat,∃ cD:Int,ks = []∧tm 1 = (.ptr cd cC)∧tm 2 = (.ptr dz eV)∧tm 3 = (.sl gc)∧tm 4 = (.int .i64 cG)∧tm 5 = (.ptr bS eK)∧tm 6 = (.int .i64 cD)∧aK.l61 F d_ ea n cd cC dz eV gc cG bS eK cD H = some r:=by
 unfold aK.lh61 at h
 split at h
 ·exact ⟨_,_,_,_,_,_,_,_,_,rfl,by assumption,by assumption,by assumption,by assumption,by assumption,by assumption,h⟩
 ·cases h
noncomputable def aK.lh (F:Nat) (d_:Sl→Int→Hp→OA) (ea:Int→Int→Hp→OA) (p:Nat) (ks:List Nat) (n:Nat) (tm:Tm) (H:Hp):OA:=bif p.beq 61 then aK.lh61 F d_ ea ks n tm H else (none)
def aK.pn:Nat→List Nat:=fun i=>(([(7,[]),(8,[10]),(9,[10]),(10,[10])]:List (Nat×List Nat)).lookup i).getD []
def aK.tb:Nat→List (List Nat):=fun i=>(([(7,[[],[],[0,1],[],[],[4],[3,4,5],[3,4,5,6],[0,1,2,3,4,5,6,7],[],[],[9,10],[],[],[13],[12,13,14],[12,13,14,15],[9,10,11,12,13,14,15,16],[],[],[18,19],[],[],[22],[21,22,23],[21,22,23,24],[18,19,20,21,22,23,24,25],[0,1,2,3,4,5,6,7,8],[0,1,2,3,4,5,6,7,8,9,10,11,12,13,14,15,16,17,27],[0,1,2,3,4,5,6,7,8,9,10,11,12,13,14,15,16,17,18,19,20,21,22,23,24,25,26,27,28]]),(8,[[],[0],[],[],[3],[],[3,4,5],[3,4,5,6],[3,4,5,6,7],[0,1,2,3,4,5,6,7,8],[0,1,2,3,4,5,6,7,8,9]]),(9,[[],[0],[],[],[3],[],[3,4,5],[3,4,5,6],[3,4,5,6,7],[0,1,2,3,4,5,6,7,8],[0,1,2,3,4,5,6,7,8,9]]),(10,[[],[0],[],[],[3],[],[3,4,5],[3,4,5,6],[3,4,5,6,7],[0,1,2,3,4,5,6,7,8],[0,1,2,3,4,5,6,7,8,9]])]:List (Nat×List (List Nat))).lookup i).getD []
noncomputable def aK.mk (g:Sl→Int→Hp→OA) (args:List AV) (H:Hp):OA:=match args with
 | [(.agg [(.sl aa),(.int .i64 ab)])]=>g aa ab H
 | _=>none
noncomputable def aK.cs (F:Nat) (d_:Sl→Int→Hp→OA) (ea:Int→Int→Hp→OA):List (FuncId×(List AV→Hp→OA)):=[(59,ae.mk d_),(130,bE.mk ea)]
theorem aK.loops (F:Nat) (d_:Sl→Int→Hp→OA) (ea:Int→Int→Hp→OA):LoopsOk tabs (mkOrc (aK.cs F d_ ea)) aK.pn (aK.lh F d_ ea) F [] 1 aK.code (fun tm H=>aresults tabs.ty H tm Try.f76.results.toList fun v=>some (v,H)) (fun _ _ _=>none) (fun tm H=>aresults tabs.ty H tm Try.f76.results.toList fun v=>some (v,H)):=by
 refine LoopsOk.seq ?_ ?_
 ·exact loops_none (by kernel_rfl)
 ·refine LoopsOk.seq ?_ ?_
  ·exact loops_none (by kernel_rfl)
  ·refine LoopsOk.seq ?_ ?_
   ·exact loops_none (by kernel_rfl)
   ·refine LoopsOk.seq ?_ ?_
    ·refine LoopsOk.seq ?_ ?_
     ·exact loops_none (by kernel_rfl)
     ·refine LoopsOk.block ?_
      refine LoopsOk.loop (fun tm H=>?_) (fun k61 tm H r h0=>?_) (fun k61=>?_)
      ·refine none_of fun r h0=>?_
       obtain ⟨cd,cC,dz,eV,gc,cG,bS,eK,cD,hks,e1,e2,e3,e4,e5,e6,h⟩:=aK.lh61_inv (show aK.lh61 F d_ ea [] 0 tm H = some r from h0)
       cases h
      ·obtain ⟨cd,cC,dz,eV,gc,cG,bS,eK,cD,hks,e1,e2,e3,e4,e5,e6,h⟩:=aK.lh61_inv (show aK.lh61 F d_ ea [] (k61 + 1) tm H = some r from h0)
       have q0:(Tm.put tm 1 (.ptr cd cC)) = tm:=by exact Tm.put_same e1
       have q1:(Tm.put (Tm.put tm 1 (.ptr cd cC)) 2 (.ptr dz eV)) = tm:=by rw [q0]; exact Tm.put_same e2
       have q2:(Tm.put (Tm.put (Tm.put tm 1 (.ptr cd cC)) 2 (.ptr dz eV)) 3 (.sl gc)) = tm:=by rw [q1]; exact Tm.put_same e3
       have q3:(Tm.put (Tm.put (Tm.put (Tm.put tm 1 (.ptr cd cC)) 2 (.ptr dz eV)) 3 (.sl gc)) 4 (.int .i64 cG)) = tm:=by rw [q2]; exact Tm.put_same e4
       have q4:(Tm.put (Tm.put (Tm.put (Tm.put (Tm.put tm 1 (.ptr cd cC)) 2 (.ptr dz eV)) 3 (.sl gc)) 4 (.int .i64 cG)) 5 (.ptr bS eK)) = tm:=by rw [q3]; exact Tm.put_same e5
       have q5:(Tm.put (Tm.put (Tm.put (Tm.put (Tm.put (Tm.put tm 1 (.ptr cd cC)) 2 (.ptr dz eV)) 3 (.sl gc)) 4 (.int .i64 cG)) 5 (.ptr bS eK)) 6 (.int .i64 cD)) = tm:=by rw [q4]; exact Tm.put_same e6
       rw [← q5]
       exact Eq.trans (by kernel_rfl) h
      ·exact loops_none (by kernel_rfl)
    ·exact loops_none (by kernel_rfl)
theorem aK.eqX (F:Nat) (d_:Sl→Int→Hp→OA) (ea:Int→Int→Hp→OA) (aa:Sl) (ab:Int) (H:Hp):aCode tabs (mkOrc (aK.cs F d_ ea)) aK.pn (aK.lh F d_ ea) F [] 1 aK.code (argTm [(.agg [(.sl aa),(.int .i64 ab)])]) H (fun tm H=>aresults tabs.ty H tm Try.f76.results.toList fun v=>some (v,H)) (fun _ _ _=>none) (fun tm H=>aresults tabs.ty H tm Try.f76.results.toList fun v=>some (v,H)) = aK.twX F d_ ea aa ab H:=by kernel_rfl
theorem aK.cs_ok (F:Nat):∀ p ∈ aK.cs F (ae.tw F) (bE.tw F),∀ args H v H',p.2 args H = some (v,H')→Go.AE.T Try.prog p.1 args H v H':=by
 intro p hp
 simp only [aK.cs,List.mem_cons,List.not_mem_nil,or_false] at hp
 rcases hp with rfl | rfl
 ·exact fun args H v H' h=>ae.mk_T h
 ·exact fun args H v H' h=>bE.mk_T h
theorem aK.ok:codeOk aK.pn Try.f76.ntmps aK.tb aK.code = true:=by kernel_rfl
theorem aK.T {F:Nat} {aa:Sl} {ab:Int} {H:Hp} {v:AV} {H':Hp} (h:aK.tw F aa ab H = some (v,H')):Go.AE.T Try.prog 76 [(.agg [(.sl aa),(.int .i64 ab)])] H v H':=
 Go.AE.T.of (Y:=tabs) (C:=mkOrc (aK.cs F (ae.tw F) (bE.tw F))) (PN:=aK.pn) (LH:=aK.lh F (ae.tw F) (bE.tw F)) (F:=F) (TB:=aK.tb) (fn:=Try.f76) (code:=aK.code) mixed tabs_ok (mkOrc_ok (aK.cs_ok F)) Try.func76 (by kernel_rfl) (by kernel_rfl) aK.ok (Nat.le_of_ble_eq_true (by kernel_rfl)) (aK.loops F (ae.tw F) (bE.tw F)) (Eq.trans (aK.eqX F (ae.tw F) (bE.tw F) aa ab H) h)
theorem aK.mk_T {F:Nat} {args:List AV} {H:Hp} {v:AV} {H':Hp} (h:aK.mk (aK.tw F) args H = some (v,H')):Go.AE.T Try.prog 76 args H v H':=by
 unfold aK.mk at h
 split at h
 ·exact aK.T h
 ·cases h
noncomputable def bu.twX (F:Nat) (aa:Int) (ab:Int) (ah:Sl) (ar:Int) (bb:Int) (H:Hp):OA:=(Hp.new H [(.int .i64 aa),(.int .i64 ab),(.sl ah)]).bind fun H6=>(Hp.ldSl H6 H.length 2).bind fun s7=>(Hp.ldI H6 .i64 H.length 1).bind fun n8=>(Sl.idx s7 (IntKind.i64.wrap ((IntKind.i64.wrap (ar * n8)) + bb)) 1).bind fun p9=>(Hp.ldI H6 .i64 p9.1 p9.2).bind fun n10=>some ((.int .i64 n10),H6)
noncomputable def bu.tw (F:Nat) (aa:Int) (ab:Int) (ah:Sl) (ar:Int) (bb:Int) (H:Hp):OA:=bu.twX F aa ab ah ar bb H
noncomputable def bu.code:Go.Code:=(Try.f143.body).getD .skip
noncomputable def bu.lh (F:Nat) (p:Nat) (ks:List Nat) (n:Nat) (tm:Tm) (H:Hp):OA:=none
def bu.pn:Nat→List Nat:=fun i=>(([]:List (Nat×List Nat)).lookup i).getD []
def bu.tb:Nat→List (List Nat):=fun i=>(([]:List (Nat×List (List Nat))).lookup i).getD []
noncomputable def bu.mk (g:Int→Int→Sl→Int→Int→Hp→OA) (args:List AV) (H:Hp):OA:=match args with
 | [(.agg [(.int .i64 aa),(.int .i64 ab),(.sl ah)]),(.int .i64 ar),(.int .i64 bb)]=>g aa ab ah ar bb H
 | _=>none
noncomputable def bu.cs (F:Nat):List (FuncId×(List AV→Hp→OA)):=[]
theorem bu.loops (F:Nat):LoopsOk tabs (mkOrc (bu.cs F)) bu.pn (bu.lh F) F [] 1 bu.code (fun tm H=>aresults tabs.ty H tm Try.f143.results.toList fun v=>some (v,H)) (fun _ _ _=>none) (fun tm H=>aresults tabs.ty H tm Try.f143.results.toList fun v=>some (v,H)):=by
 exact loops_none (by kernel_rfl)
theorem bu.eqX (F:Nat) (aa:Int) (ab:Int) (ah:Sl) (ar:Int) (bb:Int) (H:Hp):aCode tabs (mkOrc (bu.cs F)) bu.pn (bu.lh F) F [] 1 bu.code (argTm [(.agg [(.int .i64 aa),(.int .i64 ab),(.sl ah)]),(.int .i64 ar),(.int .i64 bb)]) H (fun tm H=>aresults tabs.ty H tm Try.f143.results.toList fun v=>some (v,H)) (fun _ _ _=>none) (fun tm H=>aresults tabs.ty H tm Try.f143.results.toList fun v=>some (v,H)) = bu.twX F aa ab ah ar bb H:=by kernel_rfl
theorem bu.cs_ok (F:Nat):∀ p ∈ bu.cs F,∀ args H v H',p.2 args H = some (v,H')→Go.AE.T Try.prog p.1 args H v H':=by
 intro p hp
 exact absurd (show p ∈ [] from hp) List.not_mem_nil
theorem bu.ok:codeOk bu.pn Try.f143.ntmps bu.tb bu.code = true:=by kernel_rfl
theorem bu.T {F:Nat} {aa:Int} {ab:Int} {ah:Sl} {ar:Int} {bb:Int} {H:Hp} {v:AV} {H':Hp} (h:bu.tw F aa ab ah ar bb H = some (v,H')):Go.AE.T Try.prog 143 [(.agg [(.int .i64 aa),(.int .i64 ab),(.sl ah)]),(.int .i64 ar),(.int .i64 bb)] H v H':=
 Go.AE.T.of (Y:=tabs) (C:=mkOrc (bu.cs F)) (PN:=bu.pn) (LH:=bu.lh F) (F:=F) (TB:=bu.tb) (fn:=Try.f143) (code:=bu.code) mixed tabs_ok (mkOrc_ok (bu.cs_ok F)) Try.func143 (by kernel_rfl) (by kernel_rfl) bu.ok (Nat.le_of_ble_eq_true (by kernel_rfl)) (bu.loops F) (Eq.trans (bu.eqX F aa ab ah ar bb H) h)
theorem bu.mk_T {F:Nat} {args:List AV} {H:Hp} {v:AV} {H':Hp} (h:bu.mk (bu.tw F) args H = some (v,H')):Go.AE.T Try.prog 143 args H v H':=by
 unfold bu.mk at h
 split at h
 ·exact bu.T h
 ·cases h
noncomputable def aq.j3 (F:Nat) (cz:Int→Int→Sl→Int→Int→Hp→OA) (jw:Int) (lw:Int) (H74:Hp):OA:=(if jw = 0 then none else (some ((.bool ((Int.tmod lw jw) == 0)),H74)))
noncomputable def aq.j4 (F:Nat) (cz:Int→Int→Sl→Int→Int→Hp→OA) (C29_:Int→Sl→Int→Nat→Nat→Int→Int→Hp→OA) (lx:Int) (BX:Sl) (ly:Int) (ps:Nat) (BY:Nat) (lz:Int) (lA:Int) (H98:Hp):OA:=C29_ lx BX ly ps BY lz (IntKind.i64.wrap (lA + 1)) H98
noncomputable def aq.j5 (F:Nat) (cz:Int→Int→Sl→Int→Int→Hp→OA) (C29_:Int→Sl→Int→Nat→Nat→Int→Int→Hp→OA) (lB:Int) (BZ:Sl) (lC:Int) (pt:Nat) (B_:Nat) (lD:Int) (lE:Int) (H116:Hp):OA:=C29_ lB BZ lC pt B_ lD (IntKind.i64.wrap (lE + 1)) H116
noncomputable def aq.l29 (F:Nat) (cz:Int→Int→Sl→Int→Int→Hp→OA) :Nat→Int→Sl→Int→Nat→Nat→Int→Int→Hp→OA
 | 0,_,_,_,_,_,_,_,_=>none
 | cZ + 1,cJ,eW,bt,cm,fy,dm,cE,H19=>(Hp.ldI H19 .i64 cm (fy + 1)).bind fun n75=>(bif (decide (cE < n75)) then ((Hp.ldI H19 .i64 cm fy).bind fun n76=>(Hp.ldI H19 .i64 cm (fy + 1)).bind fun n77=>(Hp.ldSl H19 cm (fy + 2)).bind fun s78=>(cz n76 n77 s78 cJ cE H19).bind fun r79=>((r79.1).asI .i64).bind fun n80=>(bif (n80 != 0) then ((bif (decide (cE ≥ (eW.n:Int))) then (some ((.bool true),r79.2)) else ((bif (n80 != 0) then ((Sl.idx eW cE 1).bind fun p81=>(Hp.ldI r79.2 .i64 p81.1 p81.2).bind fun n82=>aq.j4 F cz (aq.l29 F cz cZ) cJ eW bt cm fy (IntKind.i64.wrap (dm + (IntKind.i64.wrap (n80 * n82)))) cE r79.2) else (aq.j4 F cz (aq.l29 F cz cZ) cJ eW bt cm fy dm cE r79.2))))) else ((bif (n80 != 0) then ((Sl.idx eW cE 1).bind fun p99=>(Hp.ldI r79.2 .i64 p99.1 p99.2).bind fun n100=>aq.j5 F cz (aq.l29 F cz cZ) cJ eW bt cm fy (IntKind.i64.wrap (dm + (IntKind.i64.wrap (n80 * n100)))) cE r79.2) else (aq.j5 F cz (aq.l29 F cz cZ) cJ eW bt cm fy dm cE r79.2))))) else (aq.j3 F cz bt dm H19))
termination_by structural n=>n
noncomputable def aq.twX (F:Nat) (cz:Int→Int→Sl→Int→Int→Hp→OA) (aa:Int) (ab:Int) (ah:Sl) (ar:Int) (bb:Sl) (fI:Int) (H:Hp):OA:=(Hp.new H [(.int .i64 aa),(.int .i64 ab),(.sl ah)]).bind fun H7=>aq.l29 F cz F ar bb fI H.length 0 0 0 H7
noncomputable def aq.tw (F:Nat) (aa:Int) (ab:Int) (ah:Sl) (ar:Int) (bb:Sl) (fI:Int) (H:Hp):OA:=aq.twX F (bu.tw F) aa ab ah ar bb fI H
noncomputable def aq.code:Go.Code:=(Try.f131.body).getD .skip
noncomputable def aq.lh29 (F:Nat) (cz:Int→Int→Sl→Int→Int→Hp→OA) (ks:List Nat) (n:Nat) (tm:Tm) (H:Hp):OA:=match ks,tm 1,tm 2,tm 3,tm 4,tm 9,tm 10 with
 | [],(.int .i64 cJ),(.sl eW),(.int .i64 bt),(.ptr cm fy),(.int .i64 dm),(.int .i64 cE)=>aq.l29 F cz n cJ eW bt cm fy dm cE H
 | _,_,_,_,_,_,_=>none
theorem aq.lh29_inv {F:Nat} {cz:Int→Int→Sl→Int→Int→Hp→OA} {ks:List Nat} {n:Nat} {tm:Tm} {H:Hp} {r:AV×Hp} (h:aq.lh29 F cz ks n tm H = some r):∃ cJ:Int,∃ eW:Sl,∃ bt:Int,∃ cm:Nat,∃ fy:Nat,∃ dm:Int,∃ cE:Int,ks = []∧tm 1 = (.int .i64 cJ)∧tm 2 = (.sl eW)∧tm 3 = (.int .i64 bt)∧tm 4 = (.ptr cm fy)∧tm 9 = (.int .i64 dm)∧tm 10 = (.int .i64 cE)∧aq.l29 F cz n cJ eW bt cm fy dm cE H = some r:=by
 unfold aq.lh29 at h
 split at h
 ·exact ⟨_,_,_,_,_,_,_,rfl,by assumption,by assumption,by assumption,by assumption,by assumption,by assumption,h⟩
 ·cases h
noncomputable def aq.lh (F:Nat) (cz:Int→Int→Sl→Int→Int→Hp→OA) (p:Nat) (ks:List Nat) (n:Nat) (tm:Tm) (H:Hp):OA:=bif p.beq 29 then aq.lh29 F cz ks n tm H else (none)
def aq.pn:Nat→List Nat:=fun i=>(([]:List (Nat×List Nat)).lookup i).getD []
def aq.tb:Nat→List (List Nat):=fun i=>(([]:List (Nat×List (List Nat))).lookup i).getD []
noncomputable def aq.mk (g:Int→Int→Sl→Int→Sl→Int→Hp→OA) (args:List AV) (H:Hp):OA:=match args with
 | [(.agg [(.int .i64 aa),(.int .i64 ab),(.sl ah)]),(.int .i64 ar),(.sl bb),(.int .i64 fI)]=>g aa ab ah ar bb fI H
 | _=>none
noncomputable def aq.cs (F:Nat) (cz:Int→Int→Sl→Int→Int→Hp→OA):List (FuncId×(List AV→Hp→OA)):=[(143,bu.mk cz)]
theorem aq.loops (F:Nat) (cz:Int→Int→Sl→Int→Int→Hp→OA):LoopsOk tabs (mkOrc (aq.cs F cz)) aq.pn (aq.lh F cz) F [] 1 aq.code (fun tm H=>aresults tabs.ty H tm Try.f131.results.toList fun v=>some (v,H)) (fun _ _ _=>none) (fun tm H=>aresults tabs.ty H tm Try.f131.results.toList fun v=>some (v,H)):=by
 refine LoopsOk.seq ?_ ?_
 ·exact loops_none (by kernel_rfl)
 ·refine LoopsOk.seq ?_ ?_
  ·exact loops_none (by kernel_rfl)
  ·refine LoopsOk.seq ?_ ?_
   ·refine LoopsOk.seq ?_ ?_
    ·exact loops_none (by kernel_rfl)
    ·refine LoopsOk.block ?_
     refine LoopsOk.loop (fun tm H=>?_) (fun k29 tm H r h0=>?_) (fun k29=>?_)
     ·refine none_of fun r h0=>?_
      obtain ⟨cJ,eW,bt,cm,fy,dm,cE,hks,e1,e2,e3,e4,e9,e10,h⟩:=aq.lh29_inv (show aq.lh29 F cz [] 0 tm H = some r from h0)
      cases h
     ·obtain ⟨cJ,eW,bt,cm,fy,dm,cE,hks,e1,e2,e3,e4,e9,e10,h⟩:=aq.lh29_inv (show aq.lh29 F cz [] (k29 + 1) tm H = some r from h0)
      have q0:(Tm.put tm 1 (.int .i64 cJ)) = tm:=by exact Tm.put_same e1
      have q1:(Tm.put (Tm.put tm 1 (.int .i64 cJ)) 2 (.sl eW)) = tm:=by rw [q0]; exact Tm.put_same e2
      have q2:(Tm.put (Tm.put (Tm.put tm 1 (.int .i64 cJ)) 2 (.sl eW)) 3 (.int .i64 bt)) = tm:=by rw [q1]; exact Tm.put_same e3
      have q3:(Tm.put (Tm.put (Tm.put (Tm.put tm 1 (.int .i64 cJ)) 2 (.sl eW)) 3 (.int .i64 bt)) 4 (.ptr cm fy)) = tm:=by rw [q2]; exact Tm.put_same e4
      have q4:(Tm.put (Tm.put (Tm.put (Tm.put (Tm.put tm 1 (.int .i64 cJ)) 2 (.sl eW)) 3 (.int .i64 bt)) 4 (.ptr cm fy)) 9 (.int .i64 dm)) = tm:=by rw [q3]; exact Tm.put_same e9
      have q5:(Tm.put (Tm.put (Tm.put (Tm.put (Tm.put (Tm.put tm 1 (.int .i64 cJ)) 2 (.sl eW)) 3 (.int .i64 bt)) 4 (.ptr cm fy)) 9 (.int .i64 dm)) 10 (.int .i64 cE)) = tm:=by rw [q4]; exact Tm.put_same e10
      rw [← q5]
      exact Eq.trans (by kernel_rfl) h
     ·exact loops_none (by kernel_rfl)
   ·exact loops_none (by kernel_rfl)
theorem aq.eqX (F:Nat) (cz:Int→Int→Sl→Int→Int→Hp→OA) (aa:Int) (ab:Int) (ah:Sl) (ar:Int) (bb:Sl) (fI:Int) (H:Hp):aCode tabs (mkOrc (aq.cs F cz)) aq.pn (aq.lh F cz) F [] 1 aq.code (argTm [(.agg [(.int .i64 aa),(.int .i64 ab),(.sl ah)]),(.int .i64 ar),(.sl bb),(.int .i64 fI)]) H (fun tm H=>aresults tabs.ty H tm Try.f131.results.toList fun v=>some (v,H)) (fun _ _ _=>none) (fun tm H=>aresults tabs.ty H tm Try.f131.results.toList fun v=>some (v,H)) = aq.twX F cz aa ab ah ar bb fI H:=by kernel_rfl
theorem aq.cs_ok (F:Nat):∀ p ∈ aq.cs F (bu.tw F),∀ args H v H',p.2 args H = some (v,H')→Go.AE.T Try.prog p.1 args H v H':=by
 intro p hp
 simp only [aq.cs,List.mem_cons,List.not_mem_nil,or_false] at hp
 subst hp
 exact fun args H v H' h=>bu.mk_T h
theorem aq.ok:codeOk aq.pn Try.f131.ntmps aq.tb aq.code = true:=by kernel_rfl
theorem aq.T {F:Nat} {aa:Int} {ab:Int} {ah:Sl} {ar:Int} {bb:Sl} {fI:Int} {H:Hp} {v:AV} {H':Hp} (h:aq.tw F aa ab ah ar bb fI H = some (v,H')):Go.AE.T Try.prog 131 [(.agg [(.int .i64 aa),(.int .i64 ab),(.sl ah)]),(.int .i64 ar),(.sl bb),(.int .i64 fI)] H v H':=
 Go.AE.T.of (Y:=tabs) (C:=mkOrc (aq.cs F (bu.tw F))) (PN:=aq.pn) (LH:=aq.lh F (bu.tw F)) (F:=F) (TB:=aq.tb) (fn:=Try.f131) (code:=aq.code) mixed tabs_ok (mkOrc_ok (aq.cs_ok F)) Try.func131 (by kernel_rfl) (by kernel_rfl) aq.ok (Nat.le_of_ble_eq_true (by kernel_rfl)) (aq.loops F (bu.tw F)) (Eq.trans (aq.eqX F (bu.tw F) aa ab ah ar bb fI H) h)
theorem aq.mk_T {F:Nat} {args:List AV} {H:Hp} {v:AV} {H':Hp} (h:aq.mk (aq.tw F) args H = some (v,H')):Go.AE.T Try.prog 131 args H v H':=by
 unfold aq.mk at h
 split at h
 ·exact aq.T h
 ·cases h
noncomputable def aL.l13 (F:Nat) (eb:Int→Int→Sl→Int→Sl→Int→Hp→OA) :Nat→Sl→Int→Nat→Nat→Int→Hp→OA
 | 0,_,_,_,_,_,_=>none
 | fZ + 1,cb,eL,bN,bt,eM,H16=>(Hp.ldI H16 .i64 bN bt).bind fun n23=>(bif (decide (eM < n23)) then ((Hp.ldI H16 .i64 bN bt).bind fun n24=>(Hp.ldI H16 .i64 bN (bt + 1)).bind fun n25=>(Hp.ldSl H16 bN (bt + 2)).bind fun s26=>(eb n24 n25 s26 eM cb eL H16).bind fun r27=>((r27.1).asB).bind fun b28=>(bif (!b28) then (some ((.bool false),r27.2)) else (aL.l13 F eb fZ cb eL bN bt (IntKind.i64.wrap (eM + 1)) r27.2))) else (some ((.bool true),H16)))
termination_by structural n=>n
noncomputable def aL.twX (F:Nat) (eb:Int→Int→Sl→Int→Sl→Int→Hp→OA) (aa:Int) (ab:Int) (ah:Sl) (ar:Sl) (bb:Int) (H:Hp):OA:=(Hp.new H [(.int .i64 aa),(.int .i64 ab),(.sl ah)]).bind fun H6=>aL.l13 F eb F ar bb H.length 0 0 H6
noncomputable def aL.tw (F:Nat) (aa:Int) (ab:Int) (ah:Sl) (ar:Sl) (bb:Int) (H:Hp):OA:=aL.twX F (aq.tw F) aa ab ah ar bb H
noncomputable def aL.code:Go.Code:=(Try.f77.body).getD .skip
noncomputable def aL.lh13 (F:Nat) (eb:Int→Int→Sl→Int→Sl→Int→Hp→OA) (ks:List Nat) (n:Nat) (tm:Tm) (H:Hp):OA:=match ks,tm 1,tm 2,tm 3,tm 7 with
 | [],(.sl cb),(.int .i64 eL),(.ptr bN bt),(.int .i64 eM)=>aL.l13 F eb n cb eL bN bt eM H
 | _,_,_,_,_=>none
theorem aL.lh13_inv {F:Nat} {eb:Int→Int→Sl→Int→Sl→Int→Hp→OA} {ks:List Nat} {n:Nat} {tm:Tm} {H:Hp} {r:AV×Hp} (h:aL.lh13 F eb ks n tm H = some r):∃ cb:Sl,∃ eL:Int,∃ bN:Nat,∃ bt:Nat,∃ eM:Int,ks = []∧tm 1 = (.sl cb)∧tm 2 = (.int .i64 eL)∧tm 3 = (.ptr bN bt)∧tm 7 = (.int .i64 eM)∧aL.l13 F eb n cb eL bN bt eM H = some r:=by
 unfold aL.lh13 at h
 split at h
 ·exact ⟨_,_,_,_,_,rfl,by assumption,by assumption,by assumption,by assumption,h⟩
 ·cases h
noncomputable def aL.lh (F:Nat) (eb:Int→Int→Sl→Int→Sl→Int→Hp→OA) (p:Nat) (ks:List Nat) (n:Nat) (tm:Tm) (H:Hp):OA:=bif p.beq 13 then aL.lh13 F eb ks n tm H else (none)
def aL.pn:Nat→List Nat:=fun i=>(([]:List (Nat×List Nat)).lookup i).getD []
def aL.tb:Nat→List (List Nat):=fun i=>(([]:List (Nat×List (List Nat))).lookup i).getD []
noncomputable def aL.mk (g:Int→Int→Sl→Sl→Int→Hp→OA) (args:List AV) (H:Hp):OA:=match args with
 | [(.agg [(.int .i64 aa),(.int .i64 ab),(.sl ah)]),(.sl ar),(.int .i64 bb)]=>g aa ab ah ar bb H
 | _=>none
noncomputable def aL.cs (F:Nat) (eb:Int→Int→Sl→Int→Sl→Int→Hp→OA):List (FuncId×(List AV→Hp→OA)):=[(131,aq.mk eb)]
theorem aL.loops (F:Nat) (eb:Int→Int→Sl→Int→Sl→Int→Hp→OA):LoopsOk tabs (mkOrc (aL.cs F eb)) aL.pn (aL.lh F eb) F [] 1 aL.code (fun tm H=>aresults tabs.ty H tm Try.f77.results.toList fun v=>some (v,H)) (fun _ _ _=>none) (fun tm H=>aresults tabs.ty H tm Try.f77.results.toList fun v=>some (v,H)):=by
 refine LoopsOk.seq ?_ ?_
 ·exact loops_none (by kernel_rfl)
 ·refine LoopsOk.seq ?_ ?_
  ·refine LoopsOk.seq ?_ ?_
   ·exact loops_none (by kernel_rfl)
   ·refine LoopsOk.block ?_
    refine LoopsOk.loop (fun tm H=>?_) (fun k13 tm H r h0=>?_) (fun k13=>?_)
    ·refine none_of fun r h0=>?_
     obtain ⟨cb,eL,bN,bt,eM,hks,e1,e2,e3,e7,h⟩:=aL.lh13_inv (show aL.lh13 F eb [] 0 tm H = some r from h0)
     cases h
    ·obtain ⟨cb,eL,bN,bt,eM,hks,e1,e2,e3,e7,h⟩:=aL.lh13_inv (show aL.lh13 F eb [] (k13 + 1) tm H = some r from h0)
     have q0:(Tm.put tm 1 (.sl cb)) = tm:=by exact Tm.put_same e1
     have q1:(Tm.put (Tm.put tm 1 (.sl cb)) 2 (.int .i64 eL)) = tm:=by rw [q0]; exact Tm.put_same e2
     have q2:(Tm.put (Tm.put (Tm.put tm 1 (.sl cb)) 2 (.int .i64 eL)) 3 (.ptr bN bt)) = tm:=by rw [q1]; exact Tm.put_same e3
     have q3:(Tm.put (Tm.put (Tm.put (Tm.put tm 1 (.sl cb)) 2 (.int .i64 eL)) 3 (.ptr bN bt)) 7 (.int .i64 eM)) = tm:=by rw [q2]; exact Tm.put_same e7
     rw [← q3]
     exact Eq.trans (by kernel_rfl) h
    ·exact loops_none (by kernel_rfl)
  ·exact loops_none (by kernel_rfl)
theorem aL.eqX (F:Nat) (eb:Int→Int→Sl→Int→Sl→Int→Hp→OA) (aa:Int) (ab:Int) (ah:Sl) (ar:Sl) (bb:Int) (H:Hp):aCode tabs (mkOrc (aL.cs F eb)) aL.pn (aL.lh F eb) F [] 1 aL.code (argTm [(.agg [(.int .i64 aa),(.int .i64 ab),(.sl ah)]),(.sl ar),(.int .i64 bb)]) H (fun tm H=>aresults tabs.ty H tm Try.f77.results.toList fun v=>some (v,H)) (fun _ _ _=>none) (fun tm H=>aresults tabs.ty H tm Try.f77.results.toList fun v=>some (v,H)) = aL.twX F eb aa ab ah ar bb H:=by kernel_rfl
theorem aL.cs_ok (F:Nat):∀ p ∈ aL.cs F (aq.tw F),∀ args H v H',p.2 args H = some (v,H')→Go.AE.T Try.prog p.1 args H v H':=by
 intro p hp
 simp only [aL.cs,List.mem_cons,List.not_mem_nil,or_false] at hp
 subst hp
 exact fun args H v H' h=>aq.mk_T h
theorem aL.ok:codeOk aL.pn Try.f77.ntmps aL.tb aL.code = true:=by kernel_rfl
theorem aL.T {F:Nat} {aa:Int} {ab:Int} {ah:Sl} {ar:Sl} {bb:Int} {H:Hp} {v:AV} {H':Hp} (h:aL.tw F aa ab ah ar bb H = some (v,H')):Go.AE.T Try.prog 77 [(.agg [(.int .i64 aa),(.int .i64 ab),(.sl ah)]),(.sl ar),(.int .i64 bb)] H v H':=
 Go.AE.T.of (Y:=tabs) (C:=mkOrc (aL.cs F (aq.tw F))) (PN:=aL.pn) (LH:=aL.lh F (aq.tw F)) (F:=F) (TB:=aL.tb) (fn:=Try.f77) (code:=aL.code) mixed tabs_ok (mkOrc_ok (aL.cs_ok F)) Try.func77 (by kernel_rfl) (by kernel_rfl) aL.ok (Nat.le_of_ble_eq_true (by kernel_rfl)) (aL.loops F (aq.tw F)) (Eq.trans (aL.eqX F (aq.tw F) aa ab ah ar bb H) h)
theorem aL.mk_T {F:Nat} {args:List AV} {H:Hp} {v:AV} {H':Hp} (h:aL.mk (aL.tw F) args H = some (v,H')):Go.AE.T Try.prog 77 args H v H':=by
 unfold aL.mk at h
 split at h
 ·exact aL.T h
 ·cases h
noncomputable def aB.j1 (F:Nat) (dA:Sl→Int→Hp→OA) (bf:Int→Int→Int→Hp→OA) (dB:Sl→Int→Hp→OA) (dC:Int→Int→Sl→Sl→Int→Hp→OA) (lF:Int) (vZ:Sl) (mc:Nat) (v_:Nat) (H36:Hp):OA:=(Hp.ldSl H36 mc v_).bind fun s37=>(Hp.ldI H36 .i64 mc (v_ + 1)).bind fun n38=>(dB s37 n38 H36).bind fun r39=>((r39.1).asAgg 3).bind fun l40=>(l40[0]?).bind fun v41=>((v41).asI .i64).bind fun n42=>(l40[1]?).bind fun v43=>((v43).asI .i64).bind fun n44=>(l40[2]?).bind fun v45=>((v45).asSl).bind fun s46=>(Hp.new r39.2 [.int .i64 0,.int .i64 0,.sl ⟨none,0,.ex 0⟩]).bind fun H47=>(Hp.st H47 r39.2.length 0 (.int .i64 n42)).bind fun H48=>(Hp.st H48 r39.2.length (0 + 1) (.int .i64 n44)).bind fun H49=>(Hp.st H49 r39.2.length (0 + 1 + 1) (.sl s46)).bind fun H50=>(Hp.ldI H50 .i64 r39.2.length 1).bind fun n51=>(bif ((vZ.n:Int) == n51) then ((Hp.ldI H50 .i64 r39.2.length 0).bind fun n52=>(Hp.ldI H50 .i64 r39.2.length (0 + 1)).bind fun n53=>(Hp.ldSl H50 r39.2.length (0 + 2)).bind fun s54=>(dC n52 n53 s54 vZ lF H50).bind fun r55=>((r55.1).asB).bind fun b56=>some ((.bool b56),r55.2)) else (some ((.bool false),H50)))
noncomputable def aB.l29 (F:Nat) (dA:Sl→Int→Hp→OA) (bf:Int→Int→Int→Hp→OA) (dB:Sl→Int→Hp→OA) (dC:Int→Int→Sl→Sl→Int→Hp→OA) :Nat→Int→Sl→Nat→Nat→Int→Hp→OA
 | 0,_,_,_,_,_,_=>none
 | cZ + 1,dN,gn,cH,hM,eN,H21=>(bif (decide (eN < (gn.n:Int))) then ((Sl.idx gn eN 1).bind fun p57=>(Hp.ldI H21 .i64 p57.1 p57.2).bind fun n58=>(bf n58 0 (IntKind.i64.wrap (dN - 1)) H21).bind fun r59=>((r59.1).asB).bind fun b60=>(bif (!b60) then (some ((.bool false),r59.2)) else (aB.l29 F dA bf dB dC cZ dN gn cH hM (IntKind.i64.wrap (eN + 1)) r59.2))) else (aB.j1 F dA bf dB dC dN gn cH hM H21))
termination_by structural n=>n
noncomputable def aB.twX (F:Nat) (dA:Sl→Int→Hp→OA) (bf:Int→Int→Int→Hp→OA) (dB:Sl→Int→Hp→OA) (dC:Int→Int→Sl→Sl→Int→Hp→OA) (aa:Sl) (ab:Int) (af:Int) (bJ:Sl) (H:Hp):OA:=(Hp.new H [(.sl aa),(.int .i64 ab)]).bind fun H5=>(Hp.ldSl H5 H.length 0).bind fun s6=>(Hp.ldI H5 .i64 H.length (0 + 1)).bind fun n7=>(dA s6 n7 H5).bind fun r8=>((r8.1).asB).bind fun b9=>(bif (!b9) then (some ((.bool false),r8.2)) else ((bf af 1 30 r8.2).bind fun r10=>((r10.1).asB).bind fun b11=>(bif (!b11) then (some ((.bool false),r10.2)) else (aB.l29 F dA bf dB dC F af bJ H.length 0 0 r10.2))))
noncomputable def aB.tw (F:Nat) (aa:Sl) (ab:Int) (af:Int) (bJ:Sl) (H:Hp):OA:=aB.twX F (bo.tw F) (aY.tw F) (aK.tw F) (aL.tw F) aa ab af bJ H
noncomputable def aB.code:Go.Code:=(Try.f30.body).getD .skip
noncomputable def aB.lh29 (F:Nat) (dA:Sl→Int→Hp→OA) (bf:Int→Int→Int→Hp→OA) (dB:Sl→Int→Hp→OA) (dC:Int→Int→Sl→Sl→Int→Hp→OA) (ks:List Nat) (n:Nat) (tm:Tm) (H:Hp):OA:=match ks,tm 1,tm 2,tm 3,tm 7 with
 | [],(.int .i64 dN),(.sl gn),(.ptr cH hM),(.int .i64 eN)=>aB.l29 F dA bf dB dC n dN gn cH hM eN H
 | _,_,_,_,_=>none
theorem aB.lh29_inv {F:Nat} {dA:Sl→Int→Hp→OA} {bf:Int→Int→Int→Hp→OA} {dB:Sl→Int→Hp→OA} {dC:Int→Int→Sl→Sl→Int→Hp→OA} {ks:List Nat} {n:Nat} {tm:Tm} {H:Hp} {r:AV×Hp} (h:aB.lh29 F dA bf dB dC ks n tm H = some r):∃ dN:Int,∃ gn:Sl,∃ cH:Nat,∃ hM:Nat,∃ eN:Int,ks = []∧tm 1 = (.int .i64 dN)∧tm 2 = (.sl gn)∧tm 3 = (.ptr cH hM)∧tm 7 = (.int .i64 eN)∧aB.l29 F dA bf dB dC n dN gn cH hM eN H = some r:=by
 unfold aB.lh29 at h
 split at h
 ·exact ⟨_,_,_,_,_,rfl,by assumption,by assumption,by assumption,by assumption,h⟩
 ·cases h
noncomputable def aB.lh (F:Nat) (dA:Sl→Int→Hp→OA) (bf:Int→Int→Int→Hp→OA) (dB:Sl→Int→Hp→OA) (dC:Int→Int→Sl→Sl→Int→Hp→OA) (p:Nat) (ks:List Nat) (n:Nat) (tm:Tm) (H:Hp):OA:=bif p.beq 29 then aB.lh29 F dA bf dB dC ks n tm H else (none)
def aB.pn:Nat→List Nat:=fun i=>(([]:List (Nat×List Nat)).lookup i).getD []
def aB.tb:Nat→List (List Nat):=fun i=>(([]:List (Nat×List (List Nat))).lookup i).getD []
noncomputable def aB.mk (g:Sl→Int→Int→Sl→Hp→OA) (args:List AV) (H:Hp):OA:=match args with
 | [(.agg [(.sl aa),(.int .i64 ab)]),(.int .i64 af),(.sl bJ)]=>g aa ab af bJ H
 | _=>none
noncomputable def aB.cs (F:Nat) (dA:Sl→Int→Hp→OA) (bf:Int→Int→Int→Hp→OA) (dB:Sl→Int→Hp→OA) (dC:Int→Int→Sl→Sl→Int→Hp→OA):List (FuncId×(List AV→Hp→OA)):=[(50,bo.mk dA),(65,aY.mk bf),(76,aK.mk dB),(77,aL.mk dC)]
theorem aB.loops (F:Nat) (dA:Sl→Int→Hp→OA) (bf:Int→Int→Int→Hp→OA) (dB:Sl→Int→Hp→OA) (dC:Int→Int→Sl→Sl→Int→Hp→OA):LoopsOk tabs (mkOrc (aB.cs F dA bf dB dC)) aB.pn (aB.lh F dA bf dB dC) F [] 1 aB.code (fun tm H=>aresults tabs.ty H tm Try.f30.results.toList fun v=>some (v,H)) (fun _ _ _=>none) (fun tm H=>aresults tabs.ty H tm Try.f30.results.toList fun v=>some (v,H)):=by
 refine LoopsOk.seq ?_ ?_
 ·exact loops_none (by kernel_rfl)
 ·refine LoopsOk.seq ?_ ?_
  ·exact loops_none (by kernel_rfl)
  ·refine LoopsOk.seq ?_ ?_
   ·refine LoopsOk.seq ?_ ?_
    ·exact loops_none (by kernel_rfl)
    ·refine LoopsOk.block ?_
     refine LoopsOk.loop (fun tm H=>?_) (fun k29 tm H r h0=>?_) (fun k29=>?_)
     ·refine none_of fun r h0=>?_
      obtain ⟨dN,gn,cH,hM,eN,hks,e1,e2,e3,e7,h⟩:=aB.lh29_inv (show aB.lh29 F dA bf dB dC [] 0 tm H = some r from h0)
      cases h
     ·obtain ⟨dN,gn,cH,hM,eN,hks,e1,e2,e3,e7,h⟩:=aB.lh29_inv (show aB.lh29 F dA bf dB dC [] (k29 + 1) tm H = some r from h0)
      have q0:(Tm.put tm 1 (.int .i64 dN)) = tm:=by exact Tm.put_same e1
      have q1:(Tm.put (Tm.put tm 1 (.int .i64 dN)) 2 (.sl gn)) = tm:=by rw [q0]; exact Tm.put_same e2
      have q2:(Tm.put (Tm.put (Tm.put tm 1 (.int .i64 dN)) 2 (.sl gn)) 3 (.ptr cH hM)) = tm:=by rw [q1]; exact Tm.put_same e3
      have q3:(Tm.put (Tm.put (Tm.put (Tm.put tm 1 (.int .i64 dN)) 2 (.sl gn)) 3 (.ptr cH hM)) 7 (.int .i64 eN)) = tm:=by rw [q2]; exact Tm.put_same e7
      rw [← q3]
      exact Eq.trans (by kernel_rfl) h
     ·exact loops_none (by kernel_rfl)
   ·exact loops_none (by kernel_rfl)
theorem aB.eqX (F:Nat) (dA:Sl→Int→Hp→OA) (bf:Int→Int→Int→Hp→OA) (dB:Sl→Int→Hp→OA) (dC:Int→Int→Sl→Sl→Int→Hp→OA) (aa:Sl) (ab:Int) (af:Int) (bJ:Sl) (H:Hp):aCode tabs (mkOrc (aB.cs F dA bf dB dC)) aB.pn (aB.lh F dA bf dB dC) F [] 1 aB.code (argTm [(.agg [(.sl aa),(.int .i64 ab)]),(.int .i64 af),(.sl bJ)]) H (fun tm H=>aresults tabs.ty H tm Try.f30.results.toList fun v=>some (v,H)) (fun _ _ _=>none) (fun tm H=>aresults tabs.ty H tm Try.f30.results.toList fun v=>some (v,H)) = aB.twX F dA bf dB dC aa ab af bJ H:=by kernel_rfl
theorem aB.cs_ok (F:Nat):∀ p ∈ aB.cs F (bo.tw F) (aY.tw F) (aK.tw F) (aL.tw F),∀ args H v H',p.2 args H = some (v,H')→Go.AE.T Try.prog p.1 args H v H':=by
 intro p hp
 simp only [aB.cs,List.mem_cons,List.not_mem_nil,or_false] at hp
 rcases hp with rfl | rfl | rfl | rfl
 ·exact fun args H v H' h=>bo.mk_T h
 ·exact fun args H v H' h=>aY.mk_T h
 ·exact fun args H v H' h=>aK.mk_T h
 ·exact fun args H v H' h=>aL.mk_T h
theorem aB.ok:codeOk aB.pn Try.f30.ntmps aB.tb aB.code = true:=by kernel_rfl
theorem aB.T {F:Nat} {aa:Sl} {ab:Int} {af:Int} {bJ:Sl} {H:Hp} {v:AV} {H':Hp} (h:aB.tw F aa ab af bJ H = some (v,H')):Go.AE.T Try.prog 30 [(.agg [(.sl aa),(.int .i64 ab)]),(.int .i64 af),(.sl bJ)] H v H':=
 Go.AE.T.of (Y:=tabs) (C:=mkOrc (aB.cs F (bo.tw F) (aY.tw F) (aK.tw F) (aL.tw F))) (PN:=aB.pn) (LH:=aB.lh F (bo.tw F) (aY.tw F) (aK.tw F) (aL.tw F)) (F:=F) (TB:=aB.tb) (fn:=Try.f30) (code:=aB.code) mixed tabs_ok (mkOrc_ok (aB.cs_ok F)) Try.func30 (by kernel_rfl) (by kernel_rfl) aB.ok (Nat.le_of_ble_eq_true (by kernel_rfl)) (aB.loops F (bo.tw F) (aY.tw F) (aK.tw F) (aL.tw F)) (Eq.trans (aB.eqX F (bo.tw F) (aY.tw F) (aK.tw F) (aL.tw F) aa ab af bJ H) h)
theorem aB.mk_T {F:Nat} {args:List AV} {H:Hp} {v:AV} {H':Hp} (h:aB.mk (aB.tw F) args H = some (v,H')):Go.AE.T Try.prog 30 args H v H':=by
 unfold aB.mk at h
 split at h
 ·exact aB.T h
 ·cases h
noncomputable def aG.twX (F:Nat) (aa:Sl) (H:Hp):OA:=some ((.int .i64 (aa.n:Int)),H)
noncomputable def aG.tw (F:Nat) (aa:Sl) (H:Hp):OA:=aG.twX F aa H
noncomputable def aG.code:Go.Code:=(Try.f117.body).getD .skip
noncomputable def aG.lh (F:Nat) (p:Nat) (ks:List Nat) (n:Nat) (tm:Tm) (H:Hp):OA:=none
def aG.pn:Nat→List Nat:=fun i=>(([]:List (Nat×List Nat)).lookup i).getD []
def aG.tb:Nat→List (List Nat):=fun i=>(([]:List (Nat×List (List Nat))).lookup i).getD []
noncomputable def aG.mk (g:Sl→Hp→OA) (args:List AV) (H:Hp):OA:=match args with
 | [(.sl aa)]=>g aa H
 | _=>none
noncomputable def aG.cs (F:Nat):List (FuncId×(List AV→Hp→OA)):=[]
theorem aG.loops (F:Nat):LoopsOk tabs (mkOrc (aG.cs F)) aG.pn (aG.lh F) F [] 1 aG.code (fun tm H=>aresults tabs.ty H tm Try.f117.results.toList fun v=>some (v,H)) (fun _ _ _=>none) (fun tm H=>aresults tabs.ty H tm Try.f117.results.toList fun v=>some (v,H)):=by
 exact loops_none (by kernel_rfl)
theorem aG.eqX (F:Nat) (aa:Sl) (H:Hp):aCode tabs (mkOrc (aG.cs F)) aG.pn (aG.lh F) F [] 1 aG.code (argTm [(.sl aa)]) H (fun tm H=>aresults tabs.ty H tm Try.f117.results.toList fun v=>some (v,H)) (fun _ _ _=>none) (fun tm H=>aresults tabs.ty H tm Try.f117.results.toList fun v=>some (v,H)) = aG.twX F aa H:=by kernel_rfl
theorem aG.cs_ok (F:Nat):∀ p ∈ aG.cs F,∀ args H v H',p.2 args H = some (v,H')→Go.AE.T Try.prog p.1 args H v H':=by
 intro p hp
 exact absurd (show p ∈ [] from hp) List.not_mem_nil
theorem aG.ok:codeOk aG.pn Try.f117.ntmps aG.tb aG.code = true:=by kernel_rfl
theorem aG.T {F:Nat} {aa:Sl} {H:Hp} {v:AV} {H':Hp} (h:aG.tw F aa H = some (v,H')):Go.AE.T Try.prog 117 [(.sl aa)] H v H':=
 Go.AE.T.of (Y:=tabs) (C:=mkOrc (aG.cs F)) (PN:=aG.pn) (LH:=aG.lh F) (F:=F) (TB:=aG.tb) (fn:=Try.f117) (code:=aG.code) mixed tabs_ok (mkOrc_ok (aG.cs_ok F)) Try.func117 (by kernel_rfl) (by kernel_rfl) aG.ok (Nat.le_of_ble_eq_true (by kernel_rfl)) (aG.loops F) (Eq.trans (aG.eqX F aa H) h)
theorem aG.mk_T {F:Nat} {args:List AV} {H:Hp} {v:AV} {H':Hp} (h:aG.mk (aG.tw F) args H = some (v,H')):Go.AE.T Try.prog 117 args H v H':=by
 unfold aG.mk at h
 split at h
 ·exact aG.T h
 ·cases h
noncomputable def aO.twX (F:Nat) (aa:Int) (ad:Int) (bQ:Int) (H:Hp):OA:=(bif (decide (ad ≤ aa)) then (some ((.bool (decide (aa ≤ bQ))),H)) else (some ((.bool false),H)))
noncomputable def aO.tw (F:Nat) (aa:Int) (ad:Int) (bQ:Int) (H:Hp):OA:=aO.twX F aa ad bQ H
noncomputable def aO.code:Go.Code:=(Try.f81.body).getD .skip
noncomputable def aO.lh (F:Nat) (p:Nat) (ks:List Nat) (n:Nat) (tm:Tm) (H:Hp):OA:=none
def aO.pn:Nat→List Nat:=fun i=>(([]:List (Nat×List Nat)).lookup i).getD []
def aO.tb:Nat→List (List Nat):=fun i=>(([]:List (Nat×List (List Nat))).lookup i).getD []
noncomputable def aO.mk (g:Int→Int→Int→Hp→OA) (args:List AV) (H:Hp):OA:=match args with
 | [(.int .i64 aa),(.int .i64 ad),(.int .i64 bQ)]=>g aa ad bQ H
 | _=>none
noncomputable def aO.cs (F:Nat):List (FuncId×(List AV→Hp→OA)):=[]
theorem aO.loops (F:Nat):LoopsOk tabs (mkOrc (aO.cs F)) aO.pn (aO.lh F) F [] 1 aO.code (fun tm H=>aresults tabs.ty H tm Try.f81.results.toList fun v=>some (v,H)) (fun _ _ _=>none) (fun tm H=>aresults tabs.ty H tm Try.f81.results.toList fun v=>some (v,H)):=by
 exact loops_none (by kernel_rfl)
theorem aO.eqX (F:Nat) (aa:Int) (ad:Int) (bQ:Int) (H:Hp):aCode tabs (mkOrc (aO.cs F)) aO.pn (aO.lh F) F [] 1 aO.code (argTm [(.int .i64 aa),(.int .i64 ad),(.int .i64 bQ)]) H (fun tm H=>aresults tabs.ty H tm Try.f81.results.toList fun v=>some (v,H)) (fun _ _ _=>none) (fun tm H=>aresults tabs.ty H tm Try.f81.results.toList fun v=>some (v,H)) = aO.twX F aa ad bQ H:=by kernel_rfl
theorem aO.cs_ok (F:Nat):∀ p ∈ aO.cs F,∀ args H v H',p.2 args H = some (v,H')→Go.AE.T Try.prog p.1 args H v H':=by
 intro p hp
 exact absurd (show p ∈ [] from hp) List.not_mem_nil
theorem aO.ok:codeOk aO.pn Try.f81.ntmps aO.tb aO.code = true:=by kernel_rfl
theorem aO.T {F:Nat} {aa:Int} {ad:Int} {bQ:Int} {H:Hp} {v:AV} {H':Hp} (h:aO.tw F aa ad bQ H = some (v,H')):Go.AE.T Try.prog 81 [(.int .i64 aa),(.int .i64 ad),(.int .i64 bQ)] H v H':=
 Go.AE.T.of (Y:=tabs) (C:=mkOrc (aO.cs F)) (PN:=aO.pn) (LH:=aO.lh F) (F:=F) (TB:=aO.tb) (fn:=Try.f81) (code:=aO.code) mixed tabs_ok (mkOrc_ok (aO.cs_ok F)) Try.func81 (by kernel_rfl) (by kernel_rfl) aO.ok (Nat.le_of_ble_eq_true (by kernel_rfl)) (aO.loops F) (Eq.trans (aO.eqX F aa ad bQ H) h)
theorem aO.mk_T {F:Nat} {args:List AV} {H:Hp} {v:AV} {H':Hp} (h:aO.mk (aO.tw F) args H = some (v,H')):Go.AE.T Try.prog 81 args H v H':=by
 unfold aO.mk at h
 split at h
 ·exact aO.T h
 ·cases h
noncomputable def bF.twX (F:Nat) (aa:Int) (ab:Int) (ah:Int) (az:Int) (ax:Int) (H:Hp):OA:=(Hp.new H [(.int .i64 aa),(.int .i64 ab),(.int .i64 ah),(.int .i64 az),(.int .i64 ax)]).bind fun H6=>(Hp.ldI H6 .i64 H.length 4).bind fun n7=>(bif (n7 != 1) then ((Hp.ldI H6 .i64 H.length 4).bind fun n8=>some ((.bool (n8 != (-1))),H6)) else (some ((.bool false),H6)))
noncomputable def bF.tw (F:Nat) (aa:Int) (ab:Int) (ah:Int) (az:Int) (ax:Int) (H:Hp):OA:=bF.twX F aa ab ah az ax H
noncomputable def bF.code:Go.Code:=(Try.f124.body).getD .skip
noncomputable def bF.lh (F:Nat) (p:Nat) (ks:List Nat) (n:Nat) (tm:Tm) (H:Hp):OA:=none
def bF.pn:Nat→List Nat:=fun i=>(([]:List (Nat×List Nat)).lookup i).getD []
def bF.tb:Nat→List (List Nat):=fun i=>(([]:List (Nat×List (List Nat))).lookup i).getD []
noncomputable def bF.mk (g:Int→Int→Int→Int→Int→Hp→OA) (args:List AV) (H:Hp):OA:=match args with
 | [(.agg [(.int .i64 aa),(.int .i64 ab),(.int .i64 ah),(.int .i64 az),(.int .i64 ax)])]=>g aa ab ah az ax H
 | _=>none
noncomputable def bF.cs (F:Nat):List (FuncId×(List AV→Hp→OA)):=[]
theorem bF.loops (F:Nat):LoopsOk tabs (mkOrc (bF.cs F)) bF.pn (bF.lh F) F [] 1 bF.code (fun tm H=>aresults tabs.ty H tm Try.f124.results.toList fun v=>some (v,H)) (fun _ _ _=>none) (fun tm H=>aresults tabs.ty H tm Try.f124.results.toList fun v=>some (v,H)):=by
 exact loops_none (by kernel_rfl)
theorem bF.eqX (F:Nat) (aa:Int) (ab:Int) (ah:Int) (az:Int) (ax:Int) (H:Hp):aCode tabs (mkOrc (bF.cs F)) bF.pn (bF.lh F) F [] 1 bF.code (argTm [(.agg [(.int .i64 aa),(.int .i64 ab),(.int .i64 ah),(.int .i64 az),(.int .i64 ax)])]) H (fun tm H=>aresults tabs.ty H tm Try.f124.results.toList fun v=>some (v,H)) (fun _ _ _=>none) (fun tm H=>aresults tabs.ty H tm Try.f124.results.toList fun v=>some (v,H)) = bF.twX F aa ab ah az ax H:=by kernel_rfl
theorem bF.cs_ok (F:Nat):∀ p ∈ bF.cs F,∀ args H v H',p.2 args H = some (v,H')→Go.AE.T Try.prog p.1 args H v H':=by
 intro p hp
 exact absurd (show p ∈ [] from hp) List.not_mem_nil
theorem bF.ok:codeOk bF.pn Try.f124.ntmps bF.tb bF.code = true:=by kernel_rfl
theorem bF.T {F:Nat} {aa:Int} {ab:Int} {ah:Int} {az:Int} {ax:Int} {H:Hp} {v:AV} {H':Hp} (h:bF.tw F aa ab ah az ax H = some (v,H')):Go.AE.T Try.prog 124 [(.agg [(.int .i64 aa),(.int .i64 ab),(.int .i64 ah),(.int .i64 az),(.int .i64 ax)])] H v H':=
 Go.AE.T.of (Y:=tabs) (C:=mkOrc (bF.cs F)) (PN:=bF.pn) (LH:=bF.lh F) (F:=F) (TB:=bF.tb) (fn:=Try.f124) (code:=bF.code) mixed tabs_ok (mkOrc_ok (bF.cs_ok F)) Try.func124 (by kernel_rfl) (by kernel_rfl) bF.ok (Nat.le_of_ble_eq_true (by kernel_rfl)) (bF.loops F) (Eq.trans (bF.eqX F aa ab ah az ax H) h)
theorem bF.mk_T {F:Nat} {args:List AV} {H:Hp} {v:AV} {H':Hp} (h:bF.mk (bF.tw F) args H = some (v,H')):Go.AE.T Try.prog 124 args H v H':=by
 unfold bF.mk at h
 split at h
 ·exact bF.T h
 ·cases h
noncomputable def aP.l13 (F:Nat) (ec:Int→Int→Int→Int→Int→Hp→OA) :Nat→Sl→Int→Int→Hp→OA
 | 0,_,_,_,_=>none
 | fZ + 1,gE,eX,ed,H6=>(bif (decide (ed < eX)) then ((Sl.idx gE ed 5).bind fun p15=>(Hp.ldI H6 .i64 p15.1 p15.2).bind fun n16=>(Hp.ldI H6 .i64 p15.1 (p15.2 + 1)).bind fun n17=>(Hp.ldI H6 .i64 p15.1 (p15.2 + 2)).bind fun n18=>(Hp.ldI H6 .i64 p15.1 (p15.2 + 3)).bind fun n19=>(Hp.ldI H6 .i64 p15.1 (p15.2 + 4)).bind fun n20=>(ec n16 n17 n18 n19 n20 H6).bind fun r21=>((r21.1).asB).bind fun b22=>(bif b22 then (some ((.int .i64 ed),r21.2)) else (aP.l13 F ec fZ gE eX (IntKind.i64.wrap (ed + 1)) r21.2))) else (some ((.int .i64 (-1)),H6)))
termination_by structural n=>n
noncomputable def aP.twX (F:Nat) (ec:Int→Int→Int→Int→Int→Hp→OA) (aa:Sl) (H:Hp):OA:=aP.l13 F ec F aa (aa.n:Int) 0 H
noncomputable def aP.tw (F:Nat) (aa:Sl) (H:Hp):OA:=aP.twX F (bF.tw F) aa H
noncomputable def aP.code:Go.Code:=(Try.f153.body).getD .skip
noncomputable def aP.lh13 (F:Nat) (ec:Int→Int→Int→Int→Int→Hp→OA) (ks:List Nat) (n:Nat) (tm:Tm) (H:Hp):OA:=match ks,tm 0,tm 1,tm 7,tm 8 with
 | [],(.sl gE),(.fn 124 []),(.int .i64 eX),(.int .i64 ed)=>aP.l13 F ec n gE eX ed H
 | _,_,_,_,_=>none
theorem aP.lh13_inv {F:Nat} {ec:Int→Int→Int→Int→Int→Hp→OA} {ks:List Nat} {n:Nat} {tm:Tm} {H:Hp} {r:AV×Hp} (h:aP.lh13 F ec ks n tm H = some r):∃ gE:Sl,∃ eX:Int,∃ ed:Int,ks = []∧tm 0 = (.sl gE)∧tm 1 = (.fn 124 [])∧tm 7 = (.int .i64 eX)∧tm 8 = (.int .i64 ed)∧aP.l13 F ec n gE eX ed H = some r:=by
 unfold aP.lh13 at h
 split at h
 ·exact ⟨_,_,_,rfl,by assumption,by assumption,by assumption,by assumption,h⟩
 ·cases h
noncomputable def aP.lh (F:Nat) (ec:Int→Int→Int→Int→Int→Hp→OA) (p:Nat) (ks:List Nat) (n:Nat) (tm:Tm) (H:Hp):OA:=bif p.beq 13 then aP.lh13 F ec ks n tm H else (none)
def aP.pn:Nat→List Nat:=fun i=>(([]:List (Nat×List Nat)).lookup i).getD []
def aP.tb:Nat→List (List Nat):=fun i=>(([]:List (Nat×List (List Nat))).lookup i).getD []
noncomputable def aP.mk (g:Sl→Hp→OA) (args:List AV) (H:Hp):OA:=match args with
 | [(.sl aa),(.fn 124 [])]=>g aa H
 | _=>none
noncomputable def aP.cs (F:Nat) (ec:Int→Int→Int→Int→Int→Hp→OA):List (FuncId×(List AV→Hp→OA)):=[(124,bF.mk ec)]
theorem aP.loops (F:Nat) (ec:Int→Int→Int→Int→Int→Hp→OA):LoopsOk tabs (mkOrc (aP.cs F ec)) aP.pn (aP.lh F ec) F [] 1 aP.code (fun tm H=>aresults tabs.ty H tm Try.f153.results.toList fun v=>some (v,H)) (fun _ _ _=>none) (fun tm H=>aresults tabs.ty H tm Try.f153.results.toList fun v=>some (v,H)):=by
 refine LoopsOk.seq ?_ ?_
 ·exact loops_none (by kernel_rfl)
 ·refine LoopsOk.seq ?_ ?_
  ·refine LoopsOk.seq ?_ ?_
   ·exact loops_none (by kernel_rfl)
   ·refine LoopsOk.block ?_
    refine LoopsOk.loop (fun tm H=>?_) (fun k13 tm H r h0=>?_) (fun k13=>?_)
    ·refine none_of fun r h0=>?_
     obtain ⟨gE,eX,ed,hks,e0,e1,e7,e8,h⟩:=aP.lh13_inv (show aP.lh13 F ec [] 0 tm H = some r from h0)
     cases h
    ·obtain ⟨gE,eX,ed,hks,e0,e1,e7,e8,h⟩:=aP.lh13_inv (show aP.lh13 F ec [] (k13 + 1) tm H = some r from h0)
     have q0:(Tm.put tm 0 (.sl gE)) = tm:=by exact Tm.put_same e0
     have q1:(Tm.put (Tm.put tm 0 (.sl gE)) 1 (.fn 124 [])) = tm:=by rw [q0]; exact Tm.put_same e1
     have q2:(Tm.put (Tm.put (Tm.put tm 0 (.sl gE)) 1 (.fn 124 [])) 7 (.int .i64 eX)) = tm:=by rw [q1]; exact Tm.put_same e7
     have q3:(Tm.put (Tm.put (Tm.put (Tm.put tm 0 (.sl gE)) 1 (.fn 124 [])) 7 (.int .i64 eX)) 8 (.int .i64 ed)) = tm:=by rw [q2]; exact Tm.put_same e8
     rw [← q3]
     exact Eq.trans (by kernel_rfl) h
    ·exact loops_none (by kernel_rfl)
  ·exact loops_none (by kernel_rfl)
theorem aP.eqX (F:Nat) (ec:Int→Int→Int→Int→Int→Hp→OA) (aa:Sl) (H:Hp):aCode tabs (mkOrc (aP.cs F ec)) aP.pn (aP.lh F ec) F [] 1 aP.code (argTm [(.sl aa),(.fn 124 [])]) H (fun tm H=>aresults tabs.ty H tm Try.f153.results.toList fun v=>some (v,H)) (fun _ _ _=>none) (fun tm H=>aresults tabs.ty H tm Try.f153.results.toList fun v=>some (v,H)) = aP.twX F ec aa H:=by kernel_rfl
theorem aP.cs_ok (F:Nat):∀ p ∈ aP.cs F (bF.tw F),∀ args H v H',p.2 args H = some (v,H')→Go.AE.T Try.prog p.1 args H v H':=by
 intro p hp
 simp only [aP.cs,List.mem_cons,List.not_mem_nil,or_false] at hp
 subst hp
 exact fun args H v H' h=>bF.mk_T h
theorem aP.ok:codeOk aP.pn Try.f153.ntmps aP.tb aP.code = true:=by kernel_rfl
theorem aP.T {F:Nat} {aa:Sl} {H:Hp} {v:AV} {H':Hp} (h:aP.tw F aa H = some (v,H')):Go.AE.T Try.prog 153 [(.sl aa),(.fn 124 [])] H v H':=
 Go.AE.T.of (Y:=tabs) (C:=mkOrc (aP.cs F (bF.tw F))) (PN:=aP.pn) (LH:=aP.lh F (bF.tw F)) (F:=F) (TB:=aP.tb) (fn:=Try.f153) (code:=aP.code) mixed tabs_ok (mkOrc_ok (aP.cs_ok F)) Try.func153 (by kernel_rfl) (by kernel_rfl) aP.ok (Nat.le_of_ble_eq_true (by kernel_rfl)) (aP.loops F (bF.tw F)) (Eq.trans (aP.eqX F (bF.tw F) aa H) h)
theorem aP.mk_T {F:Nat} {args:List AV} {H:Hp} {v:AV} {H':Hp} (h:aP.mk (aP.tw F) args H = some (v,H')):Go.AE.T Try.prog 153 args H v H':=by
 unfold aP.mk at h
 split at h
 ·exact aP.T h
 ·cases h
noncomputable def bv.twX (F:Nat) (hO:Sl→Hp→OA) (aa:Sl) (H:Hp):OA:=(hO aa H).bind fun r2=>((r2.1).asI .i64).bind fun n3=>some ((.bool (decide (n3 ≥ 0))),r2.2)
noncomputable def bv.tw (F:Nat) (aa:Sl) (H:Hp):OA:=bv.twX F (aP.tw F) aa H
noncomputable def bv.code:Go.Code:=(Try.f123.body).getD .skip
noncomputable def bv.lh (F:Nat) (hO:Sl→Hp→OA) (p:Nat) (ks:List Nat) (n:Nat) (tm:Tm) (H:Hp):OA:=none
def bv.pn:Nat→List Nat:=fun i=>(([]:List (Nat×List Nat)).lookup i).getD []
def bv.tb:Nat→List (List Nat):=fun i=>(([]:List (Nat×List (List Nat))).lookup i).getD []
noncomputable def bv.mk (g:Sl→Hp→OA) (args:List AV) (H:Hp):OA:=match args with
 | [(.sl aa),(.fn 124 [])]=>g aa H
 | _=>none
noncomputable def bv.cs (F:Nat) (hO:Sl→Hp→OA):List (FuncId×(List AV→Hp→OA)):=[(153,aP.mk hO)]
theorem bv.loops (F:Nat) (hO:Sl→Hp→OA):LoopsOk tabs (mkOrc (bv.cs F hO)) bv.pn (bv.lh F hO) F [] 1 bv.code (fun tm H=>aresults tabs.ty H tm Try.f123.results.toList fun v=>some (v,H)) (fun _ _ _=>none) (fun tm H=>aresults tabs.ty H tm Try.f123.results.toList fun v=>some (v,H)):=by
 exact loops_none (by kernel_rfl)
theorem bv.eqX (F:Nat) (hO:Sl→Hp→OA) (aa:Sl) (H:Hp):aCode tabs (mkOrc (bv.cs F hO)) bv.pn (bv.lh F hO) F [] 1 bv.code (argTm [(.sl aa),(.fn 124 [])]) H (fun tm H=>aresults tabs.ty H tm Try.f123.results.toList fun v=>some (v,H)) (fun _ _ _=>none) (fun tm H=>aresults tabs.ty H tm Try.f123.results.toList fun v=>some (v,H)) = bv.twX F hO aa H:=by kernel_rfl
theorem bv.cs_ok (F:Nat):∀ p ∈ bv.cs F (aP.tw F),∀ args H v H',p.2 args H = some (v,H')→Go.AE.T Try.prog p.1 args H v H':=by
 intro p hp
 simp only [bv.cs,List.mem_cons,List.not_mem_nil,or_false] at hp
 subst hp
 exact fun args H v H' h=>aP.mk_T h
theorem bv.ok:codeOk bv.pn Try.f123.ntmps bv.tb bv.code = true:=by kernel_rfl
theorem bv.T {F:Nat} {aa:Sl} {H:Hp} {v:AV} {H':Hp} (h:bv.tw F aa H = some (v,H')):Go.AE.T Try.prog 123 [(.sl aa),(.fn 124 [])] H v H':=
 Go.AE.T.of (Y:=tabs) (C:=mkOrc (bv.cs F (aP.tw F))) (PN:=bv.pn) (LH:=bv.lh F (aP.tw F)) (F:=F) (TB:=bv.tb) (fn:=Try.f123) (code:=bv.code) mixed tabs_ok (mkOrc_ok (bv.cs_ok F)) Try.func123 (by kernel_rfl) (by kernel_rfl) bv.ok (Nat.le_of_ble_eq_true (by kernel_rfl)) (bv.loops F (aP.tw F)) (Eq.trans (bv.eqX F (aP.tw F) aa H) h)
theorem bv.mk_T {F:Nat} {args:List AV} {H:Hp} {v:AV} {H':Hp} (h:bv.mk (bv.tw F) args H = some (v,H')):Go.AE.T Try.prog 123 args H v H':=by
 unfold bv.mk at h
 split at h
 ·exact bv.T h
 ·cases h
noncomputable def bits_Mul64.twX (F:Nat) (aa:Int) (ad:Int) (H:Hp):OA:=some ((.tup [(.int .u64 (IntKind.u64.wrap ((IntKind.u64.wrap ((IntKind.u64.wrap ((Int.fdiv aa (2 ^ (min (32:Int).toNat (IntKind.u64).bits))) * (Int.fdiv ad (2 ^ (min (32:Int).toNat (IntKind.u64).bits))))) + (Int.fdiv (IntKind.u64.wrap ((IntKind.u64.wrap ((Int.fdiv aa (2 ^ (min (32:Int).toNat (IntKind.u64).bits))) * (Go.bits .and .u64 ad 4294967295))) + (Int.fdiv (IntKind.u64.wrap ((Go.bits .and .u64 aa 4294967295) * (Go.bits .and .u64 ad 4294967295))) (2 ^ (min (32:Int).toNat (IntKind.u64).bits))))) (2 ^ (min (32:Int).toNat (IntKind.u64).bits))))) + (Int.fdiv (IntKind.u64.wrap ((Go.bits .and .u64 (IntKind.u64.wrap ((IntKind.u64.wrap ((Int.fdiv aa (2 ^ (min (32:Int).toNat (IntKind.u64).bits))) * (Go.bits .and .u64 ad 4294967295))) + (Int.fdiv (IntKind.u64.wrap ((Go.bits .and .u64 aa 4294967295) * (Go.bits .and .u64 ad 4294967295))) (2 ^ (min (32:Int).toNat (IntKind.u64).bits))))) 4294967295) + (IntKind.u64.wrap ((Go.bits .and .u64 aa 4294967295) * (Int.fdiv ad (2 ^ (min (32:Int).toNat (IntKind.u64).bits))))))) (2 ^ (min (32:Int).toNat (IntKind.u64).bits)))))),(.int .u64 (IntKind.u64.wrap (aa * ad)))]),H)
noncomputable def bits_Mul64.tw (F:Nat) (aa:Int) (ad:Int) (H:Hp):OA:=bits_Mul64.twX F aa ad H
noncomputable def bits_Mul64.code:Go.Code:=(Try.f172.body).getD .skip
noncomputable def bits_Mul64.lh (F:Nat) (p:Nat) (ks:List Nat) (n:Nat) (tm:Tm) (H:Hp):OA:=none
def bits_Mul64.pn:Nat→List Nat:=fun i=>(([]:List (Nat×List Nat)).lookup i).getD []
def bits_Mul64.tb:Nat→List (List Nat):=fun i=>(([]:List (Nat×List (List Nat))).lookup i).getD []
noncomputable def bits_Mul64.mk (g:Int→Int→Hp→OA) (args:List AV) (H:Hp):OA:=match args with
 | [(.int .u64 aa),(.int .u64 ad)]=>g aa ad H
 | _=>none
noncomputable def bits_Mul64.cs (F:Nat):List (FuncId×(List AV→Hp→OA)):=[]
theorem bits_Mul64.loops (F:Nat):LoopsOk tabs (mkOrc (bits_Mul64.cs F)) bits_Mul64.pn (bits_Mul64.lh F) F [] 1 bits_Mul64.code (fun tm H=>aresults tabs.ty H tm Try.f172.results.toList fun v=>some (v,H)) (fun _ _ _=>none) (fun tm H=>aresults tabs.ty H tm Try.f172.results.toList fun v=>some (v,H)):=by
 exact loops_none (by kernel_rfl)
theorem bits_Mul64.eqX (F:Nat) (aa:Int) (ad:Int) (H:Hp):aCode tabs (mkOrc (bits_Mul64.cs F)) bits_Mul64.pn (bits_Mul64.lh F) F [] 1 bits_Mul64.code (argTm [(.int .u64 aa),(.int .u64 ad)]) H (fun tm H=>aresults tabs.ty H tm Try.f172.results.toList fun v=>some (v,H)) (fun _ _ _=>none) (fun tm H=>aresults tabs.ty H tm Try.f172.results.toList fun v=>some (v,H)) = bits_Mul64.twX F aa ad H:=by kernel_rfl
theorem bits_Mul64.cs_ok (F:Nat):∀ p ∈ bits_Mul64.cs F,∀ args H v H',p.2 args H = some (v,H')→Go.AE.T Try.prog p.1 args H v H':=by
 intro p hp
 exact absurd (show p ∈ [] from hp) List.not_mem_nil
theorem bits_Mul64.ok:codeOk bits_Mul64.pn Try.f172.ntmps bits_Mul64.tb bits_Mul64.code = true:=by kernel_rfl
theorem bits_Mul64.T {F:Nat} {aa:Int} {ad:Int} {H:Hp} {v:AV} {H':Hp} (h:bits_Mul64.tw F aa ad H = some (v,H')):Go.AE.T Try.prog 172 [(.int .u64 aa),(.int .u64 ad)] H v H':=
 Go.AE.T.of (Y:=tabs) (C:=mkOrc (bits_Mul64.cs F)) (PN:=bits_Mul64.pn) (LH:=bits_Mul64.lh F) (F:=F) (TB:=bits_Mul64.tb) (fn:=Try.f172) (code:=bits_Mul64.code) mixed tabs_ok (mkOrc_ok (bits_Mul64.cs_ok F)) Try.func172 (by kernel_rfl) (by kernel_rfl) bits_Mul64.ok (Nat.le_of_ble_eq_true (by kernel_rfl)) (bits_Mul64.loops F) (Eq.trans (bits_Mul64.eqX F aa ad H) h)
theorem bits_Mul64.mk_T {F:Nat} {args:List AV} {H:Hp} {v:AV} {H':Hp} (h:bits_Mul64.mk (bits_Mul64.tw F) args H = some (v,H')):Go.AE.T Try.prog 172 args H v H':=by
 unfold bits_Mul64.mk at h
 split at h
 ·exact bits_Mul64.T h
 ·cases h
noncomputable def bits_Mul.twX (F:Nat) (g_bits_Mul64:Int→Int→Hp→OA) (aa:Int) (ad:Int) (H:Hp):OA:=(g_bits_Mul64 aa ad H).bind fun r3=>((r3.1).asTup 2).bind fun l4=>(l4[0]?).bind fun v5=>((v5).asI .u64).bind fun n6=>(l4[1]?).bind fun v7=>((v7).asI .u64).bind fun n8=>some ((.tup [(.int .u64 n6),(.int .u64 n8)]),r3.2)
noncomputable def bits_Mul.tw (F:Nat) (aa:Int) (ad:Int) (H:Hp):OA:=bits_Mul.twX F (bits_Mul64.tw F) aa ad H
noncomputable def bits_Mul.code:Go.Code:=(Try.f158.body).getD .skip
noncomputable def bits_Mul.lh (F:Nat) (g_bits_Mul64:Int→Int→Hp→OA) (p:Nat) (ks:List Nat) (n:Nat) (tm:Tm) (H:Hp):OA:=none
def bits_Mul.pn:Nat→List Nat:=fun i=>(([]:List (Nat×List Nat)).lookup i).getD []
def bits_Mul.tb:Nat→List (List Nat):=fun i=>(([]:List (Nat×List (List Nat))).lookup i).getD []
noncomputable def bits_Mul.mk (g:Int→Int→Hp→OA) (args:List AV) (H:Hp):OA:=match args with
 | [(.int .u64 aa),(.int .u64 ad)]=>g aa ad H
 | _=>none
noncomputable def bits_Mul.cs (F:Nat) (g_bits_Mul64:Int→Int→Hp→OA):List (FuncId×(List AV→Hp→OA)):=[(172,bits_Mul64.mk g_bits_Mul64)]
theorem bits_Mul.loops (F:Nat) (g_bits_Mul64:Int→Int→Hp→OA):LoopsOk tabs (mkOrc (bits_Mul.cs F g_bits_Mul64)) bits_Mul.pn (bits_Mul.lh F g_bits_Mul64) F [] 1 bits_Mul.code (fun tm H=>aresults tabs.ty H tm Try.f158.results.toList fun v=>some (v,H)) (fun _ _ _=>none) (fun tm H=>aresults tabs.ty H tm Try.f158.results.toList fun v=>some (v,H)):=by
 exact loops_none (by kernel_rfl)
theorem bits_Mul.eqX (F:Nat) (g_bits_Mul64:Int→Int→Hp→OA) (aa:Int) (ad:Int) (H:Hp):aCode tabs (mkOrc (bits_Mul.cs F g_bits_Mul64)) bits_Mul.pn (bits_Mul.lh F g_bits_Mul64) F [] 1 bits_Mul.code (argTm [(.int .u64 aa),(.int .u64 ad)]) H (fun tm H=>aresults tabs.ty H tm Try.f158.results.toList fun v=>some (v,H)) (fun _ _ _=>none) (fun tm H=>aresults tabs.ty H tm Try.f158.results.toList fun v=>some (v,H)) = bits_Mul.twX F g_bits_Mul64 aa ad H:=by kernel_rfl
theorem bits_Mul.cs_ok (F:Nat):∀ p ∈ bits_Mul.cs F (bits_Mul64.tw F),∀ args H v H',p.2 args H = some (v,H')→Go.AE.T Try.prog p.1 args H v H':=by
 intro p hp
 simp only [bits_Mul.cs,List.mem_cons,List.not_mem_nil,or_false] at hp
 subst hp
 exact fun args H v H' h=>bits_Mul64.mk_T h
theorem bits_Mul.ok:codeOk bits_Mul.pn Try.f158.ntmps bits_Mul.tb bits_Mul.code = true:=by kernel_rfl
theorem bits_Mul.T {F:Nat} {aa:Int} {ad:Int} {H:Hp} {v:AV} {H':Hp} (h:bits_Mul.tw F aa ad H = some (v,H')):Go.AE.T Try.prog 158 [(.int .u64 aa),(.int .u64 ad)] H v H':=
 Go.AE.T.of (Y:=tabs) (C:=mkOrc (bits_Mul.cs F (bits_Mul64.tw F))) (PN:=bits_Mul.pn) (LH:=bits_Mul.lh F (bits_Mul64.tw F)) (F:=F) (TB:=bits_Mul.tb) (fn:=Try.f158) (code:=bits_Mul.code) mixed tabs_ok (mkOrc_ok (bits_Mul.cs_ok F)) Try.func158 (by kernel_rfl) (by kernel_rfl) bits_Mul.ok (Nat.le_of_ble_eq_true (by kernel_rfl)) (bits_Mul.loops F (bits_Mul64.tw F)) (Eq.trans (bits_Mul.eqX F (bits_Mul64.tw F) aa ad H) h)
theorem bits_Mul.mk_T {F:Nat} {args:List AV} {H:Hp} {v:AV} {H':Hp} (h:bits_Mul.mk (bits_Mul.tw F) args H = some (v,H')):Go.AE.T Try.prog 158 args H v H':=by
 unfold bits_Mul.mk at h
 split at h
 ·exact bits_Mul.T h
 ·cases h
noncomputable def aC.l254 (F:Nat) (g_bits_Mul:Int→Int→Hp→OA) :Nat→Sl→Int→Hp→OA
 | 0,_,_,_=>none
 | Ca + 1,gd,gS,H33=>(bif (decide (gS < (gd.n:Int))) then ((Sl.cut gd 2 gS (gd.n:Int)).bind fun s37=>(Sl.cut gd 2 0 gS).bind fun s38=>(Hp.cpy H33 2 s37 s38).bind fun c39=>aC.l254 F g_bits_Mul Ca gd (IntKind.i64.wrap (gS + (c39.1:Int))) c39.2) else (some ((.sl gd),H33)))
termination_by structural n=>n
noncomputable def aC.j1 (F:Nat) (g_bits_Mul:Int→Int→Hp→OA) (Cb:Sl) (kn:Int) (H21:Hp):OA:=(Hp.mk H21 [.int .i64 0,.int .i64 0] 16 (IntKind.i64.wrap kn) (IntKind.i64.wrap kn)).bind fun m22=>(Hp.cpy m22.2 2 m22.1 Cb).bind fun c23=>aC.l254 F g_bits_Mul F m22.1 (c23.1:Int) c23.2
noncomputable def aC.j2 (F:Nat) (g_bits_Mul:Int→Int→Hp→OA) (wa:Sl) (lG:Int) (H7:Hp):OA:=(g_bits_Mul (IntKind.u64.wrap (wa.n:Int)) (IntKind.u64.wrap lG) H7).bind fun r8=>((r8.1).asTup 2).bind fun l9=>(l9[0]?).bind fun v10=>((v10).asI .u64).bind fun n11=>(l9[1]?).bind fun v12=>((v12).asI .u64).bind fun n13=>(bif (decide (n11 > 0)) then (none) else ((bif (decide (n13 > 9223372036854775807)) then (none) else (aC.j1 F g_bits_Mul wa n13 r8.2))))
noncomputable def aC.twX (F:Nat) (g_bits_Mul:Int→Int→Hp→OA) (aa:Sl) (ad:Int) (H:Hp):OA:=(bif (decide (ad < 0)) then (none) else (aC.j2 F g_bits_Mul aa ad H))
noncomputable def aC.tw (F:Nat) (aa:Sl) (ad:Int) (H:Hp):OA:=aC.twX F (bits_Mul.tw F) aa ad H
noncomputable def aC.code:Go.Code:=(Try.f154.body).getD .skip
noncomputable def aC.lh254 (F:Nat) (g_bits_Mul:Int→Int→Hp→OA) (ks:List Nat) (n:Nat) (tm:Tm) (H:Hp):OA:=match ks,tm 7,tm 8 with
 | [],(.sl gd),(.int .i64 gS)=>aC.l254 F g_bits_Mul n gd gS H
 | _,_,_=>none
theorem aC.lh254_inv {F:Nat} {g_bits_Mul:Int→Int→Hp→OA} {ks:List Nat} {n:Nat} {tm:Tm} {H:Hp} {r:AV×Hp} (h:aC.lh254 F g_bits_Mul ks n tm H = some r):∃ gd:Sl,∃ gS:Int,ks = []∧tm 7 = (.sl gd)∧tm 8 = (.int .i64 gS)∧aC.l254 F g_bits_Mul n gd gS H = some r:=by
 unfold aC.lh254 at h
 split at h
 ·exact ⟨_,_,rfl,by assumption,by assumption,h⟩
 ·cases h
noncomputable def aC.lh (F:Nat) (g_bits_Mul:Int→Int→Hp→OA) (p:Nat) (ks:List Nat) (n:Nat) (tm:Tm) (H:Hp):OA:=bif p.beq 254 then aC.lh254 F g_bits_Mul ks n tm H else (none)
def aC.pn:Nat→List Nat:=fun i=>(([(9,[7])]:List (Nat×List Nat)).lookup i).getD []
def aC.tb:Nat→List (List Nat):=fun i=>(([(9,[[],[],[],[1,2],[],[],[4,5],[1,2,3,4,5,6],[0,1,2,3,4,5,6,7],[0,1,2,3,4,5,6,7,8]])]:List (Nat×List (List Nat))).lookup i).getD []
noncomputable def aC.mk (g:Sl→Int→Hp→OA) (args:List AV) (H:Hp):OA:=match args with
 | [(.sl aa),(.int .i64 ad)]=>g aa ad H
 | _=>none
noncomputable def aC.cs (F:Nat) (g_bits_Mul:Int→Int→Hp→OA):List (FuncId×(List AV→Hp→OA)):=[(158,bits_Mul.mk g_bits_Mul)]
theorem aC.loops (F:Nat) (g_bits_Mul:Int→Int→Hp→OA):LoopsOk tabs (mkOrc (aC.cs F g_bits_Mul)) aC.pn (aC.lh F g_bits_Mul) F [] 1 aC.code (fun tm H=>aresults tabs.ty H tm Try.f154.results.toList fun v=>some (v,H)) (fun _ _ _=>none) (fun tm H=>aresults tabs.ty H tm Try.f154.results.toList fun v=>some (v,H)):=by
 refine LoopsOk.seq ?_ ?_
 ·exact loops_none (by kernel_rfl)
 ·refine LoopsOk.seq ?_ ?_
  ·exact loops_none (by kernel_rfl)
  ·refine LoopsOk.seq ?_ ?_
   ·exact loops_none (by kernel_rfl)
   ·refine LoopsOk.seq ?_ ?_
    ·exact loops_none (by kernel_rfl)
    ·refine LoopsOk.seq ?_ ?_
     ·exact loops_none (by kernel_rfl)
     ·refine LoopsOk.seq ?_ ?_
      ·exact loops_none (by kernel_rfl)
      ·refine LoopsOk.seq ?_ ?_
       ·refine LoopsOk.block ?_
        refine LoopsOk.loop (fun tm H=>?_) (fun k254 tm H r h0=>?_) (fun k254=>?_)
        ·refine none_of fun r h0=>?_
         obtain ⟨gd,gS,hks,e7,e8,h⟩:=aC.lh254_inv (show aC.lh254 F g_bits_Mul [] 0 tm H = some r from h0)
         cases h
        ·obtain ⟨gd,gS,hks,e7,e8,h⟩:=aC.lh254_inv (show aC.lh254 F g_bits_Mul [] (k254 + 1) tm H = some r from h0)
         have q0:(Tm.put tm 7 (.sl gd)) = tm:=by exact Tm.put_same e7
         have q1:(Tm.put (Tm.put tm 7 (.sl gd)) 8 (.int .i64 gS)) = tm:=by rw [q0]; exact Tm.put_same e8
         rw [← q1]
         exact Eq.trans (by kernel_rfl) h
        ·exact loops_none (by kernel_rfl)
       ·exact loops_none (by kernel_rfl)
theorem aC.eqX (F:Nat) (g_bits_Mul:Int→Int→Hp→OA) (aa:Sl) (ad:Int) (H:Hp):aCode tabs (mkOrc (aC.cs F g_bits_Mul)) aC.pn (aC.lh F g_bits_Mul) F [] 1 aC.code (argTm [(.sl aa),(.int .i64 ad)]) H (fun tm H=>aresults tabs.ty H tm Try.f154.results.toList fun v=>some (v,H)) (fun _ _ _=>none) (fun tm H=>aresults tabs.ty H tm Try.f154.results.toList fun v=>some (v,H)) = aC.twX F g_bits_Mul aa ad H:=by kernel_rfl
theorem aC.cs_ok (F:Nat):∀ p ∈ aC.cs F (bits_Mul.tw F),∀ args H v H',p.2 args H = some (v,H')→Go.AE.T Try.prog p.1 args H v H':=by
 intro p hp
 simp only [aC.cs,List.mem_cons,List.not_mem_nil,or_false] at hp
 subst hp
 exact fun args H v H' h=>bits_Mul.mk_T h
theorem aC.ok:codeOk aC.pn Try.f154.ntmps aC.tb aC.code = true:=by kernel_rfl
theorem aC.T {F:Nat} {aa:Sl} {ad:Int} {H:Hp} {v:AV} {H':Hp} (h:aC.tw F aa ad H = some (v,H')):Go.AE.T Try.prog 154 [(.sl aa),(.int .i64 ad)] H v H':=
 Go.AE.T.of (Y:=tabs) (C:=mkOrc (aC.cs F (bits_Mul.tw F))) (PN:=aC.pn) (LH:=aC.lh F (bits_Mul.tw F)) (F:=F) (TB:=aC.tb) (fn:=Try.f154) (code:=aC.code) mixed tabs_ok (mkOrc_ok (aC.cs_ok F)) Try.func154 (by kernel_rfl) (by kernel_rfl) aC.ok (Nat.le_of_ble_eq_true (by kernel_rfl)) (aC.loops F (bits_Mul.tw F)) (Eq.trans (aC.eqX F (bits_Mul.tw F) aa ad H) h)
theorem aC.mk_T {F:Nat} {args:List AV} {H:Hp} {v:AV} {H':Hp} (h:aC.mk (aC.tw F) args H = some (v,H')):Go.AE.T Try.prog 154 args H v H':=by
 unfold aC.mk at h
 split at h
 ·exact aC.T h
 ·cases h
noncomputable def bh.twX (F:Nat) (aa:Int) (ab:Int) (ah:Int) (az:Int) (ax:Int) (H:Hp):OA:=(Hp.new H [(.int .i64 aa),(.int .i64 ab),(.int .i64 ah),(.int .i64 az),(.int .i64 ax)]).bind fun H6=>(Hp.new H6 [.int .i64 0,.int .i64 0,.int .i64 0,.int .i64 0]).bind fun H7=>(Hp.ldI H7 .i64 H.length 0).bind fun n8=>(Hp.ldI H7 .i64 H.length 1).bind fun n9=>(Hp.ldI H7 .i64 H.length 2).bind fun n10=>(Hp.ldI H7 .i64 H.length 3).bind fun n11=>(Hp.st H7 H6.length 0 (.int .i64 n8)).bind fun H12=>(Hp.st H12 H6.length (0 + 1) (.int .i64 n9)).bind fun H13=>(Hp.st H13 H6.length (0 + 1 + 1) (.int .i64 n10)).bind fun H14=>(Hp.st H14 H6.length (0 + 1 + 1 + 1) (.int .i64 n11)).bind fun H15=>(Hp.ldI H15 .i64 H6.length 0).bind fun n16=>(Hp.ldI H15 .i64 H6.length (0 + 1)).bind fun n17=>(Hp.ldI H15 .i64 H6.length (0 + 2)).bind fun n18=>(Hp.ldI H15 .i64 H6.length (0 + 3)).bind fun n19=>some ((.agg [(.int .i64 n16),(.int .i64 n17),(.int .i64 n18),(.int .i64 n19)]),H15)
noncomputable def bh.tw (F:Nat) (aa:Int) (ab:Int) (ah:Int) (az:Int) (ax:Int) (H:Hp):OA:=bh.twX F aa ab ah az ax H
noncomputable def bh.code:Go.Code:=(Try.f155.body).getD .skip
noncomputable def bh.lh (F:Nat) (p:Nat) (ks:List Nat) (n:Nat) (tm:Tm) (H:Hp):OA:=none
def bh.pn:Nat→List Nat:=fun i=>(([]:List (Nat×List Nat)).lookup i).getD []
def bh.tb:Nat→List (List Nat):=fun i=>(([]:List (Nat×List (List Nat))).lookup i).getD []
noncomputable def bh.mk (g:Int→Int→Int→Int→Int→Hp→OA) (args:List AV) (H:Hp):OA:=match args with
 | [(.agg [(.int .i64 aa),(.int .i64 ab),(.int .i64 ah),(.int .i64 az),(.int .i64 ax)])]=>g aa ab ah az ax H
 | _=>none
noncomputable def bh.cs (F:Nat):List (FuncId×(List AV→Hp→OA)):=[]
theorem bh.loops (F:Nat):LoopsOk tabs (mkOrc (bh.cs F)) bh.pn (bh.lh F) F [] 1 bh.code (fun tm H=>aresults tabs.ty H tm Try.f155.results.toList fun v=>some (v,H)) (fun _ _ _=>none) (fun tm H=>aresults tabs.ty H tm Try.f155.results.toList fun v=>some (v,H)):=by
 exact loops_none (by kernel_rfl)
theorem bh.eqX (F:Nat) (aa:Int) (ab:Int) (ah:Int) (az:Int) (ax:Int) (H:Hp):aCode tabs (mkOrc (bh.cs F)) bh.pn (bh.lh F) F [] 1 bh.code (argTm [(.agg [(.int .i64 aa),(.int .i64 ab),(.int .i64 ah),(.int .i64 az),(.int .i64 ax)])]) H (fun tm H=>aresults tabs.ty H tm Try.f155.results.toList fun v=>some (v,H)) (fun _ _ _=>none) (fun tm H=>aresults tabs.ty H tm Try.f155.results.toList fun v=>some (v,H)) = bh.twX F aa ab ah az ax H:=by kernel_rfl
theorem bh.cs_ok (F:Nat):∀ p ∈ bh.cs F,∀ args H v H',p.2 args H = some (v,H')→Go.AE.T Try.prog p.1 args H v H':=by
 intro p hp
 exact absurd (show p ∈ [] from hp) List.not_mem_nil
theorem bh.ok:codeOk bh.pn Try.f155.ntmps bh.tb bh.code = true:=by kernel_rfl
theorem bh.T {F:Nat} {aa:Int} {ab:Int} {ah:Int} {az:Int} {ax:Int} {H:Hp} {v:AV} {H':Hp} (h:bh.tw F aa ab ah az ax H = some (v,H')):Go.AE.T Try.prog 155 [(.agg [(.int .i64 aa),(.int .i64 ab),(.int .i64 ah),(.int .i64 az),(.int .i64 ax)])] H v H':=
 Go.AE.T.of (Y:=tabs) (C:=mkOrc (bh.cs F)) (PN:=bh.pn) (LH:=bh.lh F) (F:=F) (TB:=bh.tb) (fn:=Try.f155) (code:=bh.code) mixed tabs_ok (mkOrc_ok (bh.cs_ok F)) Try.func155 (by kernel_rfl) (by kernel_rfl) bh.ok (Nat.le_of_ble_eq_true (by kernel_rfl)) (bh.loops F) (Eq.trans (bh.eqX F aa ab ah az ax H) h)
theorem bh.mk_T {F:Nat} {args:List AV} {H:Hp} {v:AV} {H':Hp} (h:bh.mk (bh.tw F) args H = some (v,H')):Go.AE.T Try.prog 155 args H v H':=by
 unfold bh.mk at h
 split at h
 ·exact bh.T h
 ·cases h
noncomputable def bi.twX (F:Nat) (aa:Int) (ab:Int) (ah:Int) (az:Int) (ax:Int) (bd:Int) (H:Hp):OA:=(Hp.new H [(.int .i64 aa),(.int .i64 ab),(.int .i64 ah),(.int .i64 az),(.int .i64 ax)]).bind fun H7=>(bif (bd == 0) then (some ((.bool true),H7)) else ((Hp.ldI H7 .i64 H.length 4).bind fun n8=>some ((.bool (bd == (IntKind.i64.wrap (2 + n8)))),H7)))
noncomputable def bi.tw (F:Nat) (aa:Int) (ab:Int) (ah:Int) (az:Int) (ax:Int) (bd:Int) (H:Hp):OA:=bi.twX F aa ab ah az ax bd H
noncomputable def bi.code:Go.Code:=(Try.f156.body).getD .skip
noncomputable def bi.lh (F:Nat) (p:Nat) (ks:List Nat) (n:Nat) (tm:Tm) (H:Hp):OA:=none
def bi.pn:Nat→List Nat:=fun i=>(([]:List (Nat×List Nat)).lookup i).getD []
def bi.tb:Nat→List (List Nat):=fun i=>(([]:List (Nat×List (List Nat))).lookup i).getD []
noncomputable def bi.mk (g:Int→Int→Int→Int→Int→Int→Hp→OA) (args:List AV) (H:Hp):OA:=match args with
 | [(.agg [(.int .i64 aa),(.int .i64 ab),(.int .i64 ah),(.int .i64 az),(.int .i64 ax)]),(.int .i64 bd)]=>g aa ab ah az ax bd H
 | _=>none
noncomputable def bi.cs (F:Nat):List (FuncId×(List AV→Hp→OA)):=[]
theorem bi.loops (F:Nat):LoopsOk tabs (mkOrc (bi.cs F)) bi.pn (bi.lh F) F [] 1 bi.code (fun tm H=>aresults tabs.ty H tm Try.f156.results.toList fun v=>some (v,H)) (fun _ _ _=>none) (fun tm H=>aresults tabs.ty H tm Try.f156.results.toList fun v=>some (v,H)):=by
 exact loops_none (by kernel_rfl)
theorem bi.eqX (F:Nat) (aa:Int) (ab:Int) (ah:Int) (az:Int) (ax:Int) (bd:Int) (H:Hp):aCode tabs (mkOrc (bi.cs F)) bi.pn (bi.lh F) F [] 1 bi.code (argTm [(.agg [(.int .i64 aa),(.int .i64 ab),(.int .i64 ah),(.int .i64 az),(.int .i64 ax)]),(.int .i64 bd)]) H (fun tm H=>aresults tabs.ty H tm Try.f156.results.toList fun v=>some (v,H)) (fun _ _ _=>none) (fun tm H=>aresults tabs.ty H tm Try.f156.results.toList fun v=>some (v,H)) = bi.twX F aa ab ah az ax bd H:=by kernel_rfl
theorem bi.cs_ok (F:Nat):∀ p ∈ bi.cs F,∀ args H v H',p.2 args H = some (v,H')→Go.AE.T Try.prog p.1 args H v H':=by
 intro p hp
 exact absurd (show p ∈ [] from hp) List.not_mem_nil
theorem bi.ok:codeOk bi.pn Try.f156.ntmps bi.tb bi.code = true:=by kernel_rfl
theorem bi.T {F:Nat} {aa:Int} {ab:Int} {ah:Int} {az:Int} {ax:Int} {bd:Int} {H:Hp} {v:AV} {H':Hp} (h:bi.tw F aa ab ah az ax bd H = some (v,H')):Go.AE.T Try.prog 156 [(.agg [(.int .i64 aa),(.int .i64 ab),(.int .i64 ah),(.int .i64 az),(.int .i64 ax)]),(.int .i64 bd)] H v H':=
 Go.AE.T.of (Y:=tabs) (C:=mkOrc (bi.cs F)) (PN:=bi.pn) (LH:=bi.lh F) (F:=F) (TB:=bi.tb) (fn:=Try.f156) (code:=bi.code) mixed tabs_ok (mkOrc_ok (bi.cs_ok F)) Try.func156 (by kernel_rfl) (by kernel_rfl) bi.ok (Nat.le_of_ble_eq_true (by kernel_rfl)) (bi.loops F) (Eq.trans (bi.eqX F aa ab ah az ax bd H) h)
theorem bi.mk_T {F:Nat} {args:List AV} {H:Hp} {v:AV} {H':Hp} (h:bi.mk (bi.tw F) args H = some (v,H')):Go.AE.T Try.prog 156 args H v H':=by
 unfold bi.mk at h
 split at h
 ·exact bi.T h
 ·cases h
noncomputable def bK.twX (F:Nat) (aa:Sl) (H:Hp):OA:=some ((.int .i64 (aa.n:Int)),H)
noncomputable def bK.tw (F:Nat) (aa:Sl) (H:Hp):OA:=bK.twX F aa H
noncomputable def bK.code:Go.Code:=(Try.f170.body).getD .skip
noncomputable def bK.lh (F:Nat) (p:Nat) (ks:List Nat) (n:Nat) (tm:Tm) (H:Hp):OA:=none
def bK.pn:Nat→List Nat:=fun i=>(([]:List (Nat×List Nat)).lookup i).getD []
def bK.tb:Nat→List (List Nat):=fun i=>(([]:List (Nat×List (List Nat))).lookup i).getD []
noncomputable def bK.mk (g:Sl→Hp→OA) (args:List AV) (H:Hp):OA:=match args with
 | [(.sl aa)]=>g aa H
 | _=>none
noncomputable def bK.cs (F:Nat):List (FuncId×(List AV→Hp→OA)):=[]
theorem bK.loops (F:Nat):LoopsOk tabs (mkOrc (bK.cs F)) bK.pn (bK.lh F) F [] 1 bK.code (fun tm H=>aresults tabs.ty H tm Try.f170.results.toList fun v=>some (v,H)) (fun _ _ _=>none) (fun tm H=>aresults tabs.ty H tm Try.f170.results.toList fun v=>some (v,H)):=by
 exact loops_none (by kernel_rfl)
theorem bK.eqX (F:Nat) (aa:Sl) (H:Hp):aCode tabs (mkOrc (bK.cs F)) bK.pn (bK.lh F) F [] 1 bK.code (argTm [(.sl aa)]) H (fun tm H=>aresults tabs.ty H tm Try.f170.results.toList fun v=>some (v,H)) (fun _ _ _=>none) (fun tm H=>aresults tabs.ty H tm Try.f170.results.toList fun v=>some (v,H)) = bK.twX F aa H:=by kernel_rfl
theorem bK.cs_ok (F:Nat):∀ p ∈ bK.cs F,∀ args H v H',p.2 args H = some (v,H')→Go.AE.T Try.prog p.1 args H v H':=by
 intro p hp
 exact absurd (show p ∈ [] from hp) List.not_mem_nil
theorem bK.ok:codeOk bK.pn Try.f170.ntmps bK.tb bK.code = true:=by kernel_rfl
theorem bK.T {F:Nat} {aa:Sl} {H:Hp} {v:AV} {H':Hp} (h:bK.tw F aa H = some (v,H')):Go.AE.T Try.prog 170 [(.sl aa)] H v H':=
 Go.AE.T.of (Y:=tabs) (C:=mkOrc (bK.cs F)) (PN:=bK.pn) (LH:=bK.lh F) (F:=F) (TB:=bK.tb) (fn:=Try.f170) (code:=bK.code) mixed tabs_ok (mkOrc_ok (bK.cs_ok F)) Try.func170 (by kernel_rfl) (by kernel_rfl) bK.ok (Nat.le_of_ble_eq_true (by kernel_rfl)) (bK.loops F) (Eq.trans (bK.eqX F aa H) h)
theorem bK.mk_T {F:Nat} {args:List AV} {H:Hp} {v:AV} {H':Hp} (h:bK.mk (bK.tw F) args H = some (v,H')):Go.AE.T Try.prog 170 args H v H':=by
 unfold bK.mk at h
 split at h
 ·exact bK.T h
 ·cases h
noncomputable def bq.twX (F:Nat) (hP:Sl→Hp→OA) (bW:Int→Int→Int→Hp→OA) (aa:Sl) (ad:Int) (H:Hp):OA:=(hP aa H).bind fun r3=>((r3.1).asI .i64).bind fun n4=>(bW ad 0 (IntKind.i64.wrap (n4 - 1)) r3.2).bind fun r5=>((r5.1).asB).bind fun b6=>some ((.bool b6),r5.2)
noncomputable def bq.tw (F:Nat) (aa:Sl) (ad:Int) (H:Hp):OA:=bq.twX F (bK.tw F) (aO.tw F) aa ad H
noncomputable def bq.code:Go.Code:=(Try.f157.body).getD .skip
noncomputable def bq.lh (F:Nat) (hP:Sl→Hp→OA) (bW:Int→Int→Int→Hp→OA) (p:Nat) (ks:List Nat) (n:Nat) (tm:Tm) (H:Hp):OA:=none
def bq.pn:Nat→List Nat:=fun i=>(([]:List (Nat×List Nat)).lookup i).getD []
def bq.tb:Nat→List (List Nat):=fun i=>(([]:List (Nat×List (List Nat))).lookup i).getD []
noncomputable def bq.mk (g:Sl→Int→Hp→OA) (args:List AV) (H:Hp):OA:=match args with
 | [(.sl aa),(.int .i64 ad)]=>g aa ad H
 | _=>none
noncomputable def bq.cs (F:Nat) (hP:Sl→Hp→OA) (bW:Int→Int→Int→Hp→OA):List (FuncId×(List AV→Hp→OA)):=[(170,bK.mk hP),(81,aO.mk bW)]
theorem bq.loops (F:Nat) (hP:Sl→Hp→OA) (bW:Int→Int→Int→Hp→OA):LoopsOk tabs (mkOrc (bq.cs F hP bW)) bq.pn (bq.lh F hP bW) F [] 1 bq.code (fun tm H=>aresults tabs.ty H tm Try.f157.results.toList fun v=>some (v,H)) (fun _ _ _=>none) (fun tm H=>aresults tabs.ty H tm Try.f157.results.toList fun v=>some (v,H)):=by
 exact loops_none (by kernel_rfl)
theorem bq.eqX (F:Nat) (hP:Sl→Hp→OA) (bW:Int→Int→Int→Hp→OA) (aa:Sl) (ad:Int) (H:Hp):aCode tabs (mkOrc (bq.cs F hP bW)) bq.pn (bq.lh F hP bW) F [] 1 bq.code (argTm [(.sl aa),(.int .i64 ad)]) H (fun tm H=>aresults tabs.ty H tm Try.f157.results.toList fun v=>some (v,H)) (fun _ _ _=>none) (fun tm H=>aresults tabs.ty H tm Try.f157.results.toList fun v=>some (v,H)) = bq.twX F hP bW aa ad H:=by kernel_rfl
theorem bq.cs_ok (F:Nat):∀ p ∈ bq.cs F (bK.tw F) (aO.tw F),∀ args H v H',p.2 args H = some (v,H')→Go.AE.T Try.prog p.1 args H v H':=by
 intro p hp
 simp only [bq.cs,List.mem_cons,List.not_mem_nil,or_false] at hp
 rcases hp with rfl | rfl
 ·exact fun args H v H' h=>bK.mk_T h
 ·exact fun args H v H' h=>aO.mk_T h
theorem bq.ok:codeOk bq.pn Try.f157.ntmps bq.tb bq.code = true:=by kernel_rfl
theorem bq.T {F:Nat} {aa:Sl} {ad:Int} {H:Hp} {v:AV} {H':Hp} (h:bq.tw F aa ad H = some (v,H')):Go.AE.T Try.prog 157 [(.sl aa),(.int .i64 ad)] H v H':=
 Go.AE.T.of (Y:=tabs) (C:=mkOrc (bq.cs F (bK.tw F) (aO.tw F))) (PN:=bq.pn) (LH:=bq.lh F (bK.tw F) (aO.tw F)) (F:=F) (TB:=bq.tb) (fn:=Try.f157) (code:=bq.code) mixed tabs_ok (mkOrc_ok (bq.cs_ok F)) Try.func157 (by kernel_rfl) (by kernel_rfl) bq.ok (Nat.le_of_ble_eq_true (by kernel_rfl)) (bq.loops F (bK.tw F) (aO.tw F)) (Eq.trans (bq.eqX F (bK.tw F) (aO.tw F) aa ad H) h)
theorem bq.mk_T {F:Nat} {args:List AV} {H:Hp} {v:AV} {H':Hp} (h:bq.mk (bq.tw F) args H = some (v,H')):Go.AE.T Try.prog 157 args H v H':=by
 unfold bq.mk at h
 split at h
 ·exact bq.T h
 ·cases h
noncomputable def au.l3931 (F:Nat) (cn:Sl→Int→Hp→OA) (bT:Int→Int→Int→Int→Int→Hp→OA) (bU:Int→Int→Int→Int→Int→Int→Hp→OA) (co:Sl→Int→Hp→OA) (C61_:Nat→Nat→Nat→Nat→Sl→Int→Int→Hp→OA):Nat→Nat→Nat→Nat→Nat→Sl→Int→Int→Nat→Nat→Int→Int→Int→Int→Int→Int→Hp→OA
 | 0,_,_,_,_,_,_,_,_,_,_,_,_,_,_,_,_=>none
 | wb + 1,ci,cr,cA,cO,gf,dO,ee,dp,eO,cP,cQ,cR,cS,cT,cj,H233=>(bif (decide (cj < 4)) then ((if 0 ≤ cj∧cj < (4:Int) then (([(.int .i64 cQ),(.int .i64 cR),(.int .i64 cS),(.int .i64 cT)]:List AV)[(cj:Int).toNat * 1]?).bind fun v283=>((v283).asI .i64).bind fun n284=>(Hp.ldSl H233 cA cO).bind fun s285=>(Hp.ldI H233 .i64 dp eO).bind fun n286=>(Hp.ldI H233 .i64 dp (eO + 1)).bind fun n287=>(Hp.ldI H233 .i64 dp (eO + 2)).bind fun n288=>(Hp.ldI H233 .i64 dp (eO + 3)).bind fun n289=>(Hp.ldI H233 .i64 dp (eO + 4)).bind fun n290=>(bU n286 n287 n288 n289 n290 cj H233).bind fun r291=>((r291.1).asB).bind fun b292=>(bif b292 then ((Hp.ldSl r291.2 cA (cO + 1)).bind fun s293=>(co s293 n284 r291.2).bind fun r294=>((r294.1).asB).bind fun b295=>(bif (!b295) then ((Hp.ldSl r294.2 cA cO).bind fun s296=>(Hp.ldSl r294.2 cA (cO + 1)).bind fun s297=>(Hp.st r294.2 ci cr (.sl s296)).bind fun H298=>(Hp.st H298 ci (cr + 1) (.sl s297)).bind fun H299=>(Hp.ldSl H299 ci cr).bind fun s300=>(Hp.ldSl H299 ci (cr + 1)).bind fun s301=>some ((.tup [(.agg [(.sl s300),(.sl s301)]),(.bool false)]),H299)) else ((Sl.idx s293 n284 2).bind fun p302=>(Hp.ldI r294.2 .i64 p302.1 p302.2).bind fun n303=>(bif (decide (n303 ≥ 0)) then ((Hp.ldSl r294.2 cA cO).bind fun s304=>(Hp.ldSl r294.2 cA (cO + 1)).bind fun s305=>(Hp.st r294.2 ci cr (.sl s304)).bind fun H306=>(Hp.st H306 ci (cr + 1) (.sl s305)).bind fun H307=>(Hp.ldSl H307 ci cr).bind fun s308=>(Hp.ldSl H307 ci (cr + 1)).bind fun s309=>some ((.tup [(.agg [(.sl s308),(.sl s309)]),(.bool false)]),H307)) else ((Sl.idx s293 n284 2).bind fun p310=>(Hp.st r294.2 p310.1 p310.2 (.int .i64 cP)).bind fun H311=>(Hp.st H311 p310.1 (p310.2 + 1) (.int .i64 cj)).bind fun H312=>au.l3931 F cn bT bU co C61_ wb ci cr cA cO gf dO ee dp eO cP cQ cR cS cT (IntKind.i64.wrap (cj + 1)) H312))))) else ((co s285 n284 r291.2).bind fun r313=>((r313.1).asB).bind fun b314=>(bif (!b314) then ((Hp.ldSl r313.2 cA cO).bind fun s315=>(Hp.ldSl r313.2 cA (cO + 1)).bind fun s316=>(Hp.st r313.2 ci cr (.sl s315)).bind fun H317=>(Hp.st H317 ci (cr + 1) (.sl s316)).bind fun H318=>(Hp.ldSl H318 ci cr).bind fun s319=>(Hp.ldSl H318 ci (cr + 1)).bind fun s320=>some ((.tup [(.agg [(.sl s319),(.sl s320)]),(.bool false)]),H318)) else ((Sl.idx s285 n284 2).bind fun p321=>(Hp.ldI r313.2 .i64 p321.1 p321.2).bind fun n322=>(bif (decide (n322 ≥ 0)) then ((Hp.ldSl r313.2 cA cO).bind fun s323=>(Hp.ldSl r313.2 cA (cO + 1)).bind fun s324=>(Hp.st r313.2 ci cr (.sl s323)).bind fun H325=>(Hp.st H325 ci (cr + 1) (.sl s324)).bind fun H326=>(Hp.ldSl H326 ci cr).bind fun s327=>(Hp.ldSl H326 ci (cr + 1)).bind fun s328=>some ((.tup [(.agg [(.sl s327),(.sl s328)]),(.bool false)]),H326)) else ((Sl.idx s285 n284 2).bind fun p329=>(Hp.st r313.2 p329.1 p329.2 (.int .i64 cP)).bind fun H330=>(Hp.st H330 p329.1 (p329.2 + 1) (.int .i64 cj)).bind fun H331=>au.l3931 F cn bT bU co C61_ wb ci cr cA cO gf dO ee dp eO cP cQ cR cS cT (IntKind.i64.wrap (cj + 1)) H331)))))) else none)) else (C61_ ci cr cA cO gf dO (IntKind.i64.wrap (ee + 1)) H233))
termination_by structural n=>n
noncomputable def au.l61 (F:Nat) (cn:Sl→Int→Hp→OA) (bT:Int→Int→Int→Int→Int→Hp→OA) (bU:Int→Int→Int→Int→Int→Int→Hp→OA) (co:Sl→Int→Hp→OA) :Nat→Nat→Nat→Nat→Nat→Sl→Int→Int→Hp→OA
 | 0,_,_,_,_,_,_,_,_=>none
 | bj + 1,ef,fJ,eY,gp,gT,eZ,eg,H29=>(bif (decide (eg < eZ)) then ((Sl.idx gT eg 5).bind fun p184=>(Hp.ldI H29 .i64 p184.1 p184.2).bind fun n185=>(Hp.ldI H29 .i64 p184.1 (p184.2 + 1)).bind fun n186=>(Hp.ldI H29 .i64 p184.1 (p184.2 + 2)).bind fun n187=>(Hp.ldI H29 .i64 p184.1 (p184.2 + 3)).bind fun n188=>(Hp.ldI H29 .i64 p184.1 (p184.2 + 4)).bind fun n189=>(Hp.new H29 [.int .i64 0,.int .i64 0,.int .i64 0,.int .i64 0,.int .i64 0]).bind fun H190=>(Hp.st H190 H29.length 0 (.int .i64 n185)).bind fun H191=>(Hp.st H191 H29.length (0 + 1) (.int .i64 n186)).bind fun H192=>(Hp.st H192 H29.length (0 + 1 + 1) (.int .i64 n187)).bind fun H193=>(Hp.st H193 H29.length (0 + 1 + 1 + 1) (.int .i64 n188)).bind fun H194=>(Hp.st H194 H29.length (0 + 1 + 1 + 1 + 1) (.int .i64 n189)).bind fun H195=>(Hp.ldI H195 .i64 H29.length 0).bind fun n196=>(Hp.ldI H195 .i64 H29.length (0 + 1)).bind fun n197=>(Hp.ldI H195 .i64 H29.length (0 + 2)).bind fun n198=>(Hp.ldI H195 .i64 H29.length (0 + 3)).bind fun n199=>(Hp.ldI H195 .i64 H29.length (0 + 4)).bind fun n200=>(bT n196 n197 n198 n199 n200 H195).bind fun r201=>((r201.1).asAgg 4).bind fun l202=>(l202[0]?).bind fun v203=>((v203).asI .i64).bind fun n204=>(l202[1]?).bind fun v205=>((v205).asI .i64).bind fun n206=>(l202[2]?).bind fun v207=>((v207).asI .i64).bind fun n208=>(l202[3]?).bind fun v209=>((v209).asI .i64).bind fun n210=>au.l3931 F cn bT bU co (au.l61 F cn bT bU co bj) F ef fJ eY gp gT eZ eg H29.length 0 eg n204 n206 n208 n210 0 r201.2) else ((Hp.ldSl H29 eY gp).bind fun s332=>(Hp.ldSl H29 eY (gp + 1)).bind fun s333=>(Hp.st H29 ef fJ (.sl s332)).bind fun H334=>(Hp.st H334 ef (fJ + 1) (.sl s333)).bind fun H335=>(Hp.ldSl H335 ef fJ).bind fun s336=>(Hp.ldSl H335 ef (fJ + 1)).bind fun s337=>some ((.tup [(.agg [(.sl s336),(.sl s337)]),(.bool true)]),H335)))
termination_by structural n=>n
noncomputable def au.twX (F:Nat) (cn:Sl→Int→Hp→OA) (bT:Int→Int→Int→Int→Int→Hp→OA) (bU:Int→Int→Int→Int→Int→Int→Hp→OA) (co:Sl→Int→Hp→OA) (aa:Sl) (ab:Int) (H:Hp):OA:=(Hp.new H [(.sl aa),(.int .i64 ab)]).bind fun H3=>(Hp.new H3 [.sl ⟨none,0,.ex 0⟩,.sl ⟨none,0,.ex 0⟩]).bind fun H4=>(Hp.ldSl H4 H.length 0).bind fun s5=>(Hp.new H4 [(.int .i64 (-1)),(.int .i64 0)]).bind fun H6=>(cn (⟨some (H4.length,0),1,.ex 1⟩:Sl) (IntKind.i64.wrap (2 * (s5.n:Int))) H6).bind fun r7=>((r7.1).asSl).bind fun s8=>(Hp.new r7.2 [(.int .i64 (-1)),(.int .i64 0)]).bind fun H9=>(cn (⟨some (r7.2.length,0),1,.ex 1⟩:Sl) (IntKind.i64.wrap (2 * (s5.n:Int))) H9).bind fun r10=>((r10.1).asSl).bind fun s11=>(Hp.new r10.2 [.sl ⟨none,0,.ex 0⟩,.sl ⟨none,0,.ex 0⟩]).bind fun H12=>(Hp.st H12 r10.2.length 0 (.sl s8)).bind fun H13=>(Hp.st H13 r10.2.length (0 + 1) (.sl s11)).bind fun H14=>(Hp.ldSl H14 H.length 0).bind fun s15=>au.l61 F cn bT bU co F H3.length 0 r10.2.length 0 s15 (s15.n:Int) 0 H14
noncomputable def au.tw (F:Nat) (aa:Sl) (ab:Int) (H:Hp):OA:=au.twX F (aC.tw F) (bh.tw F) (bi.tw F) (bq.tw F) aa ab H
noncomputable def au.code:Go.Code:=(Try.f125.body).getD .skip
noncomputable def au.lh61 (F:Nat) (cn:Sl→Int→Hp→OA) (bT:Int→Int→Int→Int→Int→Hp→OA) (bU:Int→Int→Int→Int→Int→Int→Hp→OA) (co:Sl→Int→Hp→OA) (ks:List Nat) (n:Nat) (tm:Tm) (H:Hp):OA:=match ks,tm 2,tm 5,tm 25,tm 26,tm 27 with
 | [],(.ptr ef fJ),(.ptr eY gp),(.sl gT),(.int .i64 eZ),(.int .i64 eg)=>au.l61 F cn bT bU co n ef fJ eY gp gT eZ eg H
 | _,_,_,_,_,_=>none
theorem au.lh61_inv {F:Nat} {cn:Sl→Int→Hp→OA} {bT:Int→Int→Int→Int→Int→Hp→OA} {bU:Int→Int→Int→Int→Int→Int→Hp→OA} {co:Sl→Int→Hp→OA} {ks:List Nat} {n:Nat} {tm:Tm} {H:Hp} {r:AV×Hp} (h:au.lh61 F cn bT bU co ks n tm H = some r):∃ ef:Nat,∃ fJ:Nat,∃ eY:Nat,∃ gp:Nat,∃ gT:Sl,∃ eZ:Int,∃ eg:Int,ks = []∧tm 2 = (.ptr ef fJ)∧tm 5 = (.ptr eY gp)∧tm 25 = (.sl gT)∧tm 26 = (.int .i64 eZ)∧tm 27 = (.int .i64 eg)∧au.l61 F cn bT bU co n ef fJ eY gp gT eZ eg H = some r:=by
 unfold au.lh61 at h
 split at h
 ·exact ⟨_,_,_,_,_,_,_,rfl,by assumption,by assumption,by assumption,by assumption,by assumption,h⟩
 ·cases h
noncomputable def au.lh3931 (F:Nat) (cn:Sl→Int→Hp→OA) (bT:Int→Int→Int→Int→Int→Hp→OA) (bU:Int→Int→Int→Int→Int→Int→Hp→OA) (co:Sl→Int→Hp→OA) (ks:List Nat) (n:Nat) (tm:Tm) (H:Hp):OA:=match ks,tm 2,tm 5,tm 6,tm 7,tm 25,tm 26,tm 27,tm 33,tm 34 with
 | [bj],(.ptr ci cr),(.ptr cA cO),(.int .i64 cP),(.ptr dp eO),(.sl gf),(.int .i64 dO),(.int .i64 ee),(.agg [(.int .i64 cQ),(.int .i64 cR),(.int .i64 cS),(.int .i64 cT)]),(.int .i64 cj)=>au.l3931 F cn bT bU co (au.l61 F cn bT bU co bj) n ci cr cA cO gf dO ee dp eO cP cQ cR cS cT cj H
 | _,_,_,_,_,_,_,_,_,_=>none
theorem au.lh3931_inv {F:Nat} {cn:Sl→Int→Hp→OA} {bT:Int→Int→Int→Int→Int→Hp→OA} {bU:Int→Int→Int→Int→Int→Int→Hp→OA} {co:Sl→Int→Hp→OA} {ks:List Nat} {n:Nat} {tm:Tm} {H:Hp} {r:AV×Hp} (h:au.lh3931 F cn bT bU co ks n tm H = some r):∃ bj:Nat,∃ ci:Nat,∃ cr:Nat,∃ cA:Nat,∃ cO:Nat,∃ cP:Int,∃ dp:Nat,∃ eO:Nat,∃ gf:Sl,∃ dO:Int,∃ ee:Int,∃ cQ:Int,∃ cR:Int,∃ cS:Int,∃ cT:Int,∃ cj:Int,ks = [bj]∧tm 2 = (.ptr ci cr)∧tm 5 = (.ptr cA cO)∧tm 6 = (.int .i64 cP)∧tm 7 = (.ptr dp eO)∧tm 25 = (.sl gf)∧tm 26 = (.int .i64 dO)∧tm 27 = (.int .i64 ee)∧tm 33 = (.agg [(.int .i64 cQ),(.int .i64 cR),(.int .i64 cS),(.int .i64 cT)])∧tm 34 = (.int .i64 cj)∧au.l3931 F cn bT bU co (au.l61 F cn bT bU co bj) n ci cr cA cO gf dO ee dp eO cP cQ cR cS cT cj H = some r:=by
 unfold au.lh3931 at h
 split at h
 ·exact ⟨_,_,_,_,_,_,_,_,_,_,_,_,_,_,_,_,rfl,by assumption,by assumption,by assumption,by assumption,by assumption,by assumption,by assumption,by assumption,by assumption,h⟩
 ·cases h
noncomputable def au.lh (F:Nat) (cn:Sl→Int→Hp→OA) (bT:Int→Int→Int→Int→Int→Hp→OA) (bU:Int→Int→Int→Int→Int→Int→Hp→OA) (co:Sl→Int→Hp→OA) (p:Nat) (ks:List Nat) (n:Nat) (tm:Tm) (H:Hp):OA:=bif p.beq 3931 then au.lh3931 F cn bT bU co ks n tm H else (bif p.beq 61 then au.lh61 F cn bT bU co ks n tm H else (none))
def au.pn:Nat→List Nat:=fun i=>(([]:List (Nat×List Nat)).lookup i).getD []
def au.tb:Nat→List (List Nat):=fun i=>(([]:List (Nat×List (List Nat))).lookup i).getD []
noncomputable def au.mk (g:Sl→Int→Hp→OA) (args:List AV) (H:Hp):OA:=match args with
 | [(.agg [(.sl aa),(.int .i64 ab)])]=>g aa ab H
 | _=>none
noncomputable def au.cs (F:Nat) (cn:Sl→Int→Hp→OA) (bT:Int→Int→Int→Int→Int→Hp→OA) (bU:Int→Int→Int→Int→Int→Int→Hp→OA) (co:Sl→Int→Hp→OA):List (FuncId×(List AV→Hp→OA)):=[(154,aC.mk cn),(155,bh.mk bT),(156,bi.mk bU),(157,bq.mk co)]
theorem au.loops (F:Nat) (cn:Sl→Int→Hp→OA) (bT:Int→Int→Int→Int→Int→Hp→OA) (bU:Int→Int→Int→Int→Int→Int→Hp→OA) (co:Sl→Int→Hp→OA):LoopsOk tabs (mkOrc (au.cs F cn bT bU co)) au.pn (au.lh F cn bT bU co) F [] 1 au.code (fun tm H=>aresults tabs.ty H tm Try.f125.results.toList fun v=>some (v,H)) (fun _ _ _=>none) (fun tm H=>aresults tabs.ty H tm Try.f125.results.toList fun v=>some (v,H)):=by
 refine LoopsOk.seq ?_ ?_
 ·exact loops_none (by kernel_rfl)
 ·refine LoopsOk.seq ?_ ?_
  ·exact loops_none (by kernel_rfl)
  ·refine LoopsOk.seq ?_ ?_
   ·exact loops_none (by kernel_rfl)
   ·refine LoopsOk.seq ?_ ?_
    ·refine LoopsOk.seq ?_ ?_
     ·exact loops_none (by kernel_rfl)
     ·refine LoopsOk.block ?_
      refine LoopsOk.loop (fun tm H=>?_) (fun k61 tm H r h0=>?_) (fun k61=>?_)
      ·refine none_of fun r h0=>?_
       obtain ⟨ef,fJ,eY,gp,gT,eZ,eg,hks,e2,e5,e25,e26,e27,h⟩:=au.lh61_inv (show au.lh61 F cn bT bU co [] 0 tm H = some r from h0)
       cases h
      ·obtain ⟨ef,fJ,eY,gp,gT,eZ,eg,hks,e2,e5,e25,e26,e27,h⟩:=au.lh61_inv (show au.lh61 F cn bT bU co [] (k61 + 1) tm H = some r from h0)
       have q0:(Tm.put tm 2 (.ptr ef fJ)) = tm:=by exact Tm.put_same e2
       have q1:(Tm.put (Tm.put tm 2 (.ptr ef fJ)) 5 (.ptr eY gp)) = tm:=by rw [q0]; exact Tm.put_same e5
       have q2:(Tm.put (Tm.put (Tm.put tm 2 (.ptr ef fJ)) 5 (.ptr eY gp)) 25 (.sl gT)) = tm:=by rw [q1]; exact Tm.put_same e25
       have q3:(Tm.put (Tm.put (Tm.put (Tm.put tm 2 (.ptr ef fJ)) 5 (.ptr eY gp)) 25 (.sl gT)) 26 (.int .i64 eZ)) = tm:=by rw [q2]; exact Tm.put_same e26
       have q4:(Tm.put (Tm.put (Tm.put (Tm.put (Tm.put tm 2 (.ptr ef fJ)) 5 (.ptr eY gp)) 25 (.sl gT)) 26 (.int .i64 eZ)) 27 (.int .i64 eg)) = tm:=by rw [q3]; exact Tm.put_same e27
       rw [← q4]
       exact Eq.trans (by kernel_rfl) h
      ·refine LoopsOk.seq ?_ ?_
       ·exact loops_none (by kernel_rfl)
       ·refine LoopsOk.seq ?_ ?_
        ·exact loops_none (by kernel_rfl)
        ·refine LoopsOk.seq ?_ ?_
         ·refine LoopsOk.block ?_
          refine LoopsOk.seq ?_ ?_
          ·exact loops_none (by kernel_rfl)
          ·refine LoopsOk.seq ?_ ?_
           ·exact loops_none (by kernel_rfl)
           ·refine LoopsOk.block ?_
            refine LoopsOk.loop (fun tm H=>?_) (fun k3931 tm H r h0=>?_) (fun k3931=>?_)
            ·refine none_of fun r h0=>?_
             obtain ⟨bj,ci,cr,cA,cO,cP,dp,eO,gf,dO,ee,cQ,cR,cS,cT,cj,hks,e2,e5,e6,e7,e25,e26,e27,e33,e34,h⟩:=au.lh3931_inv (show au.lh3931 F cn bT bU co [k61] 0 tm H = some r from h0)
             cases h
            ·obtain ⟨bj,ci,cr,cA,cO,cP,dp,eO,gf,dO,ee,cQ,cR,cS,cT,cj,hks,e2,e5,e6,e7,e25,e26,e27,e33,e34,h⟩:=au.lh3931_inv (show au.lh3931 F cn bT bU co [k61] (k3931 + 1) tm H = some r from h0)
             obtain rfl:bj = k61:=by simpa [eq_comm] using hks
             have q0:(Tm.put tm 2 (.ptr ci cr)) = tm:=by exact Tm.put_same e2
             have q1:(Tm.put (Tm.put tm 2 (.ptr ci cr)) 5 (.ptr cA cO)) = tm:=by rw [q0]; exact Tm.put_same e5
             have q2:(Tm.put (Tm.put (Tm.put tm 2 (.ptr ci cr)) 5 (.ptr cA cO)) 6 (.int .i64 cP)) = tm:=by rw [q1]; exact Tm.put_same e6
             have q3:(Tm.put (Tm.put (Tm.put (Tm.put tm 2 (.ptr ci cr)) 5 (.ptr cA cO)) 6 (.int .i64 cP)) 7 (.ptr dp eO)) = tm:=by rw [q2]; exact Tm.put_same e7
             have q4:(Tm.put (Tm.put (Tm.put (Tm.put (Tm.put tm 2 (.ptr ci cr)) 5 (.ptr cA cO)) 6 (.int .i64 cP)) 7 (.ptr dp eO)) 25 (.sl gf)) = tm:=by rw [q3]; exact Tm.put_same e25
             have q5:(Tm.put (Tm.put (Tm.put (Tm.put (Tm.put (Tm.put tm 2 (.ptr ci cr)) 5 (.ptr cA cO)) 6 (.int .i64 cP)) 7 (.ptr dp eO)) 25 (.sl gf)) 26 (.int .i64 dO)) = tm:=by rw [q4]; exact Tm.put_same e26
             have q6:(Tm.put (Tm.put (Tm.put (Tm.put (Tm.put (Tm.put (Tm.put tm 2 (.ptr ci cr)) 5 (.ptr cA cO)) 6 (.int .i64 cP)) 7 (.ptr dp eO)) 25 (.sl gf)) 26 (.int .i64 dO)) 27 (.int .i64 ee)) = tm:=by rw [q5]; exact Tm.put_same e27
             have q7:(Tm.put (Tm.put (Tm.put (Tm.put (Tm.put (Tm.put (Tm.put (Tm.put tm 2 (.ptr ci cr)) 5 (.ptr cA cO)) 6 (.int .i64 cP)) 7 (.ptr dp eO)) 25 (.sl gf)) 26 (.int .i64 dO)) 27 (.int .i64 ee)) 33 (.agg [(.int .i64 cQ),(.int .i64 cR),(.int .i64 cS),(.int .i64 cT)])) = tm:=by rw [q6]; exact Tm.put_same e33
             have q8:(Tm.put (Tm.put (Tm.put (Tm.put (Tm.put (Tm.put (Tm.put (Tm.put (Tm.put tm 2 (.ptr ci cr)) 5 (.ptr cA cO)) 6 (.int .i64 cP)) 7 (.ptr dp eO)) 25 (.sl gf)) 26 (.int .i64 dO)) 27 (.int .i64 ee)) 33 (.agg [(.int .i64 cQ),(.int .i64 cR),(.int .i64 cS),(.int .i64 cT)])) 34 (.int .i64 cj)) = tm:=by rw [q7]; exact Tm.put_same e34
             rw [← q8]
             exact Eq.trans (by kernel_rfl) h
            ·exact loops_none (by kernel_rfl)
         ·exact loops_none (by kernel_rfl)
    ·exact loops_none (by kernel_rfl)
theorem au.eqX (F:Nat) (cn:Sl→Int→Hp→OA) (bT:Int→Int→Int→Int→Int→Hp→OA) (bU:Int→Int→Int→Int→Int→Int→Hp→OA) (co:Sl→Int→Hp→OA) (aa:Sl) (ab:Int) (H:Hp):aCode tabs (mkOrc (au.cs F cn bT bU co)) au.pn (au.lh F cn bT bU co) F [] 1 au.code (argTm [(.agg [(.sl aa),(.int .i64 ab)])]) H (fun tm H=>aresults tabs.ty H tm Try.f125.results.toList fun v=>some (v,H)) (fun _ _ _=>none) (fun tm H=>aresults tabs.ty H tm Try.f125.results.toList fun v=>some (v,H)) = au.twX F cn bT bU co aa ab H:=by kernel_rfl
theorem au.cs_ok (F:Nat):∀ p ∈ au.cs F (aC.tw F) (bh.tw F) (bi.tw F) (bq.tw F),∀ args H v H',p.2 args H = some (v,H')→Go.AE.T Try.prog p.1 args H v H':=by
 intro p hp
 simp only [au.cs,List.mem_cons,List.not_mem_nil,or_false] at hp
 rcases hp with rfl | rfl | rfl | rfl
 ·exact fun args H v H' h=>aC.mk_T h
 ·exact fun args H v H' h=>bh.mk_T h
 ·exact fun args H v H' h=>bi.mk_T h
 ·exact fun args H v H' h=>bq.mk_T h
theorem au.ok:codeOk au.pn Try.f125.ntmps au.tb au.code = true:=by kernel_rfl
theorem au.T {F:Nat} {aa:Sl} {ab:Int} {H:Hp} {v:AV} {H':Hp} (h:au.tw F aa ab H = some (v,H')):Go.AE.T Try.prog 125 [(.agg [(.sl aa),(.int .i64 ab)])] H v H':=
 Go.AE.T.of (Y:=tabs) (C:=mkOrc (au.cs F (aC.tw F) (bh.tw F) (bi.tw F) (bq.tw F))) (PN:=au.pn) (LH:=au.lh F (aC.tw F) (bh.tw F) (bi.tw F) (bq.tw F)) (F:=F) (TB:=au.tb) (fn:=Try.f125) (code:=au.code) mixed tabs_ok (mkOrc_ok (au.cs_ok F)) Try.func125 (by kernel_rfl) (by kernel_rfl) au.ok (Nat.le_of_ble_eq_true (by kernel_rfl)) (au.loops F (aC.tw F) (bh.tw F) (bi.tw F) (bq.tw F)) (Eq.trans (au.eqX F (aC.tw F) (bh.tw F) (bi.tw F) (bq.tw F) aa ab H) h)
theorem au.mk_T {F:Nat} {args:List AV} {H:Hp} {v:AV} {H':Hp} (h:au.mk (au.tw F) args H = some (v,H')):Go.AE.T Try.prog 125 args H v H':=by
 unfold au.mk at h
 split at h
 ·exact au.T h
 ·cases h
noncomputable def bm.twX (F:Nat) (bT:Int→Int→Int→Int→Int→Hp→OA) (bU:Int→Int→Int→Int→Int→Int→Hp→OA) (aa:Sl) (ab:Int) (af:Sl) (ar:Sl) (bb:Int) (eh:Int) (H:Hp):OA:=(Hp.new H [(.sl aa),(.int .i64 ab)]).bind fun H7=>(Hp.new H7 [(.sl af),(.sl ar)]).bind fun H8=>(Hp.new H8 [(.int .i64 bb),(.int .i64 eh)]).bind fun H9=>(Hp.new H9 [.int .i64 0,.int .i64 0]).bind fun H10=>(Hp.ldSl H10 H.length 0).bind fun s11=>(Hp.ldI H10 .i64 H8.length 0).bind fun n12=>(Sl.idx s11 n12 5).bind fun p13=>(Hp.ldI H10 .i64 p13.1 p13.2).bind fun n14=>(Hp.ldI H10 .i64 p13.1 (p13.2 + 1)).bind fun n15=>(Hp.ldI H10 .i64 p13.1 (p13.2 + 2)).bind fun n16=>(Hp.ldI H10 .i64 p13.1 (p13.2 + 3)).bind fun n17=>(Hp.ldI H10 .i64 p13.1 (p13.2 + 4)).bind fun n18=>(Hp.new H10 [.int .i64 0,.int .i64 0,.int .i64 0,.int .i64 0,.int .i64 0]).bind fun H19=>(Hp.st H19 H10.length 0 (.int .i64 n14)).bind fun H20=>(Hp.st H20 H10.length (0 + 1) (.int .i64 n15)).bind fun H21=>(Hp.st H21 H10.length (0 + 1 + 1) (.int .i64 n16)).bind fun H22=>(Hp.st H22 H10.length (0 + 1 + 1 + 1) (.int .i64 n17)).bind fun H23=>(Hp.st H23 H10.length (0 + 1 + 1 + 1 + 1) (.int .i64 n18)).bind fun H24=>(Hp.ldI H24 .i64 H10.length 0).bind fun n25=>(Hp.ldI H24 .i64 H10.length (0 + 1)).bind fun n26=>(Hp.ldI H24 .i64 H10.length (0 + 2)).bind fun n27=>(Hp.ldI H24 .i64 H10.length (0 + 3)).bind fun n28=>(Hp.ldI H24 .i64 H10.length (0 + 4)).bind fun n29=>(bT n25 n26 n27 n28 n29 H24).bind fun r30=>((r30.1).asAgg 4).bind fun l31=>(l31[0]?).bind fun v32=>((v32).asI .i64).bind fun n33=>(l31[1]?).bind fun v34=>((v34).asI .i64).bind fun n35=>(l31[2]?).bind fun v36=>((v36).asI .i64).bind fun n37=>(l31[3]?).bind fun v38=>((v38).asI .i64).bind fun n39=>(if Cons H24 r30.2 then ((Hp.ldI r30.2 .i64 H8.length 1).bind fun n40=>(if 0 ≤ n40∧n40 < (4:Int) then (([(.int .i64 n33),(.int .i64 n35),(.int .i64 n37),(.int .i64 n39)]:List AV)[(n40:Int).toNat * 1]?).bind fun v41=>((v41).asI .i64).bind fun n42=>(Hp.ldI r30.2 .i64 H10.length 0).bind fun n43=>(Hp.ldI r30.2 .i64 H10.length (0 + 1)).bind fun n44=>(Hp.ldI r30.2 .i64 H10.length (0 + 2)).bind fun n45=>(Hp.ldI r30.2 .i64 H10.length (0 + 3)).bind fun n46=>(Hp.ldI r30.2 .i64 H10.length (0 + 4)).bind fun n47=>(Hp.ldI r30.2 .i64 H8.length 1).bind fun n48=>(bU n43 n44 n45 n46 n47 n48 r30.2).bind fun r49=>((r49.1).asB).bind fun b50=>(bif b50 then ((Hp.ldSl r49.2 H7.length 0).bind fun s51=>(Sl.idx s51 n42 2).bind fun p52=>(Hp.ldI r49.2 .i64 p52.1 p52.2).bind fun n53=>(Hp.ldI r49.2 .i64 p52.1 (p52.2 + 1)).bind fun n54=>(Hp.st r49.2 H9.length 0 (.int .i64 n53)).bind fun H55=>(Hp.st H55 H9.length (0 + 1) (.int .i64 n54)).bind fun H56=>(Hp.ldI H56 .i64 H9.length 0).bind fun n57=>(Hp.ldI H56 .i64 H9.length (0 + 1)).bind fun n58=>some ((.agg [(.int .i64 n57),(.int .i64 n58)]),H56)) else ((Hp.ldSl r49.2 H7.length 1).bind fun s59=>(Sl.idx s59 n42 2).bind fun p60=>(Hp.ldI r49.2 .i64 p60.1 p60.2).bind fun n61=>(Hp.ldI r49.2 .i64 p60.1 (p60.2 + 1)).bind fun n62=>(Hp.st r49.2 H9.length 0 (.int .i64 n61)).bind fun H63=>(Hp.st H63 H9.length (0 + 1) (.int .i64 n62)).bind fun H64=>(Hp.ldI H64 .i64 H9.length 0).bind fun n65=>(Hp.ldI H64 .i64 H9.length (0 + 1)).bind fun n66=>some ((.agg [(.int .i64 n65),(.int .i64 n66)]),H64))) else none)) else none)
noncomputable def bm.tw (F:Nat) (aa:Sl) (ab:Int) (af:Sl) (ar:Sl) (bb:Int) (eh:Int) (H:Hp):OA:=bm.twX F (bh.tw F) (bi.tw F) aa ab af ar bb eh H
noncomputable def bm.code:Go.Code:=(Try.f139.body).getD .skip
noncomputable def bm.lh (F:Nat) (bT:Int→Int→Int→Int→Int→Hp→OA) (bU:Int→Int→Int→Int→Int→Int→Hp→OA) (p:Nat) (ks:List Nat) (n:Nat) (tm:Tm) (H:Hp):OA:=none
def bm.pn:Nat→List Nat:=fun i=>(([(2,[])]:List (Nat×List Nat)).lookup i).getD []
def bm.tb:Nat→List (List Nat):=fun i=>(([(2,[[],[0],[],[2],[0,1,2,3],[0,1,2,3,4]])]:List (Nat×List (List Nat))).lookup i).getD []
noncomputable def bm.mk (g:Sl→Int→Sl→Sl→Int→Int→Hp→OA) (args:List AV) (H:Hp):OA:=match args with
 | [(.agg [(.sl aa),(.int .i64 ab)]),(.agg [(.sl af),(.sl ar)]),(.agg [(.int .i64 bb),(.int .i64 eh)])]=>g aa ab af ar bb eh H
 | _=>none
noncomputable def bm.cs (F:Nat) (bT:Int→Int→Int→Int→Int→Hp→OA) (bU:Int→Int→Int→Int→Int→Int→Hp→OA):List (FuncId×(List AV→Hp→OA)):=[(155,bh.mk bT),(156,bi.mk bU)]
theorem bm.loops (F:Nat) (bT:Int→Int→Int→Int→Int→Hp→OA) (bU:Int→Int→Int→Int→Int→Int→Hp→OA):LoopsOk tabs (mkOrc (bm.cs F bT bU)) bm.pn (bm.lh F bT bU) F [] 1 bm.code (fun tm H=>aresults tabs.ty H tm Try.f139.results.toList fun v=>some (v,H)) (fun _ _ _=>none) (fun tm H=>aresults tabs.ty H tm Try.f139.results.toList fun v=>some (v,H)):=by
 exact loops_none (by kernel_rfl)
theorem bm.eqX (F:Nat) (bT:Int→Int→Int→Int→Int→Hp→OA) (bU:Int→Int→Int→Int→Int→Int→Hp→OA) (aa:Sl) (ab:Int) (af:Sl) (ar:Sl) (bb:Int) (eh:Int) (H:Hp):aCode tabs (mkOrc (bm.cs F bT bU)) bm.pn (bm.lh F bT bU) F [] 1 bm.code (argTm [(.agg [(.sl aa),(.int .i64 ab)]),(.agg [(.sl af),(.sl ar)]),(.agg [(.int .i64 bb),(.int .i64 eh)])]) H (fun tm H=>aresults tabs.ty H tm Try.f139.results.toList fun v=>some (v,H)) (fun _ _ _=>none) (fun tm H=>aresults tabs.ty H tm Try.f139.results.toList fun v=>some (v,H)) = bm.twX F bT bU aa ab af ar bb eh H:=by kernel_rfl
theorem bm.cs_ok (F:Nat):∀ p ∈ bm.cs F (bh.tw F) (bi.tw F),∀ args H v H',p.2 args H = some (v,H')→Go.AE.T Try.prog p.1 args H v H':=by
 intro p hp
 simp only [bm.cs,List.mem_cons,List.not_mem_nil,or_false] at hp
 rcases hp with rfl | rfl
 ·exact fun args H v H' h=>bh.mk_T h
 ·exact fun args H v H' h=>bi.mk_T h
theorem bm.ok:codeOk bm.pn Try.f139.ntmps bm.tb bm.code = true:=by kernel_rfl
theorem bm.T {F:Nat} {aa:Sl} {ab:Int} {af:Sl} {ar:Sl} {bb:Int} {eh:Int} {H:Hp} {v:AV} {H':Hp} (h:bm.tw F aa ab af ar bb eh H = some (v,H')):Go.AE.T Try.prog 139 [(.agg [(.sl aa),(.int .i64 ab)]),(.agg [(.sl af),(.sl ar)]),(.agg [(.int .i64 bb),(.int .i64 eh)])] H v H':=
 Go.AE.T.of (Y:=tabs) (C:=mkOrc (bm.cs F (bh.tw F) (bi.tw F))) (PN:=bm.pn) (LH:=bm.lh F (bh.tw F) (bi.tw F)) (F:=F) (TB:=bm.tb) (fn:=Try.f139) (code:=bm.code) mixed tabs_ok (mkOrc_ok (bm.cs_ok F)) Try.func139 (by kernel_rfl) (by kernel_rfl) bm.ok (Nat.le_of_ble_eq_true (by kernel_rfl)) (bm.loops F (bh.tw F) (bi.tw F)) (Eq.trans (bm.eqX F (bh.tw F) (bi.tw F) aa ab af ar bb eh H) h)
theorem bm.mk_T {F:Nat} {args:List AV} {H:Hp} {v:AV} {H':Hp} (h:bm.mk (bm.tw F) args H = some (v,H')):Go.AE.T Try.prog 139 args H v H':=by
 unfold bm.mk at h
 split at h
 ·exact bm.T h
 ·cases h
noncomputable def ak.j4 (F:Nat) (cf:Sl→Int→Sl→Sl→Int→Int→Hp→OA) (C61_:Nat→Nat→Nat→Nat→Sl→Sl→Int→Int→Hp→OA) (pu:Nat) (Cc:Nat) (pv:Nat) (Cd:Nat) (Ce:Sl) (Cf:Sl) (lH:Int) (lI:Int) (H248:Hp):OA:=C61_ pu Cc pv Cd Ce Cf lH (IntKind.i64.wrap (lI + 1)) H248
noncomputable def ak.j5 (F:Nat) (cf:Sl→Int→Sl→Sl→Int→Int→Hp→OA) (C61_:Nat→Nat→Nat→Nat→Sl→Sl→Int→Int→Hp→OA) (pw:Nat) (Cg:Nat) (kX:Nat) (Ch:Nat) (jv:Sl) (Ci:Sl) (lJ:Int) (lK:Int) (H228:Hp):OA:=ak.j4 F cf C61_ pw Cg kX Ch jv Ci lJ lK H228
noncomputable def ak.j6 (F:Nat) (cf:Sl→Int→Sl→Sl→Int→Int→Hp→OA) (C61_:Nat→Nat→Nat→Nat→Sl→Sl→Int→Int→Hp→OA) (md:Nat) (wc:Nat) (mf:Nat) (wd:Nat) (wg:Sl) (wh:Sl) (wi:Sl) (jx:Int) (jy:Int) (H205:Hp):OA:=(bif (decide ((wi.n:Int) > 0)) then ((Hp.new H205 [(.sl wi)]).bind fun H206=>(Sl.row H206 (⟨some (H205.length,0),1,.ex 1⟩:Sl) 1).bind fun xs208=>(Hp.app H206 1 24 wg (⟨some (H205.length,0),1,.ex 1⟩:Sl).n xs208).bind fun a207=>ak.j5 F cf C61_ md wc mf wd a207.1 wh jx jy a207.2) else (ak.j5 F cf C61_ md wc mf wd wg wh jx jy H205))
noncomputable def ak.l15725 (F:Nat) (cf:Sl→Int→Sl→Sl→Int→Int→Hp→OA) (C61_:Nat→Nat→Nat→Nat→Sl→Sl→Int→Int→Hp→OA):Nat→Nat→Nat→Nat→Nat→Sl→Sl→Int→Int→Sl→Int→Hp→OA
 | 0,_,_,_,_,_,_,_,_,_,_,_=>none
 | Cj + 1,dD,e_,dP,fz,gg,fT,fa,fA,gF,cU,H164=>(Sl.idx fT cU 1).bind fun p249=>(Hp.ldB H164 p249.1 p249.2).bind fun b250=>(bif (!b250) then ((Sl.idx fT cU 1).bind fun p251=>(Hp.st H164 p251.1 p251.2 (.bool true)).bind fun H252=>(Hp.new H252 [(.int .i64 cU)]).bind fun H253=>(Sl.row H253 (⟨some (H252.length,0),1,.ex 1⟩:Sl) 1).bind fun xs255=>(Hp.app H253 1 8 gF (⟨some (H252.length,0),1,.ex 1⟩:Sl).n xs255).bind fun a254=>(Hp.ldSl a254.2 dD e_).bind fun s256=>(Hp.ldI a254.2 .i64 dD (e_ + 1)).bind fun n257=>(Hp.ldSl a254.2 dP fz).bind fun s258=>(Hp.ldSl a254.2 dP (fz + 1)).bind fun s259=>(cf s256 n257 s258 s259 (IntKind.i64.wrap (Int.tdiv cU 4)) (Int.tmod (IntKind.i64.wrap (cU + 1)) 4) a254.2).bind fun r260=>((r260.1).asAgg 2).bind fun l261=>(l261[0]?).bind fun v262=>((v262).asI .i64).bind fun n263=>(l261[1]?).bind fun v264=>((v264).asI .i64).bind fun n265=>(Hp.new r260.2 [.int .i64 0,.int .i64 0]).bind fun H266=>(Hp.st H266 r260.2.length 0 (.int .i64 n263)).bind fun H267=>(Hp.st H267 r260.2.length (0 + 1) (.int .i64 n265)).bind fun H268=>(Hp.ldI H268 .i64 r260.2.length 0).bind fun n269=>(Hp.ldI H268 .i64 r260.2.length 1).bind fun n270=>ak.l15725 F cf C61_ Cj dD e_ dP fz gg fT fa fA a254.1 (IntKind.i64.wrap ((IntKind.i64.wrap (4 * n269)) + n270)) H268) else (ak.j6 F cf C61_ dD e_ dP fz gg fT gF fa fA H164))
termination_by structural n=>n
noncomputable def ak.l61 (F:Nat) (cf:Sl→Int→Sl→Sl→Int→Int→Hp→OA) :Nat→Nat→Nat→Nat→Nat→Sl→Sl→Int→Int→Hp→OA
 | 0,_,_,_,_,_,_,_,_,_=>none
 | bj + 1,fb,gq,fB,cH,gG,hQ,fc,eP,H22=>(bif (decide (eP < fc)) then (ak.l15725 F cf (ak.l61 F cf bj) F fb gq fB cH gG hQ fc eP (⟨none,0,.ex 0⟩:Sl) eP H22) else (some ((.sl gG),H22)))
termination_by structural n=>n
noncomputable def ak.twX (F:Nat) (cf:Sl→Int→Sl→Sl→Int→Int→Hp→OA) (aa:Sl) (ab:Int) (af:Sl) (ar:Sl) (H:Hp):OA:=(Hp.new H [(.sl aa),(.int .i64 ab)]).bind fun H5=>(Hp.new H5 [(.sl af),(.sl ar)]).bind fun H6=>(Hp.ldSl H6 H.length 0).bind fun s7=>(Hp.mk H6 [.bool false] 1 (IntKind.i64.wrap (4 * (s7.n:Int))) (IntKind.i64.wrap (4 * (s7.n:Int)))).bind fun m8=>ak.l61 F cf F H.length 0 H5.length 0 (⟨none,0,.ex 0⟩:Sl) m8.1 (m8.1.n:Int) 0 m8.2
noncomputable def ak.tw (F:Nat) (aa:Sl) (ab:Int) (af:Sl) (ar:Sl) (H:Hp):OA:=ak.twX F (bm.tw F) aa ab af ar H
noncomputable def ak.code:Go.Code:=(Try.f103.body).getD .skip
noncomputable def ak.lh61 (F:Nat) (cf:Sl→Int→Sl→Sl→Int→Int→Hp→OA) (ks:List Nat) (n:Nat) (tm:Tm) (H:Hp):OA:=match ks,tm 2,tm 3,tm 5,tm 6,tm 17,tm 18 with
 | [],(.ptr fb gq),(.ptr fB cH),(.sl gG),(.sl hQ),(.int .i64 fc),(.int .i64 eP)=>ak.l61 F cf n fb gq fB cH gG hQ fc eP H
 | _,_,_,_,_,_,_=>none
theorem ak.lh61_inv {F:Nat} {cf:Sl→Int→Sl→Sl→Int→Int→Hp→OA} {ks:List Nat} {n:Nat} {tm:Tm} {H:Hp} {r:AV×Hp} (h:ak.lh61 F cf ks n tm H = some r):∃ fb:Nat,∃ gq:Nat,∃ fB:Nat,∃ cH:Nat,∃ gG:Sl,∃ hQ:Sl,∃ fc:Int,∃ eP:Int,ks = []∧tm 2 = (.ptr fb gq)∧tm 3 = (.ptr fB cH)∧tm 5 = (.sl gG)∧tm 6 = (.sl hQ)∧tm 17 = (.int .i64 fc)∧tm 18 = (.int .i64 eP)∧ak.l61 F cf n fb gq fB cH gG hQ fc eP H = some r:=by
 unfold ak.lh61 at h
 split at h
 ·exact ⟨_,_,_,_,_,_,_,_,rfl,by assumption,by assumption,by assumption,by assumption,by assumption,by assumption,h⟩
 ·cases h
noncomputable def ak.lh15725 (F:Nat) (cf:Sl→Int→Sl→Sl→Int→Int→Hp→OA) (ks:List Nat) (n:Nat) (tm:Tm) (H:Hp):OA:=match ks,tm 2,tm 3,tm 5,tm 6,tm 8,tm 9,tm 17,tm 18 with
 | [bj],(.ptr dD e_),(.ptr dP fz),(.sl gg),(.sl fT),(.sl gF),(.int .i64 cU),(.int .i64 fa),(.int .i64 fA)=>ak.l15725 F cf (ak.l61 F cf bj) n dD e_ dP fz gg fT fa fA gF cU H
 | _,_,_,_,_,_,_,_,_=>none
theorem ak.lh15725_inv {F:Nat} {cf:Sl→Int→Sl→Sl→Int→Int→Hp→OA} {ks:List Nat} {n:Nat} {tm:Tm} {H:Hp} {r:AV×Hp} (h:ak.lh15725 F cf ks n tm H = some r):∃ bj:Nat,∃ dD:Nat,∃ e_:Nat,∃ dP:Nat,∃ fz:Nat,∃ gg:Sl,∃ fT:Sl,∃ gF:Sl,∃ cU:Int,∃ fa:Int,∃ fA:Int,ks = [bj]∧tm 2 = (.ptr dD e_)∧tm 3 = (.ptr dP fz)∧tm 5 = (.sl gg)∧tm 6 = (.sl fT)∧tm 8 = (.sl gF)∧tm 9 = (.int .i64 cU)∧tm 17 = (.int .i64 fa)∧tm 18 = (.int .i64 fA)∧ak.l15725 F cf (ak.l61 F cf bj) n dD e_ dP fz gg fT fa fA gF cU H = some r:=by
 unfold ak.lh15725 at h
 split at h
 ·exact ⟨_,_,_,_,_,_,_,_,_,_,_,rfl,by assumption,by assumption,by assumption,by assumption,by assumption,by assumption,by assumption,by assumption,h⟩
 ·cases h
noncomputable def ak.lh (F:Nat) (cf:Sl→Int→Sl→Sl→Int→Int→Hp→OA) (p:Nat) (ks:List Nat) (n:Nat) (tm:Tm) (H:Hp):OA:=bif p.beq 15725 then ak.lh15725 F cf ks n tm H else (bif p.beq 61 then ak.lh61 F cf ks n tm H else (none))
def ak.pn:Nat→List Nat:=fun i=>(([]:List (Nat×List Nat)).lookup i).getD []
def ak.tb:Nat→List (List Nat):=fun i=>(([]:List (Nat×List (List Nat))).lookup i).getD []
noncomputable def ak.mk (g:Sl→Int→Sl→Sl→Hp→OA) (args:List AV) (H:Hp):OA:=match args with
 | [(.agg [(.sl aa),(.int .i64 ab)]),(.agg [(.sl af),(.sl ar)])]=>g aa ab af ar H
 | _=>none
noncomputable def ak.cs (F:Nat) (cf:Sl→Int→Sl→Sl→Int→Int→Hp→OA):List (FuncId×(List AV→Hp→OA)):=[(139,bm.mk cf)]
theorem ak.loops (F:Nat) (cf:Sl→Int→Sl→Sl→Int→Int→Hp→OA):LoopsOk tabs (mkOrc (ak.cs F cf)) ak.pn (ak.lh F cf) F [] 1 ak.code (fun tm H=>aresults tabs.ty H tm Try.f103.results.toList fun v=>some (v,H)) (fun _ _ _=>none) (fun tm H=>aresults tabs.ty H tm Try.f103.results.toList fun v=>some (v,H)):=by
 refine LoopsOk.seq ?_ ?_
 ·exact loops_none (by kernel_rfl)
 ·refine LoopsOk.seq ?_ ?_
  ·exact loops_none (by kernel_rfl)
  ·refine LoopsOk.seq ?_ ?_
   ·exact loops_none (by kernel_rfl)
   ·refine LoopsOk.seq ?_ ?_
    ·refine LoopsOk.seq ?_ ?_
     ·exact loops_none (by kernel_rfl)
     ·refine LoopsOk.block ?_
      refine LoopsOk.loop (fun tm H=>?_) (fun k61 tm H r h0=>?_) (fun k61=>?_)
      ·refine none_of fun r h0=>?_
       obtain ⟨fb,gq,fB,cH,gG,hQ,fc,eP,hks,e2,e3,e5,e6,e17,e18,h⟩:=ak.lh61_inv (show ak.lh61 F cf [] 0 tm H = some r from h0)
       cases h
      ·obtain ⟨fb,gq,fB,cH,gG,hQ,fc,eP,hks,e2,e3,e5,e6,e17,e18,h⟩:=ak.lh61_inv (show ak.lh61 F cf [] (k61 + 1) tm H = some r from h0)
       have q0:(Tm.put tm 2 (.ptr fb gq)) = tm:=by exact Tm.put_same e2
       have q1:(Tm.put (Tm.put tm 2 (.ptr fb gq)) 3 (.ptr fB cH)) = tm:=by rw [q0]; exact Tm.put_same e3
       have q2:(Tm.put (Tm.put (Tm.put tm 2 (.ptr fb gq)) 3 (.ptr fB cH)) 5 (.sl gG)) = tm:=by rw [q1]; exact Tm.put_same e5
       have q3:(Tm.put (Tm.put (Tm.put (Tm.put tm 2 (.ptr fb gq)) 3 (.ptr fB cH)) 5 (.sl gG)) 6 (.sl hQ)) = tm:=by rw [q2]; exact Tm.put_same e6
       have q4:(Tm.put (Tm.put (Tm.put (Tm.put (Tm.put tm 2 (.ptr fb gq)) 3 (.ptr fB cH)) 5 (.sl gG)) 6 (.sl hQ)) 17 (.int .i64 fc)) = tm:=by rw [q3]; exact Tm.put_same e17
       have q5:(Tm.put (Tm.put (Tm.put (Tm.put (Tm.put (Tm.put tm 2 (.ptr fb gq)) 3 (.ptr fB cH)) 5 (.sl gG)) 6 (.sl hQ)) 17 (.int .i64 fc)) 18 (.int .i64 eP)) = tm:=by rw [q4]; exact Tm.put_same e18
       rw [← q5]
       exact Eq.trans (by kernel_rfl) h
      ·refine LoopsOk.seq ?_ ?_
       ·exact loops_none (by kernel_rfl)
       ·refine LoopsOk.seq ?_ ?_
        ·exact loops_none (by kernel_rfl)
        ·refine LoopsOk.seq ?_ ?_
         ·refine LoopsOk.block ?_
          refine LoopsOk.seq ?_ ?_
          ·exact loops_none (by kernel_rfl)
          ·refine LoopsOk.seq ?_ ?_
           ·exact loops_none (by kernel_rfl)
           ·refine LoopsOk.seq ?_ ?_
            ·refine LoopsOk.seq ?_ ?_
             ·exact loops_none (by kernel_rfl)
             ·refine LoopsOk.block ?_
              refine LoopsOk.loop (fun tm H=>?_) (fun k15725 tm H r h0=>?_) (fun k15725=>?_)
              ·refine none_of fun r h0=>?_
               obtain ⟨bj,dD,e_,dP,fz,gg,fT,gF,cU,fa,fA,hks,e2,e3,e5,e6,e8,e9,e17,e18,h⟩:=ak.lh15725_inv (show ak.lh15725 F cf [k61] 0 tm H = some r from h0)
               cases h
              ·obtain ⟨bj,dD,e_,dP,fz,gg,fT,gF,cU,fa,fA,hks,e2,e3,e5,e6,e8,e9,e17,e18,h⟩:=ak.lh15725_inv (show ak.lh15725 F cf [k61] (k15725 + 1) tm H = some r from h0)
               obtain rfl:bj = k61:=by simpa [eq_comm] using hks
               have q0:(Tm.put tm 2 (.ptr dD e_)) = tm:=by exact Tm.put_same e2
               have q1:(Tm.put (Tm.put tm 2 (.ptr dD e_)) 3 (.ptr dP fz)) = tm:=by rw [q0]; exact Tm.put_same e3
               have q2:(Tm.put (Tm.put (Tm.put tm 2 (.ptr dD e_)) 3 (.ptr dP fz)) 5 (.sl gg)) = tm:=by rw [q1]; exact Tm.put_same e5
               have q3:(Tm.put (Tm.put (Tm.put (Tm.put tm 2 (.ptr dD e_)) 3 (.ptr dP fz)) 5 (.sl gg)) 6 (.sl fT)) = tm:=by rw [q2]; exact Tm.put_same e6
               have q4:(Tm.put (Tm.put (Tm.put (Tm.put (Tm.put tm 2 (.ptr dD e_)) 3 (.ptr dP fz)) 5 (.sl gg)) 6 (.sl fT)) 8 (.sl gF)) = tm:=by rw [q3]; exact Tm.put_same e8
               have q5:(Tm.put (Tm.put (Tm.put (Tm.put (Tm.put (Tm.put tm 2 (.ptr dD e_)) 3 (.ptr dP fz)) 5 (.sl gg)) 6 (.sl fT)) 8 (.sl gF)) 9 (.int .i64 cU)) = tm:=by rw [q4]; exact Tm.put_same e9
               have q6:(Tm.put (Tm.put (Tm.put (Tm.put (Tm.put (Tm.put (Tm.put tm 2 (.ptr dD e_)) 3 (.ptr dP fz)) 5 (.sl gg)) 6 (.sl fT)) 8 (.sl gF)) 9 (.int .i64 cU)) 17 (.int .i64 fa)) = tm:=by rw [q5]; exact Tm.put_same e17
               have q7:(Tm.put (Tm.put (Tm.put (Tm.put (Tm.put (Tm.put (Tm.put (Tm.put tm 2 (.ptr dD e_)) 3 (.ptr dP fz)) 5 (.sl gg)) 6 (.sl fT)) 8 (.sl gF)) 9 (.int .i64 cU)) 17 (.int .i64 fa)) 18 (.int .i64 fA)) = tm:=by rw [q6]; exact Tm.put_same e18
               rw [← q7]
               exact Eq.trans (by kernel_rfl) h
              ·exact loops_none (by kernel_rfl)
            ·exact loops_none (by kernel_rfl)
         ·exact loops_none (by kernel_rfl)
    ·exact loops_none (by kernel_rfl)
theorem ak.eqX (F:Nat) (cf:Sl→Int→Sl→Sl→Int→Int→Hp→OA) (aa:Sl) (ab:Int) (af:Sl) (ar:Sl) (H:Hp):aCode tabs (mkOrc (ak.cs F cf)) ak.pn (ak.lh F cf) F [] 1 ak.code (argTm [(.agg [(.sl aa),(.int .i64 ab)]),(.agg [(.sl af),(.sl ar)])]) H (fun tm H=>aresults tabs.ty H tm Try.f103.results.toList fun v=>some (v,H)) (fun _ _ _=>none) (fun tm H=>aresults tabs.ty H tm Try.f103.results.toList fun v=>some (v,H)) = ak.twX F cf aa ab af ar H:=by kernel_rfl
theorem ak.cs_ok (F:Nat):∀ p ∈ ak.cs F (bm.tw F),∀ args H v H',p.2 args H = some (v,H')→Go.AE.T Try.prog p.1 args H v H':=by
 intro p hp
 simp only [ak.cs,List.mem_cons,List.not_mem_nil,or_false] at hp
 subst hp
 exact fun args H v H' h=>bm.mk_T h
theorem ak.ok:codeOk ak.pn Try.f103.ntmps ak.tb ak.code = true:=by kernel_rfl
theorem ak.T {F:Nat} {aa:Sl} {ab:Int} {af:Sl} {ar:Sl} {H:Hp} {v:AV} {H':Hp} (h:ak.tw F aa ab af ar H = some (v,H')):Go.AE.T Try.prog 103 [(.agg [(.sl aa),(.int .i64 ab)]),(.agg [(.sl af),(.sl ar)])] H v H':=
 Go.AE.T.of (Y:=tabs) (C:=mkOrc (ak.cs F (bm.tw F))) (PN:=ak.pn) (LH:=ak.lh F (bm.tw F)) (F:=F) (TB:=ak.tb) (fn:=Try.f103) (code:=ak.code) mixed tabs_ok (mkOrc_ok (ak.cs_ok F)) Try.func103 (by kernel_rfl) (by kernel_rfl) ak.ok (Nat.le_of_ble_eq_true (by kernel_rfl)) (ak.loops F (bm.tw F)) (Eq.trans (ak.eqX F (bm.tw F) aa ab af ar H) h)
theorem ak.mk_T {F:Nat} {args:List AV} {H:Hp} {v:AV} {H':Hp} (h:ak.mk (ak.tw F) args H = some (v,H')):Go.AE.T Try.prog 103 args H v H':=by
 unfold ak.mk at h
 split at h
 ·exact ak.T h
 ·cases h
noncomputable def bL.twX (F:Nat) (aa:Sl) (H:Hp):OA:=some ((.int .i64 (aa.n:Int)),H)
noncomputable def bL.tw (F:Nat) (aa:Sl) (H:Hp):OA:=bL.twX F aa H
noncomputable def bL.code:Go.Code:=(Try.f89.body).getD .skip
noncomputable def bL.lh (F:Nat) (p:Nat) (ks:List Nat) (n:Nat) (tm:Tm) (H:Hp):OA:=none
def bL.pn:Nat→List Nat:=fun i=>(([]:List (Nat×List Nat)).lookup i).getD []
def bL.tb:Nat→List (List Nat):=fun i=>(([]:List (Nat×List (List Nat))).lookup i).getD []
noncomputable def bL.mk (g:Sl→Hp→OA) (args:List AV) (H:Hp):OA:=match args with
 | [(.sl aa)]=>g aa H
 | _=>none
noncomputable def bL.cs (F:Nat):List (FuncId×(List AV→Hp→OA)):=[]
theorem bL.loops (F:Nat):LoopsOk tabs (mkOrc (bL.cs F)) bL.pn (bL.lh F) F [] 1 bL.code (fun tm H=>aresults tabs.ty H tm Try.f89.results.toList fun v=>some (v,H)) (fun _ _ _=>none) (fun tm H=>aresults tabs.ty H tm Try.f89.results.toList fun v=>some (v,H)):=by
 exact loops_none (by kernel_rfl)
theorem bL.eqX (F:Nat) (aa:Sl) (H:Hp):aCode tabs (mkOrc (bL.cs F)) bL.pn (bL.lh F) F [] 1 bL.code (argTm [(.sl aa)]) H (fun tm H=>aresults tabs.ty H tm Try.f89.results.toList fun v=>some (v,H)) (fun _ _ _=>none) (fun tm H=>aresults tabs.ty H tm Try.f89.results.toList fun v=>some (v,H)) = bL.twX F aa H:=by kernel_rfl
theorem bL.cs_ok (F:Nat):∀ p ∈ bL.cs F,∀ args H v H',p.2 args H = some (v,H')→Go.AE.T Try.prog p.1 args H v H':=by
 intro p hp
 exact absurd (show p ∈ [] from hp) List.not_mem_nil
theorem bL.ok:codeOk bL.pn Try.f89.ntmps bL.tb bL.code = true:=by kernel_rfl
theorem bL.T {F:Nat} {aa:Sl} {H:Hp} {v:AV} {H':Hp} (h:bL.tw F aa H = some (v,H')):Go.AE.T Try.prog 89 [(.sl aa)] H v H':=
 Go.AE.T.of (Y:=tabs) (C:=mkOrc (bL.cs F)) (PN:=bL.pn) (LH:=bL.lh F) (F:=F) (TB:=bL.tb) (fn:=Try.f89) (code:=bL.code) mixed tabs_ok (mkOrc_ok (bL.cs_ok F)) Try.func89 (by kernel_rfl) (by kernel_rfl) bL.ok (Nat.le_of_ble_eq_true (by kernel_rfl)) (bL.loops F) (Eq.trans (bL.eqX F aa H) h)
theorem bL.mk_T {F:Nat} {args:List AV} {H:Hp} {v:AV} {H':Hp} (h:bL.mk (bL.tw F) args H = some (v,H')):Go.AE.T Try.prog 89 args H v H':=by
 unfold bL.mk at h
 split at h
 ·exact bL.T h
 ·cases h
noncomputable def aE.l29 (F:Nat) :Nat→Sl→Int→Int→Hp→OA
 | 0,_,_,_,_=>none
 | cZ + 1,gU,fd,ei,H7=>(bif (decide (ei < fd)) then ((Hp.new H7 [(.int .i64 ei)]).bind fun H11=>(Sl.row H11 (⟨some (H7.length,0),1,.ex 1⟩:Sl) 1).bind fun xs13=>(Hp.app H11 1 8 gU (⟨some (H7.length,0),1,.ex 1⟩:Sl).n xs13).bind fun a12=>aE.l29 F cZ a12.1 fd (IntKind.i64.wrap (ei + 1)) a12.2) else (some ((.sl gU),H7)))
termination_by structural n=>n
noncomputable def aE.twX (F:Nat) (aa:Int) (H:Hp):OA:=aE.l29 F F (⟨none,0,.ex 0⟩:Sl) aa 0 H
noncomputable def aE.tw (F:Nat) (aa:Int) (H:Hp):OA:=aE.twX F aa H
noncomputable def aE.code:Go.Code:=(Try.f116.body).getD .skip
noncomputable def aE.lh29 (F:Nat) (ks:List Nat) (n:Nat) (tm:Tm) (H:Hp):OA:=match ks,tm 3,tm 5,tm 6 with
 | [],(.sl gU),(.int .i64 fd),(.int .i64 ei)=>aE.l29 F n gU fd ei H
 | _,_,_,_=>none
theorem aE.lh29_inv {F:Nat} {ks:List Nat} {n:Nat} {tm:Tm} {H:Hp} {r:AV×Hp} (h:aE.lh29 F ks n tm H = some r):∃ gU:Sl,∃ fd:Int,∃ ei:Int,ks = []∧tm 3 = (.sl gU)∧tm 5 = (.int .i64 fd)∧tm 6 = (.int .i64 ei)∧aE.l29 F n gU fd ei H = some r:=by
 unfold aE.lh29 at h
 split at h
 ·exact ⟨_,_,_,rfl,by assumption,by assumption,by assumption,h⟩
 ·cases h
noncomputable def aE.lh (F:Nat) (p:Nat) (ks:List Nat) (n:Nat) (tm:Tm) (H:Hp):OA:=bif p.beq 29 then aE.lh29 F ks n tm H else (none)
def aE.pn:Nat→List Nat:=fun i=>(([]:List (Nat×List Nat)).lookup i).getD []
def aE.tb:Nat→List (List Nat):=fun i=>(([]:List (Nat×List (List Nat))).lookup i).getD []
noncomputable def aE.mk (g:Int→Hp→OA) (args:List AV) (H:Hp):OA:=match args with
 | [(.int .i64 aa)]=>g aa H
 | _=>none
noncomputable def aE.cs (F:Nat):List (FuncId×(List AV→Hp→OA)):=[]
theorem aE.loops (F:Nat):LoopsOk tabs (mkOrc (aE.cs F)) aE.pn (aE.lh F) F [] 1 aE.code (fun tm H=>aresults tabs.ty H tm Try.f116.results.toList fun v=>some (v,H)) (fun _ _ _=>none) (fun tm H=>aresults tabs.ty H tm Try.f116.results.toList fun v=>some (v,H)):=by
 refine LoopsOk.seq ?_ ?_
 ·exact loops_none (by kernel_rfl)
 ·refine LoopsOk.seq ?_ ?_
  ·exact loops_none (by kernel_rfl)
  ·refine LoopsOk.seq ?_ ?_
   ·refine LoopsOk.seq ?_ ?_
    ·exact loops_none (by kernel_rfl)
    ·refine LoopsOk.block ?_
     refine LoopsOk.loop (fun tm H=>?_) (fun k29 tm H r h0=>?_) (fun k29=>?_)
     ·refine none_of fun r h0=>?_
      obtain ⟨gU,fd,ei,hks,e3,e5,e6,h⟩:=aE.lh29_inv (show aE.lh29 F [] 0 tm H = some r from h0)
      cases h
     ·obtain ⟨gU,fd,ei,hks,e3,e5,e6,h⟩:=aE.lh29_inv (show aE.lh29 F [] (k29 + 1) tm H = some r from h0)
      have q0:(Tm.put tm 3 (.sl gU)) = tm:=by exact Tm.put_same e3
      have q1:(Tm.put (Tm.put tm 3 (.sl gU)) 5 (.int .i64 fd)) = tm:=by rw [q0]; exact Tm.put_same e5
      have q2:(Tm.put (Tm.put (Tm.put tm 3 (.sl gU)) 5 (.int .i64 fd)) 6 (.int .i64 ei)) = tm:=by rw [q1]; exact Tm.put_same e6
      rw [← q2]
      exact Eq.trans (by kernel_rfl) h
     ·exact loops_none (by kernel_rfl)
   ·exact loops_none (by kernel_rfl)
theorem aE.eqX (F:Nat) (aa:Int) (H:Hp):aCode tabs (mkOrc (aE.cs F)) aE.pn (aE.lh F) F [] 1 aE.code (argTm [(.int .i64 aa)]) H (fun tm H=>aresults tabs.ty H tm Try.f116.results.toList fun v=>some (v,H)) (fun _ _ _=>none) (fun tm H=>aresults tabs.ty H tm Try.f116.results.toList fun v=>some (v,H)) = aE.twX F aa H:=by kernel_rfl
theorem aE.cs_ok (F:Nat):∀ p ∈ aE.cs F,∀ args H v H',p.2 args H = some (v,H')→Go.AE.T Try.prog p.1 args H v H':=by
 intro p hp
 exact absurd (show p ∈ [] from hp) List.not_mem_nil
theorem aE.ok:codeOk aE.pn Try.f116.ntmps aE.tb aE.code = true:=by kernel_rfl
theorem aE.T {F:Nat} {aa:Int} {H:Hp} {v:AV} {H':Hp} (h:aE.tw F aa H = some (v,H')):Go.AE.T Try.prog 116 [(.int .i64 aa)] H v H':=
 Go.AE.T.of (Y:=tabs) (C:=mkOrc (aE.cs F)) (PN:=aE.pn) (LH:=aE.lh F) (F:=F) (TB:=aE.tb) (fn:=Try.f116) (code:=aE.code) mixed tabs_ok (mkOrc_ok (aE.cs_ok F)) Try.func116 (by kernel_rfl) (by kernel_rfl) aE.ok (Nat.le_of_ble_eq_true (by kernel_rfl)) (aE.loops F) (Eq.trans (aE.eqX F aa H) h)
theorem aE.mk_T {F:Nat} {args:List AV} {H:Hp} {v:AV} {H':Hp} (h:aE.mk (aE.tw F) args H = some (v,H')):Go.AE.T Try.prog 116 args H v H':=by
 unfold aE.mk at h
 split at h
 ·exact aE.T h
 ·cases h
noncomputable def ay.j2 (F:Nat) (C7_:Sl→Int→Int→Sl→Int→Int→Hp→OA) (Ck:Sl) (lL:Int) (lM:Int) (Cl:Sl) (lN:Int) (lO:Int) (H50:Hp):OA:=C7_ Ck lL lM Cl lN (IntKind.i64.wrap (lO + 1)) H50
noncomputable def ay.l7 (F:Nat) :Nat→Sl→Int→Int→Sl→Int→Int→Hp→OA
 | 0,_,_,_,_,_,_,_=>none
 | wj + 1,cI,dE,dQ,gH,eE,dG,H16=>(bif (decide (dG < eE)) then ((Sl.idx gH dG 1).bind fun p34=>(Hp.ldI H16 .i64 p34.1 p34.2).bind fun n35=>(bif (n35 == dE) then ((Sl.idx cI dG 1).bind fun p36=>(Hp.st H16 p36.1 p36.2 (.int .i64 dQ)).bind fun H37=>ay.j2 F (ay.l7 F wj) cI dE dQ gH eE dG H37) else (ay.j2 F (ay.l7 F wj) cI dE dQ gH eE dG H16))) else (some ((.tup []),H16)))
termination_by structural n=>n
noncomputable def ay.twX (F:Nat) (aa:Sl) (ad:Int) (bQ:Int) (H:Hp):OA:=(Sl.idx aa bQ 1).bind fun p4=>(Hp.ldI H .i64 p4.1 p4.2).bind fun n5=>(Sl.idx aa ad 1).bind fun p6=>(Hp.ldI H .i64 p6.1 p6.2).bind fun n7=>ay.l7 F F aa n5 n7 aa (aa.n:Int) 0 H
noncomputable def ay.tw (F:Nat) (aa:Sl) (ad:Int) (bQ:Int) (H:Hp):OA:=ay.twX F aa ad bQ H
noncomputable def ay.code:Go.Code:=(Try.f118.body).getD .skip
noncomputable def ay.lh7 (F:Nat) (ks:List Nat) (n:Nat) (tm:Tm) (H:Hp):OA:=match ks,tm 0,tm 6,tm 7,tm 18,tm 19,tm 20 with
 | [],(.sl cI),(.int .i64 dE),(.int .i64 dQ),(.sl gH),(.int .i64 eE),(.int .i64 dG)=>ay.l7 F n cI dE dQ gH eE dG H
 | _,_,_,_,_,_,_=>none
theorem ay.lh7_inv {F:Nat} {ks:List Nat} {n:Nat} {tm:Tm} {H:Hp} {r:AV×Hp} (h:ay.lh7 F ks n tm H = some r):∃ cI:Sl,∃ dE:Int,∃ dQ:Int,∃ gH:Sl,∃ eE:Int,∃ dG:Int,ks = []∧tm 0 = (.sl cI)∧tm 6 = (.int .i64 dE)∧tm 7 = (.int .i64 dQ)∧tm 18 = (.sl gH)∧tm 19 = (.int .i64 eE)∧tm 20 = (.int .i64 dG)∧ay.l7 F n cI dE dQ gH eE dG H = some r:=by
 unfold ay.lh7 at h
 split at h
 ·exact ⟨_,_,_,_,_,_,rfl,by assumption,by assumption,by assumption,by assumption,by assumption,by assumption,h⟩
 ·cases h
noncomputable def ay.lh (F:Nat) (p:Nat) (ks:List Nat) (n:Nat) (tm:Tm) (H:Hp):OA:=bif p.beq 7 then ay.lh7 F ks n tm H else (none)
def ay.pn:Nat→List Nat:=fun i=>(([(0,[])]:List (Nat×List Nat)).lookup i).getD []
def ay.tb:Nat→List (List Nat):=fun i=>(([(0,[[],[],[0,1],[0,1,2],[],[],[4,5],[4,5,6],[0,1,2,3],[0,1,2,3,4,5,6,7,8]])]:List (Nat×List (List Nat))).lookup i).getD []
noncomputable def ay.mk (g:Sl→Int→Int→Hp→OA) (args:List AV) (H:Hp):OA:=match args with
 | [(.sl aa),(.int .i64 ad),(.int .i64 bQ)]=>g aa ad bQ H
 | _=>none
noncomputable def ay.cs (F:Nat):List (FuncId×(List AV→Hp→OA)):=[]
theorem ay.loops (F:Nat):LoopsOk tabs (mkOrc (ay.cs F)) ay.pn (ay.lh F) F [] 1 ay.code (fun tm H=>aresults tabs.ty H tm Try.f118.results.toList fun v=>some (v,H)) (fun _ _ _=>none) (fun tm H=>aresults tabs.ty H tm Try.f118.results.toList fun v=>some (v,H)):=by
 refine LoopsOk.seq ?_ ?_
 ·exact loops_none (by kernel_rfl)
 ·refine LoopsOk.seq ?_ ?_
  ·exact loops_none (by kernel_rfl)
  ·refine LoopsOk.block ?_
   refine LoopsOk.loop (fun tm H=>?_) (fun k7 tm H r h0=>?_) (fun k7=>?_)
   ·refine none_of fun r h0=>?_
    obtain ⟨cI,dE,dQ,gH,eE,dG,hks,e0,e6,e7,e18,e19,e20,h⟩:=ay.lh7_inv (show ay.lh7 F [] 0 tm H = some r from h0)
    cases h
   ·obtain ⟨cI,dE,dQ,gH,eE,dG,hks,e0,e6,e7,e18,e19,e20,h⟩:=ay.lh7_inv (show ay.lh7 F [] (k7 + 1) tm H = some r from h0)
    have q0:(Tm.put tm 0 (.sl cI)) = tm:=by exact Tm.put_same e0
    have q1:(Tm.put (Tm.put tm 0 (.sl cI)) 6 (.int .i64 dE)) = tm:=by rw [q0]; exact Tm.put_same e6
    have q2:(Tm.put (Tm.put (Tm.put tm 0 (.sl cI)) 6 (.int .i64 dE)) 7 (.int .i64 dQ)) = tm:=by rw [q1]; exact Tm.put_same e7
    have q3:(Tm.put (Tm.put (Tm.put (Tm.put tm 0 (.sl cI)) 6 (.int .i64 dE)) 7 (.int .i64 dQ)) 18 (.sl gH)) = tm:=by rw [q2]; exact Tm.put_same e18
    have q4:(Tm.put (Tm.put (Tm.put (Tm.put (Tm.put tm 0 (.sl cI)) 6 (.int .i64 dE)) 7 (.int .i64 dQ)) 18 (.sl gH)) 19 (.int .i64 eE)) = tm:=by rw [q3]; exact Tm.put_same e19
    have q5:(Tm.put (Tm.put (Tm.put (Tm.put (Tm.put (Tm.put tm 0 (.sl cI)) 6 (.int .i64 dE)) 7 (.int .i64 dQ)) 18 (.sl gH)) 19 (.int .i64 eE)) 20 (.int .i64 dG)) = tm:=by rw [q4]; exact Tm.put_same e20
    rw [← q5]
    exact Eq.trans (by kernel_rfl) h
   ·exact loops_none (by kernel_rfl)
theorem ay.eqX (F:Nat) (aa:Sl) (ad:Int) (bQ:Int) (H:Hp):aCode tabs (mkOrc (ay.cs F)) ay.pn (ay.lh F) F [] 1 ay.code (argTm [(.sl aa),(.int .i64 ad),(.int .i64 bQ)]) H (fun tm H=>aresults tabs.ty H tm Try.f118.results.toList fun v=>some (v,H)) (fun _ _ _=>none) (fun tm H=>aresults tabs.ty H tm Try.f118.results.toList fun v=>some (v,H)) = ay.twX F aa ad bQ H:=by kernel_rfl
theorem ay.cs_ok (F:Nat):∀ p ∈ ay.cs F,∀ args H v H',p.2 args H = some (v,H')→Go.AE.T Try.prog p.1 args H v H':=by
 intro p hp
 exact absurd (show p ∈ [] from hp) List.not_mem_nil
theorem ay.ok:codeOk ay.pn Try.f118.ntmps ay.tb ay.code = true:=by kernel_rfl
theorem ay.T {F:Nat} {aa:Sl} {ad:Int} {bQ:Int} {H:Hp} {v:AV} {H':Hp} (h:ay.tw F aa ad bQ H = some (v,H')):Go.AE.T Try.prog 118 [(.sl aa),(.int .i64 ad),(.int .i64 bQ)] H v H':=
 Go.AE.T.of (Y:=tabs) (C:=mkOrc (ay.cs F)) (PN:=ay.pn) (LH:=ay.lh F) (F:=F) (TB:=ay.tb) (fn:=Try.f118) (code:=ay.code) mixed tabs_ok (mkOrc_ok (ay.cs_ok F)) Try.func118 (by kernel_rfl) (by kernel_rfl) ay.ok (Nat.le_of_ble_eq_true (by kernel_rfl)) (ay.loops F) (Eq.trans (ay.eqX F aa ad bQ H) h)
theorem ay.mk_T {F:Nat} {args:List AV} {H:Hp} {v:AV} {H':Hp} (h:ay.mk (ay.tw F) args H = some (v,H')):Go.AE.T Try.prog 118 args H v H':=by
 unfold ay.mk at h
 split at h
 ·exact ay.T h
 ·cases h
theorem nm_law:Keyed Try.prog 2:=int_keyed Try.underlying2
theorem nm_zero (w:World):(zeroValue 2).run Try.prog w = .ok (.int .i64 0) w:=by kernel_rfl
theorem nm_info:(Try.prog.info? 2).map (fun i=>(i.zero,i.size,i.bytes)) = some (some (.int .i64 0),1,8):=by kernel_rfl
theorem nm_none (a:Option Addr) (cap:Nat) (w:World):Calls Try.prog 119 #[.slice a 0 cap] w fun e w'=>e = .returned (.slice none 0 0)∧Below w.heap.size w w':=by
 have hmm:=@run_makeMap Try.prog
 go_enter Try.func119,Try.ntmps119
 go_wp2
 refine wp_loop_rounds 1 ?_
 rw [rounds_succ]
 go_wp2
 go_ret
 exact ⟨rfl,(Below.refl _ _).alloc (Nat.le_refl _) _⟩
theorem nm_any (b off len cap:Nat) (zs:List Int) (w:World) (hreach:len ≤ 4294967296) (hz:len ≤ zs.length) (hb:b < w.heap.size)
  (hc:∀ j,j < zs.length→w.cell? ⟨b,off + j,none⟩ = some (.int .i64 (zs.getD j 0))) (hwz:∀ n ∈ zs,(Lit.int .i64 n).wf = true) :
  Calls Try.prog 119 #[.slice (some ⟨b,off,none⟩) len cap] w fun e w'=>∃ v,e = .returned v∧w'.ownsRow (w.heap.size + 1) 2 1 v len ((nst zs len).2.map (Value.int .i64))∧Below w.heap.size w w':=by
 have hmm:=@run_makeMap Try.prog
 obtain ⟨i0,hi,hz0,hz1,hz2⟩:=info_parts nm_info
 go_enter Try.func119,Try.ntmps119
 go_wp2
 go_loopw [4,12] (fun v i wr=>∃ (k:Nat) (D:DataW Unit),k ≤ len∧i = .int .i64 k∧wr.ownsMap Try.prog 2 (plainElem Try.prog 2) w.heap.size k D∧ND D (nst zs k).1 ∧
   wr.ownsRow (w.heap.size + 1) 2 1 v k ((nst zs k).2.map (Value.int .i64))∧Below w.heap.size w wr∧w.heap.size + 1 ≤ wr.heap.size)
  (fun _ i _=>len - (intOf i).toNat)
 case atStart=>exact ⟨0,.map [],Nat.zero_le _,rfl,World.ownsMap_made _ _ _ _,ND.nil,World.ownsRow_nil _ _ _ _,(Below.refl _ _).alloc (Nat.le_refl _) _,by simp⟩
 case round=>
  obtain ⟨k,D,hk,rfl,hown,hD,hrow,hnx,hws⟩:=hrel
  obtain ⟨x,hx⟩:∃ x,x = zs.getD k 0:=⟨_,rfl⟩
  have hwx:(Lit.int .i64 x).wf = true:=by rw [hx]; exact wf_gd hwz k
  have hcx:k < len→wr.cell? ⟨b,off + k,none⟩ = some (.int .i64 x):=fun _=>by rw [hx]; exact (hnx.cell (by exact hb)).trans (hc k (by omega))
  have hkey:keyOf Try.prog 2 (.int .i64 x) = some (.int .i64 x):=keyOf_int_mk Try.underlying2 hwx
  have hl1:=nst_len1 zs k
  have hs1:Maps.size D ≤ k:=by rw [hD.size]; exact hl1
  have hht:=hown.tidy nm_law
  have n1:nst zs (k + 1) = (bif (nst zs k).1.contains x then (nst zs k).1 else (nst zs k).1 ++ [x],(nst zs k).2 ++ [(((bif (nst zs k).1.contains x then (nst zs k).1 else (nst zs k).1 ++ [x]).idxOf x:Nat):Int)]):=by rw [hx]; rfl
  clear hx
  go_wp2_with (first
   | (at_lookup; first
     | (refine wpList_lookup_own_ok_int _ rfl _ _ 157 rfl 2 2 .i64 nm_law Try.underlying157 Try.underlying2 (nm_zero _) w.heap.size k _ rfl hown _ _ rfl hkey ?_; intro c hat hwc)
     | (refine wpList_lookup_own_int _ rfl _ _ 157 rfl 2 2 .i64 nm_law Try.underlying157 Try.underlying2 (nm_zero _) w.heap.size (k + 1) _ rfl hown1 _ _ rfl hkey ?_; intro c2 hat2 hwc2)
     | (refine wpList_lookup_own_int _ rfl _ _ 157 rfl 2 2 .i64 nm_law Try.underlying157 Try.underlying2 (nm_zero _) w.heap.size k _ rfl hown _ _ rfl hkey ?_; intro c2 hat2 hwc2))
   | (at_len; refine wpList_len_own _ rfl _ 157 rfl 2 2 Try.underlying157 _ w.heap.size k _ rfl hown ?_)
   | (at_mapUpdate; refine wpList_mapUpdate_own _ rfl _ _ _ 157 rfl 2 2 nm_law Try.underlying157 (plainElem Try.prog 2) w.heap.size k _ rfl hown (by unfold maxLen; omega) _ _ _ rfl rfl hkey _ [] (plainElem_int Try.underlying2 (WalkArith.wf_i64 (by omega))) ?_; intro w1 hown1 hgrow1)
   | (at_builtin; first
     | (refine wpList_append_own _ rfl _ _ 26 rfl (w.heap.size + 1) 2 i0 (.int .i64 0) 1 8 Try.underlying26 hi hz0 hz1 hz2 rfl (by decide) _ _ _ rfl ((hrow.kept hgrow1 (Or.inr (rowNe hrow (Nat.lt_succ_self _)).symm)).alloc _) ⟨w1.heap.size,0,none⟩ 1 1 [.int .i64 c2] rfl rfl (cell_one_new _ _ _) (ints_oneCell .i64 [c2]) (by unfold maxLen; omega) (by omega) (by have:=hgrow1.size; simp at this ⊢; omega) ?_; intro v' w2 hown' hgrow2 hnil2)
     | (refine wpList_append_own _ rfl _ _ 26 rfl (w.heap.size + 1) 2 i0 (.int .i64 0) 1 8 Try.underlying26 hi hz0 hz1 hz2 rfl (by decide) _ _ _ rfl (hrow.alloc _) ⟨wr.heap.size,0,none⟩ 1 1 [.int .i64 c2] rfl rfl (cell_one_new _ _ _) (ints_oneCell .i64 [c2]) (by unfold maxLen; omega) (by omega) (by simp; omega) ?_; intro v' w2 hown' hgrow2 hnil2))
   | go_in)
  ·have hlt:k < len:=by assumption
   have ht:(!Maps.has D (Lit.int .i64 x)) = true:=by assumption
   have hc0:(nst zs k).1.contains x = false:=by rw [← hD.has x]; simpa using ht
   have hr1:=hrow.kept hgrow1 (Or.inr (rowNe hrow (Nat.lt_succ_self _)).symm)
   have s1:=hgrow1.size
   have s2:=hgrow2.size
   simp at s1 s2
   have hD1:=hD.new hht hc0
   rw [hD1.at_ x (by simp) _] at hat2
   have e2:c2 = (((nst zs k).1 ++ [x]).idxOf x:Nat):=by injection hat2 with q; injection q with _ q; exact q.symm
   rw [hc0,cond_false] at n1
   go_roundw
   case rel=>
    refine ⟨k + 1,_,by omega,by go_num,(hown1.alloc _).kept hgrow2 (rowNe hr1 (Nat.lt_succ_self _)),by rw [n1]; exact hD1,?_,?_,by omega⟩
    ·rw [n1,List.map_append,← e2]; exact hown'
    ·exact (((hnx.grown hgrow1 hnx.size (fun j hj=>by cases hj; exact Nat.le_refl _)).alloc (by omega) _).grown hgrow2 (by simp; omega) (fun j hj=>Nat.le_trans (Nat.le_succ _) (hr1.lt j hj).1))
   case measure=>simp [intOf]; omega
  ·have hlt:k < len:=by assumption
   have ht:(!Maps.has D (Lit.int .i64 x)) = false:=by assumption
   have hc1:(nst zs k).1.contains x = true:=by rw [← hD.has x]; simpa using ht
   have s2:=hgrow2.size
   simp at s2
   rw [hD.at_ x hc1 _] at hat2
   have e2:c2 = ((nst zs k).1.idxOf x:Nat):=by injection hat2 with q; injection q with _ q; exact q.symm
   rw [hc1,cond_true] at n1
   go_roundw
   case rel=>
    refine ⟨k + 1,_,by omega,by go_num,((hown.alloc _).kept hgrow2 (rowNe hrow (Nat.lt_succ_self _))).mono (Nat.le_succ _),by rw [n1]; exact hD,?_,?_,by omega⟩
    ·rw [n1,List.map_append,← e2]; exact hown'
    ·exact ((hnx.alloc hnx.size _).grown hgrow2 (by simp; omega) (fun j hj=>Nat.le_trans (Nat.le_succ _) (hrow.lt j hj).1))
   case measure=>simp [intOf]; omega
  ·have:k = len:=by omega
   subst this
   go_ret
   exact ⟨_,rfl,hrow,hnx⟩
theorem nm_ok:NumOk Try.prog 119 2:=⟨nm_none,nm_any⟩
noncomputable def cg.tw (F:Nat) (aa:Sl) (H:Hp):OA:=numTw aa H
noncomputable def cg.mk (g:Sl→Hp→OA) (args:List AV) (H:Hp):OA:=match args with
 | [.sl aa]=>g aa H
 | _=>none
theorem cg.T {F:Nat} {aa:Sl} {H:Hp} {v:AV} {H':Hp} (h:cg.tw F aa H = some (v,H')):Go.AE.T Try.prog 119 [.sl aa] H v H':=
 nm_ok.T (enters_of Try.func119 (by kernel_rfl) (by kernel_rfl)) h
theorem cg.mk_T {F:Nat} {args:List AV} {H:Hp} {v:AV} {H':Hp} (h:cg.mk (cg.tw F) args H = some (v,H')):Go.AE.T Try.prog 119 args H v H':=by
 unfold cg.mk at h
 split at h
 ·exact cg.T h
 ·cases h
noncomputable def aM.l29 (F:Nat) (bc:Sl→Hp→OA) (bX:Int→Hp→OA) (bY:Sl→Int→Int→Hp→OA) (bZ:Sl→Hp→OA) :Nat→Nat→Nat→Sl→Sl→Int→Int→Hp→OA
 | 0,_,_,_,_,_,_,_=>none
 | cZ + 1,fe,gr,gu,gV,ff,ej,H26=>(bif (decide (ej < ff)) then ((Sl.idx gV ej 2).bind fun p40=>(Hp.ldI H26 .i64 p40.1 p40.2).bind fun n41=>(Hp.ldI H26 .i64 p40.1 (p40.2 + 1)).bind fun n42=>(Hp.new H26 [.int .i64 0,.int .i64 0]).bind fun H43=>(Hp.st H43 H26.length 0 (.int .i64 n41)).bind fun H44=>(Hp.st H44 H26.length (0 + 1) (.int .i64 n42)).bind fun H45=>(Hp.ldI H45 .i64 H26.length 0).bind fun n46=>(Hp.ldSl H45 fe (gr + 1)).bind fun s47=>(Sl.idx s47 ej 2).bind fun p48=>(Hp.ldI H45 .i64 p48.1 p48.2).bind fun n49=>(bY gu n46 n49 H45).bind fun r50=>aM.l29 F bc bX bY bZ cZ fe gr gu gV ff (IntKind.i64.wrap (ej + 1)) r50.2) else ((bZ gu H26).bind fun r51=>((r51.1).asSl).bind fun s52=>some ((.sl s52),r51.2)))
termination_by structural n=>n
noncomputable def aM.twX (F:Nat) (bc:Sl→Hp→OA) (bX:Int→Hp→OA) (bY:Sl→Int→Int→Hp→OA) (bZ:Sl→Hp→OA) (aa:Sl) (ab:Int) (af:Sl) (ar:Sl) (H:Hp):OA:=(Hp.new H [(.sl aa),(.int .i64 ab)]).bind fun H5=>(Hp.new H5 [(.sl af),(.sl ar)]).bind fun H6=>(Hp.ldSl H6 H.length 0).bind fun s7=>(bc s7 H6).bind fun r8=>((r8.1).asI .i64).bind fun n9=>(bX n9 r8.2).bind fun r10=>((r10.1).asSl).bind fun s11=>(Hp.ldSl r10.2 H5.length 0).bind fun s12=>aM.l29 F bc bX bY bZ F H5.length 0 s11 s12 (s12.n:Int) 0 r10.2
noncomputable def aM.tw (F:Nat) (aa:Sl) (ab:Int) (af:Sl) (ar:Sl) (H:Hp):OA:=aM.twX F (aG.tw F) (aE.tw F) (ay.tw F) (cg.tw F) aa ab af ar H
noncomputable def aM.code:Go.Code:=(Try.f126.body).getD .skip
noncomputable def aM.lh29 (F:Nat) (bc:Sl→Hp→OA) (bX:Int→Hp→OA) (bY:Sl→Int→Int→Hp→OA) (bZ:Sl→Hp→OA) (ks:List Nat) (n:Nat) (tm:Tm) (H:Hp):OA:=match ks,tm 3,tm 5,tm 13,tm 14,tm 15 with
 | [],(.ptr fe gr),(.sl gu),(.sl gV),(.int .i64 ff),(.int .i64 ej)=>aM.l29 F bc bX bY bZ n fe gr gu gV ff ej H
 | _,_,_,_,_,_=>none
theorem aM.lh29_inv {F:Nat} {bc:Sl→Hp→OA} {bX:Int→Hp→OA} {bY:Sl→Int→Int→Hp→OA} {bZ:Sl→Hp→OA} {ks:List Nat} {n:Nat} {tm:Tm} {H:Hp} {r:AV×Hp} (h:aM.lh29 F bc bX bY bZ ks n tm H = some r):∃ fe:Nat,∃ gr:Nat,∃ gu:Sl,∃ gV:Sl,∃ ff:Int,∃ ej:Int,ks = []∧tm 3 = (.ptr fe gr)∧tm 5 = (.sl gu)∧tm 13 = (.sl gV)∧tm 14 = (.int .i64 ff)∧tm 15 = (.int .i64 ej)∧aM.l29 F bc bX bY bZ n fe gr gu gV ff ej H = some r:=by
 unfold aM.lh29 at h
 split at h
 ·exact ⟨_,_,_,_,_,_,rfl,by assumption,by assumption,by assumption,by assumption,by assumption,h⟩
 ·cases h
noncomputable def aM.lh (F:Nat) (bc:Sl→Hp→OA) (bX:Int→Hp→OA) (bY:Sl→Int→Int→Hp→OA) (bZ:Sl→Hp→OA) (p:Nat) (ks:List Nat) (n:Nat) (tm:Tm) (H:Hp):OA:=bif p.beq 29 then aM.lh29 F bc bX bY bZ ks n tm H else (none)
def aM.pn:Nat→List Nat:=fun i=>(([(5,[9])]:List (Nat×List Nat)).lookup i).getD []
def aM.tb:Nat→List (List Nat):=fun i=>(([(5,[[],[],[1],[],[3],[],[3,4,5],[3,4,5,6],[3,4,5,6,7],[0,1,2,3,4,5,6,7,8]])]:List (Nat×List (List Nat))).lookup i).getD []
noncomputable def aM.mk (g:Sl→Int→Sl→Sl→Hp→OA) (args:List AV) (H:Hp):OA:=match args with
 | [(.agg [(.sl aa),(.int .i64 ab)]),(.agg [(.sl af),(.sl ar)])]=>g aa ab af ar H
 | _=>none
noncomputable def aM.cs (F:Nat) (bc:Sl→Hp→OA) (bX:Int→Hp→OA) (bY:Sl→Int→Int→Hp→OA) (bZ:Sl→Hp→OA):List (FuncId×(List AV→Hp→OA)):=[(117,aG.mk bc),(116,aE.mk bX),(118,ay.mk bY),(119,cg.mk bZ)]
theorem aM.loops (F:Nat) (bc:Sl→Hp→OA) (bX:Int→Hp→OA) (bY:Sl→Int→Int→Hp→OA) (bZ:Sl→Hp→OA):LoopsOk tabs (mkOrc (aM.cs F bc bX bY bZ)) aM.pn (aM.lh F bc bX bY bZ) F [] 1 aM.code (fun tm H=>aresults tabs.ty H tm Try.f126.results.toList fun v=>some (v,H)) (fun _ _ _=>none) (fun tm H=>aresults tabs.ty H tm Try.f126.results.toList fun v=>some (v,H)):=by
 refine LoopsOk.seq ?_ ?_
 ·exact loops_none (by kernel_rfl)
 ·refine LoopsOk.seq ?_ ?_
  ·exact loops_none (by kernel_rfl)
  ·refine LoopsOk.seq ?_ ?_
   ·refine LoopsOk.seq ?_ ?_
    ·exact loops_none (by kernel_rfl)
    ·refine LoopsOk.block ?_
     refine LoopsOk.loop (fun tm H=>?_) (fun k29 tm H r h0=>?_) (fun k29=>?_)
     ·refine none_of fun r h0=>?_
      obtain ⟨fe,gr,gu,gV,ff,ej,hks,e3,e5,e13,e14,e15,h⟩:=aM.lh29_inv (show aM.lh29 F bc bX bY bZ [] 0 tm H = some r from h0)
      cases h
     ·obtain ⟨fe,gr,gu,gV,ff,ej,hks,e3,e5,e13,e14,e15,h⟩:=aM.lh29_inv (show aM.lh29 F bc bX bY bZ [] (k29 + 1) tm H = some r from h0)
      have q0:(Tm.put tm 3 (.ptr fe gr)) = tm:=by exact Tm.put_same e3
      have q1:(Tm.put (Tm.put tm 3 (.ptr fe gr)) 5 (.sl gu)) = tm:=by rw [q0]; exact Tm.put_same e5
      have q2:(Tm.put (Tm.put (Tm.put tm 3 (.ptr fe gr)) 5 (.sl gu)) 13 (.sl gV)) = tm:=by rw [q1]; exact Tm.put_same e13
      have q3:(Tm.put (Tm.put (Tm.put (Tm.put tm 3 (.ptr fe gr)) 5 (.sl gu)) 13 (.sl gV)) 14 (.int .i64 ff)) = tm:=by rw [q2]; exact Tm.put_same e14
      have q4:(Tm.put (Tm.put (Tm.put (Tm.put (Tm.put tm 3 (.ptr fe gr)) 5 (.sl gu)) 13 (.sl gV)) 14 (.int .i64 ff)) 15 (.int .i64 ej)) = tm:=by rw [q3]; exact Tm.put_same e15
      rw [← q4]
      exact Eq.trans (by kernel_rfl) h
     ·exact loops_none (by kernel_rfl)
   ·exact loops_none (by kernel_rfl)
theorem aM.eqX (F:Nat) (bc:Sl→Hp→OA) (bX:Int→Hp→OA) (bY:Sl→Int→Int→Hp→OA) (bZ:Sl→Hp→OA) (aa:Sl) (ab:Int) (af:Sl) (ar:Sl) (H:Hp):aCode tabs (mkOrc (aM.cs F bc bX bY bZ)) aM.pn (aM.lh F bc bX bY bZ) F [] 1 aM.code (argTm [(.agg [(.sl aa),(.int .i64 ab)]),(.agg [(.sl af),(.sl ar)])]) H (fun tm H=>aresults tabs.ty H tm Try.f126.results.toList fun v=>some (v,H)) (fun _ _ _=>none) (fun tm H=>aresults tabs.ty H tm Try.f126.results.toList fun v=>some (v,H)) = aM.twX F bc bX bY bZ aa ab af ar H:=by kernel_rfl
theorem aM.cs_ok (F:Nat):∀ p ∈ aM.cs F (aG.tw F) (aE.tw F) (ay.tw F) (cg.tw F),∀ args H v H',p.2 args H = some (v,H')→Go.AE.T Try.prog p.1 args H v H':=by
 intro p hp
 simp only [aM.cs,List.mem_cons,List.not_mem_nil,or_false] at hp
 rcases hp with rfl | rfl | rfl | rfl
 ·exact fun args H v H' h=>aG.mk_T h
 ·exact fun args H v H' h=>aE.mk_T h
 ·exact fun args H v H' h=>ay.mk_T h
 ·exact fun args H v H' h=>cg.mk_T h
theorem aM.ok:codeOk aM.pn Try.f126.ntmps aM.tb aM.code = true:=by kernel_rfl
theorem aM.T {F:Nat} {aa:Sl} {ab:Int} {af:Sl} {ar:Sl} {H:Hp} {v:AV} {H':Hp} (h:aM.tw F aa ab af ar H = some (v,H')):Go.AE.T Try.prog 126 [(.agg [(.sl aa),(.int .i64 ab)]),(.agg [(.sl af),(.sl ar)])] H v H':=
 Go.AE.T.of (Y:=tabs) (C:=mkOrc (aM.cs F (aG.tw F) (aE.tw F) (ay.tw F) (cg.tw F))) (PN:=aM.pn) (LH:=aM.lh F (aG.tw F) (aE.tw F) (ay.tw F) (cg.tw F)) (F:=F) (TB:=aM.tb) (fn:=Try.f126) (code:=aM.code) mixed tabs_ok (mkOrc_ok (aM.cs_ok F)) Try.func126 (by kernel_rfl) (by kernel_rfl) aM.ok (Nat.le_of_ble_eq_true (by kernel_rfl)) (aM.loops F (aG.tw F) (aE.tw F) (ay.tw F) (cg.tw F)) (Eq.trans (aM.eqX F (aG.tw F) (aE.tw F) (ay.tw F) (cg.tw F) aa ab af ar H) h)
theorem aM.mk_T {F:Nat} {args:List AV} {H:Hp} {v:AV} {H':Hp} (h:aM.mk (aM.tw F) args H = some (v,H')):Go.AE.T Try.prog 126 args H v H':=by
 unfold aM.mk at h
 split at h
 ·exact aM.T h
 ·cases h
noncomputable def aF.l61 (F:Nat) :Nat→Sl→Int→Int→Hp→OA
 | 0,_,_,_,_=>none
 | bj + 1,cI,cw,eQ,H13=>(bif (decide (eQ < (cI.n:Int))) then ((Sl.idx cI eQ 1).bind fun p16=>(Hp.ldI H13 .i64 p16.1 p16.2).bind fun n17=>aF.l61 F bj cI (if n17 > cw then n17 else cw) (IntKind.i64.wrap (eQ + 1)) H13) else (some ((.int .i64 cw),H13)))
termination_by structural n=>n
noncomputable def aF.j1 (F:Nat) (wk:Sl) (H5:Hp):OA:=(Sl.idx wk 0 1).bind fun p6=>(Hp.ldI H5 .i64 p6.1 p6.2).bind fun n7=>aF.l61 F F wk n7 1 H5
noncomputable def aF.twX (F:Nat) (aa:Sl) (H:Hp):OA:=(bif (decide ((aa.n:Int) < 1)) then (none) else (aF.j1 F aa H))
noncomputable def aF.tw (F:Nat) (aa:Sl) (H:Hp):OA:=aF.twX F aa H
noncomputable def aF.code:Go.Code:=(Try.f151.body).getD .skip
noncomputable def aF.lh61 (F:Nat) (ks:List Nat) (n:Nat) (tm:Tm) (H:Hp):OA:=match ks,tm 0,tm 3,tm 4 with
 | [],(.sl cI),(.int .i64 cw),(.int .i64 eQ)=>aF.l61 F n cI cw eQ H
 | _,_,_,_=>none
theorem aF.lh61_inv {F:Nat} {ks:List Nat} {n:Nat} {tm:Tm} {H:Hp} {r:AV×Hp} (h:aF.lh61 F ks n tm H = some r):∃ cI:Sl,∃ cw:Int,∃ eQ:Int,ks = []∧tm 0 = (.sl cI)∧tm 3 = (.int .i64 cw)∧tm 4 = (.int .i64 eQ)∧aF.l61 F n cI cw eQ H = some r:=by
 unfold aF.lh61 at h
 split at h
 ·exact ⟨_,_,_,rfl,by assumption,by assumption,by assumption,h⟩
 ·cases h
noncomputable def aF.lh (F:Nat) (p:Nat) (ks:List Nat) (n:Nat) (tm:Tm) (H:Hp):OA:=bif p.beq 61 then aF.lh61 F ks n tm H else (none)
def aF.pn:Nat→List Nat:=fun i=>(([]:List (Nat×List Nat)).lookup i).getD []
def aF.tb:Nat→List (List Nat):=fun i=>(([]:List (Nat×List (List Nat))).lookup i).getD []
noncomputable def aF.mk (g:Sl→Hp→OA) (args:List AV) (H:Hp):OA:=match args with
 | [(.sl aa)]=>g aa H
 | _=>none
noncomputable def aF.cs (F:Nat):List (FuncId×(List AV→Hp→OA)):=[]
theorem aF.loops (F:Nat):LoopsOk tabs (mkOrc (aF.cs F)) aF.pn (aF.lh F) F [] 1 aF.code (fun tm H=>aresults tabs.ty H tm Try.f151.results.toList fun v=>some (v,H)) (fun _ _ _=>none) (fun tm H=>aresults tabs.ty H tm Try.f151.results.toList fun v=>some (v,H)):=by
 refine LoopsOk.seq ?_ ?_
 ·exact loops_none (by kernel_rfl)
 ·refine LoopsOk.seq ?_ ?_
  ·exact loops_none (by kernel_rfl)
  ·refine LoopsOk.seq ?_ ?_
   ·exact loops_none (by kernel_rfl)
   ·refine LoopsOk.seq ?_ ?_
    ·refine LoopsOk.seq ?_ ?_
     ·exact loops_none (by kernel_rfl)
     ·refine LoopsOk.block ?_
      refine LoopsOk.loop (fun tm H=>?_) (fun k61 tm H r h0=>?_) (fun k61=>?_)
      ·refine none_of fun r h0=>?_
       obtain ⟨cI,cw,eQ,hks,e0,e3,e4,h⟩:=aF.lh61_inv (show aF.lh61 F [] 0 tm H = some r from h0)
       cases h
      ·obtain ⟨cI,cw,eQ,hks,e0,e3,e4,h⟩:=aF.lh61_inv (show aF.lh61 F [] (k61 + 1) tm H = some r from h0)
       have q0:(Tm.put tm 0 (.sl cI)) = tm:=by exact Tm.put_same e0
       have q1:(Tm.put (Tm.put tm 0 (.sl cI)) 3 (.int .i64 cw)) = tm:=by rw [q0]; exact Tm.put_same e3
       have q2:(Tm.put (Tm.put (Tm.put tm 0 (.sl cI)) 3 (.int .i64 cw)) 4 (.int .i64 eQ)) = tm:=by rw [q1]; exact Tm.put_same e4
       rw [← q2]
       exact Eq.trans (by kernel_rfl) h
      ·exact loops_none (by kernel_rfl)
    ·exact loops_none (by kernel_rfl)
theorem aF.eqX (F:Nat) (aa:Sl) (H:Hp):aCode tabs (mkOrc (aF.cs F)) aF.pn (aF.lh F) F [] 1 aF.code (argTm [(.sl aa)]) H (fun tm H=>aresults tabs.ty H tm Try.f151.results.toList fun v=>some (v,H)) (fun _ _ _=>none) (fun tm H=>aresults tabs.ty H tm Try.f151.results.toList fun v=>some (v,H)) = aF.twX F aa H:=by kernel_rfl
theorem aF.cs_ok (F:Nat):∀ p ∈ aF.cs F,∀ args H v H',p.2 args H = some (v,H')→Go.AE.T Try.prog p.1 args H v H':=by
 intro p hp
 exact absurd (show p ∈ [] from hp) List.not_mem_nil
theorem aF.ok:codeOk aF.pn Try.f151.ntmps aF.tb aF.code = true:=by kernel_rfl
theorem aF.T {F:Nat} {aa:Sl} {H:Hp} {v:AV} {H':Hp} (h:aF.tw F aa H = some (v,H')):Go.AE.T Try.prog 151 [(.sl aa)] H v H':=
 Go.AE.T.of (Y:=tabs) (C:=mkOrc (aF.cs F)) (PN:=aF.pn) (LH:=aF.lh F) (F:=F) (TB:=aF.tb) (fn:=Try.f151) (code:=aF.code) mixed tabs_ok (mkOrc_ok (aF.cs_ok F)) Try.func151 (by kernel_rfl) (by kernel_rfl) aF.ok (Nat.le_of_ble_eq_true (by kernel_rfl)) (aF.loops F) (Eq.trans (aF.eqX F aa H) h)
theorem aF.mk_T {F:Nat} {args:List AV} {H:Hp} {v:AV} {H':Hp} (h:aF.mk (aF.tw F) args H = some (v,H')):Go.AE.T Try.prog 151 args H v H':=by
 unfold aF.mk at h
 split at h
 ·exact aF.T h
 ·cases h
noncomputable def bg.twX (F:Nat) (hR:Sl→Hp→OA) (aa:Sl) (H:Hp):OA:=(bif ((aa.n:Int) == 0) then (some ((.int .i64 0),H)) else ((hR aa H).bind fun r2=>((r2.1).asI .i64).bind fun n3=>some ((.int .i64 (IntKind.i64.wrap (n3 + 1))),r2.2)))
noncomputable def bg.tw (F:Nat) (aa:Sl) (H:Hp):OA:=bg.twX F (aF.tw F) aa H
noncomputable def bg.code:Go.Code:=(Try.f120.body).getD .skip
noncomputable def bg.lh (F:Nat) (hR:Sl→Hp→OA) (p:Nat) (ks:List Nat) (n:Nat) (tm:Tm) (H:Hp):OA:=none
def bg.pn:Nat→List Nat:=fun i=>(([]:List (Nat×List Nat)).lookup i).getD []
def bg.tb:Nat→List (List Nat):=fun i=>(([]:List (Nat×List (List Nat))).lookup i).getD []
noncomputable def bg.mk (g:Sl→Hp→OA) (args:List AV) (H:Hp):OA:=match args with
 | [(.sl aa)]=>g aa H
 | _=>none
noncomputable def bg.cs (F:Nat) (hR:Sl→Hp→OA):List (FuncId×(List AV→Hp→OA)):=[(151,aF.mk hR)]
theorem bg.loops (F:Nat) (hR:Sl→Hp→OA):LoopsOk tabs (mkOrc (bg.cs F hR)) bg.pn (bg.lh F hR) F [] 1 bg.code (fun tm H=>aresults tabs.ty H tm Try.f120.results.toList fun v=>some (v,H)) (fun _ _ _=>none) (fun tm H=>aresults tabs.ty H tm Try.f120.results.toList fun v=>some (v,H)):=by
 exact loops_none (by kernel_rfl)
theorem bg.eqX (F:Nat) (hR:Sl→Hp→OA) (aa:Sl) (H:Hp):aCode tabs (mkOrc (bg.cs F hR)) bg.pn (bg.lh F hR) F [] 1 bg.code (argTm [(.sl aa)]) H (fun tm H=>aresults tabs.ty H tm Try.f120.results.toList fun v=>some (v,H)) (fun _ _ _=>none) (fun tm H=>aresults tabs.ty H tm Try.f120.results.toList fun v=>some (v,H)) = bg.twX F hR aa H:=by kernel_rfl
theorem bg.cs_ok (F:Nat):∀ p ∈ bg.cs F (aF.tw F),∀ args H v H',p.2 args H = some (v,H')→Go.AE.T Try.prog p.1 args H v H':=by
 intro p hp
 simp only [bg.cs,List.mem_cons,List.not_mem_nil,or_false] at hp
 subst hp
 exact fun args H v H' h=>aF.mk_T h
theorem bg.ok:codeOk bg.pn Try.f120.ntmps bg.tb bg.code = true:=by kernel_rfl
theorem bg.T {F:Nat} {aa:Sl} {H:Hp} {v:AV} {H':Hp} (h:bg.tw F aa H = some (v,H')):Go.AE.T Try.prog 120 [(.sl aa)] H v H':=
 Go.AE.T.of (Y:=tabs) (C:=mkOrc (bg.cs F (aF.tw F))) (PN:=bg.pn) (LH:=bg.lh F (aF.tw F)) (F:=F) (TB:=bg.tb) (fn:=Try.f120) (code:=bg.code) mixed tabs_ok (mkOrc_ok (bg.cs_ok F)) Try.func120 (by kernel_rfl) (by kernel_rfl) bg.ok (Nat.le_of_ble_eq_true (by kernel_rfl)) (bg.loops F (aF.tw F)) (Eq.trans (bg.eqX F (aF.tw F) aa H) h)
theorem bg.mk_T {F:Nat} {args:List AV} {H:Hp} {v:AV} {H':Hp} (h:bg.mk (bg.tw F) args H = some (v,H')):Go.AE.T Try.prog 120 args H v H':=by
 unfold bg.mk at h
 split at h
 ·exact bg.T h
 ·cases h
noncomputable def bk.twX (F:Nat) (bc:Sl→Hp→OA) (bW:Int→Int→Int→Hp→OA) (hT:Sl→Hp→OA) (hU:Sl→Int→Hp→OA) (hX:Sl→Int→Sl→Sl→Hp→OA) (hY:Sl→Hp→OA) (hZ:Sl→Int→Sl→Sl→Hp→OA) (cq:Sl→Hp→OA) (aa:Sl) (ab:Int) (H:Hp):OA:=(Hp.new H [(.sl aa),(.int .i64 ab)]).bind fun H3=>(Hp.new H3 [.sl ⟨none,0,.ex 0⟩,.sl ⟨none,0,.ex 0⟩]).bind fun H4=>(Hp.ldSl H4 H.length 0).bind fun s5=>(bc s5 H4).bind fun r6=>((r6.1).asI .i64).bind fun n7=>(bif (decide (n7 > 10)) then ((Hp.st r6.2 H3.length 0 (.sl (⟨none,0,.ex 0⟩:Sl))).bind fun H8=>(Hp.st H8 H3.length (0 + 1) (.sl (⟨none,0,.ex 0⟩:Sl))).bind fun H9=>(Hp.ldSl H9 H3.length 0).bind fun s10=>(Hp.ldSl H9 H3.length (0 + 1)).bind fun s11=>some ((.tup [(.agg [(.sl s10),(.sl s11)]),(.bool false)]),H9)) else ((Hp.ldI r6.2 .i64 H.length 1).bind fun n12=>(bW n12 0 8 r6.2).bind fun r13=>((r13.1).asB).bind fun b14=>(bif (!b14) then ((Hp.st r13.2 H3.length 0 (.sl (⟨none,0,.ex 0⟩:Sl))).bind fun H15=>(Hp.st H15 H3.length (0 + 1) (.sl (⟨none,0,.ex 0⟩:Sl))).bind fun H16=>(Hp.ldSl H16 H3.length 0).bind fun s17=>(Hp.ldSl H16 H3.length (0 + 1)).bind fun s18=>some ((.tup [(.agg [(.sl s17),(.sl s18)]),(.bool false)]),H16)) else ((Hp.ldSl r13.2 H.length 0).bind fun s19=>(hT s19 r13.2).bind fun r20=>((r20.1).asB).bind fun b21=>(bif b21 then ((Hp.st r20.2 H3.length 0 (.sl (⟨none,0,.ex 0⟩:Sl))).bind fun H22=>(Hp.st H22 H3.length (0 + 1) (.sl (⟨none,0,.ex 0⟩:Sl))).bind fun H23=>(Hp.ldSl H23 H3.length 0).bind fun s24=>(Hp.ldSl H23 H3.length (0 + 1)).bind fun s25=>some ((.tup [(.agg [(.sl s24),(.sl s25)]),(.bool false)]),H23)) else ((Hp.ldSl r20.2 H.length 0).bind fun s26=>(Hp.ldI r20.2 .i64 H.length (0 + 1)).bind fun n27=>(hU s26 n27 r20.2).bind fun r28=>((r28.1).asTup 2).bind fun l29=>(l29[0]?).bind fun v30=>((v30).asAgg 2).bind fun l31=>(l31[0]?).bind fun v32=>((v32).asSl).bind fun s33=>(l31[1]?).bind fun v34=>((v34).asSl).bind fun s35=>(l29[1]?).bind fun v36=>((v36).asB).bind fun b37=>(Hp.new r28.2 [.sl ⟨none,0,.ex 0⟩,.sl ⟨none,0,.ex 0⟩]).bind fun H38=>(Hp.st H38 r28.2.length 0 (.sl s33)).bind fun H39=>(Hp.st H39 r28.2.length (0 + 1) (.sl s35)).bind fun H40=>(bif (!b37) then ((Hp.st H40 H3.length 0 (.sl (⟨none,0,.ex 0⟩:Sl))).bind fun H41=>(Hp.st H41 H3.length (0 + 1) (.sl (⟨none,0,.ex 0⟩:Sl))).bind fun H42=>(Hp.ldSl H42 H3.length 0).bind fun s43=>(Hp.ldSl H42 H3.length (0 + 1)).bind fun s44=>some ((.tup [(.agg [(.sl s43),(.sl s44)]),(.bool false)]),H42)) else ((Hp.ldSl H40 H.length 0).bind fun s45=>(Hp.ldI H40 .i64 H.length (0 + 1)).bind fun n46=>(Hp.ldSl H40 r28.2.length 0).bind fun s47=>(Hp.ldSl H40 r28.2.length (0 + 1)).bind fun s48=>(hX s45 n46 s47 s48 H40).bind fun r49=>((r49.1).asSl).bind fun s50=>(if Cons H40 r49.2 then ((hY s50 r49.2).bind fun r51=>((r51.1).asI .i64).bind fun n52=>(if Cons r49.2 r51.2 then ((Hp.ldSl r51.2 H.length 0).bind fun s53=>(Hp.ldI r51.2 .i64 H.length (0 + 1)).bind fun n54=>(Hp.ldSl r51.2 r28.2.length 0).bind fun s55=>(Hp.ldSl r51.2 r28.2.length (0 + 1)).bind fun s56=>(hZ s53 n54 s55 s56 r51.2).bind fun r57=>((r57.1).asSl).bind fun s58=>(cq s58 r57.2).bind fun r59=>((r59.1).asI .i64).bind fun n60=>(bif (n52 != (IntKind.i64.wrap (n7 + (IntKind.i64.wrap (2 * n60))))) then ((Hp.st r59.2 H3.length 0 (.sl (⟨none,0,.ex 0⟩:Sl))).bind fun H61=>(Hp.st H61 H3.length (0 + 1) (.sl (⟨none,0,.ex 0⟩:Sl))).bind fun H62=>(Hp.ldSl H62 H3.length 0).bind fun s63=>(Hp.ldSl H62 H3.length (0 + 1)).bind fun s64=>some ((.tup [(.agg [(.sl s63),(.sl s64)]),(.bool false)]),H62)) else ((Hp.ldSl r59.2 r28.2.length 0).bind fun s65=>(Hp.ldSl r59.2 r28.2.length (0 + 1)).bind fun s66=>(Hp.st r59.2 H3.length 0 (.sl s65)).bind fun H67=>(Hp.st H67 H3.length (0 + 1) (.sl s66)).bind fun H68=>(Hp.ldSl H68 H3.length 0).bind fun s69=>(Hp.ldSl H68 H3.length (0 + 1)).bind fun s70=>some ((.tup [(.agg [(.sl s69),(.sl s70)]),(.bool true)]),H68)))) else none)) else none)))))))))
noncomputable def bk.tw (F:Nat) (aa:Sl) (ab:Int) (H:Hp):OA:=bk.twX F (aG.tw F) (aO.tw F) (bv.tw F) (au.tw F) (ak.tw F) (bL.tw F) (aM.tw F) (bg.tw F) aa ab H
noncomputable def bk.code:Go.Code:=(Try.f69.body).getD .skip
noncomputable def bk.lh (F:Nat) (bc:Sl→Hp→OA) (bW:Int→Int→Int→Hp→OA) (hT:Sl→Hp→OA) (hU:Sl→Int→Hp→OA) (hX:Sl→Int→Sl→Sl→Hp→OA) (hY:Sl→Hp→OA) (hZ:Sl→Int→Sl→Sl→Hp→OA) (cq:Sl→Hp→OA) (p:Nat) (ks:List Nat) (n:Nat) (tm:Tm) (H:Hp):OA:=none
def bk.pn:Nat→List Nat:=fun i=>(([(5,[10,11])]:List (Nat×List Nat)).lookup i).getD []
def bk.tb:Nat→List (List Nat):=fun i=>(([(5,[[],[0],[0,1],[0,1,2],[0,1,2],[0,1,2,3,4],[0,1,2,3,4,5],[0,1,2],[0,1,2],[0,1,2],[0,1,2,3,4,5,6,8,9],[0,1,2,3,4,5,6,8,9,10],[0,1,2,3,4,5,6,8,9,10,11],[0,1,2,3,4,5,6,7,8,9,10,11,12],[0,1,2,3,4,5,6,7,8,9,10,11,12,13],[0,1,2,3,4,5,6,7,8,9,10,11,12,13,14]])]:List (Nat×List (List Nat))).lookup i).getD []
noncomputable def bk.mk (g:Sl→Int→Hp→OA) (args:List AV) (H:Hp):OA:=match args with
 | [(.agg [(.sl aa),(.int .i64 ab)])]=>g aa ab H
 | _=>none
noncomputable def bk.cs (F:Nat) (bc:Sl→Hp→OA) (bW:Int→Int→Int→Hp→OA) (hT:Sl→Hp→OA) (hU:Sl→Int→Hp→OA) (hX:Sl→Int→Sl→Sl→Hp→OA) (hY:Sl→Hp→OA) (hZ:Sl→Int→Sl→Sl→Hp→OA) (cq:Sl→Hp→OA):List (FuncId×(List AV→Hp→OA)):=[(117,aG.mk bc),(81,aO.mk bW),(123,bv.mk hT),(125,au.mk hU),(103,ak.mk hX),(89,bL.mk hY),(126,aM.mk hZ),(120,bg.mk cq)]
theorem bk.loops (F:Nat) (bc:Sl→Hp→OA) (bW:Int→Int→Int→Hp→OA) (hT:Sl→Hp→OA) (hU:Sl→Int→Hp→OA) (hX:Sl→Int→Sl→Sl→Hp→OA) (hY:Sl→Hp→OA) (hZ:Sl→Int→Sl→Sl→Hp→OA) (cq:Sl→Hp→OA):LoopsOk tabs (mkOrc (bk.cs F bc bW hT hU hX hY hZ cq)) bk.pn (bk.lh F bc bW hT hU hX hY hZ cq) F [] 1 bk.code (fun tm H=>aresults tabs.ty H tm Try.f69.results.toList fun v=>some (v,H)) (fun _ _ _=>none) (fun tm H=>aresults tabs.ty H tm Try.f69.results.toList fun v=>some (v,H)):=by
 exact loops_none (by kernel_rfl)
theorem bk.eqX (F:Nat) (bc:Sl→Hp→OA) (bW:Int→Int→Int→Hp→OA) (hT:Sl→Hp→OA) (hU:Sl→Int→Hp→OA) (hX:Sl→Int→Sl→Sl→Hp→OA) (hY:Sl→Hp→OA) (hZ:Sl→Int→Sl→Sl→Hp→OA) (cq:Sl→Hp→OA) (aa:Sl) (ab:Int) (H:Hp):aCode tabs (mkOrc (bk.cs F bc bW hT hU hX hY hZ cq)) bk.pn (bk.lh F bc bW hT hU hX hY hZ cq) F [] 1 bk.code (argTm [(.agg [(.sl aa),(.int .i64 ab)])]) H (fun tm H=>aresults tabs.ty H tm Try.f69.results.toList fun v=>some (v,H)) (fun _ _ _=>none) (fun tm H=>aresults tabs.ty H tm Try.f69.results.toList fun v=>some (v,H)) = bk.twX F bc bW hT hU hX hY hZ cq aa ab H:=by kernel_rfl
theorem bk.cs_ok (F:Nat):∀ p ∈ bk.cs F (aG.tw F) (aO.tw F) (bv.tw F) (au.tw F) (ak.tw F) (bL.tw F) (aM.tw F) (bg.tw F),∀ args H v H',p.2 args H = some (v,H')→Go.AE.T Try.prog p.1 args H v H':=by
 intro p hp
 simp only [bk.cs,List.mem_cons,List.not_mem_nil,or_false] at hp
 rcases hp with rfl | rfl | rfl | rfl | rfl | rfl | rfl | rfl
 ·exact fun args H v H' h=>aG.mk_T h
 ·exact fun args H v H' h=>aO.mk_T h
 ·exact fun args H v H' h=>bv.mk_T h
 ·exact fun args H v H' h=>au.mk_T h
 ·exact fun args H v H' h=>ak.mk_T h
 ·exact fun args H v H' h=>bL.mk_T h
 ·exact fun args H v H' h=>aM.mk_T h
 ·exact fun args H v H' h=>bg.mk_T h
theorem bk.ok:codeOk bk.pn Try.f69.ntmps bk.tb bk.code = true:=by kernel_rfl
theorem bk.T {F:Nat} {aa:Sl} {ab:Int} {H:Hp} {v:AV} {H':Hp} (h:bk.tw F aa ab H = some (v,H')):Go.AE.T Try.prog 69 [(.agg [(.sl aa),(.int .i64 ab)])] H v H':=
 Go.AE.T.of (Y:=tabs) (C:=mkOrc (bk.cs F (aG.tw F) (aO.tw F) (bv.tw F) (au.tw F) (ak.tw F) (bL.tw F) (aM.tw F) (bg.tw F))) (PN:=bk.pn) (LH:=bk.lh F (aG.tw F) (aO.tw F) (bv.tw F) (au.tw F) (ak.tw F) (bL.tw F) (aM.tw F) (bg.tw F)) (F:=F) (TB:=bk.tb) (fn:=Try.f69) (code:=bk.code) mixed tabs_ok (mkOrc_ok (bk.cs_ok F)) Try.func69 (by kernel_rfl) (by kernel_rfl) bk.ok (Nat.le_of_ble_eq_true (by kernel_rfl)) (bk.loops F (aG.tw F) (aO.tw F) (bv.tw F) (au.tw F) (ak.tw F) (bL.tw F) (aM.tw F) (bg.tw F)) (Eq.trans (bk.eqX F (aG.tw F) (aO.tw F) (bv.tw F) (au.tw F) (ak.tw F) (bL.tw F) (aM.tw F) (bg.tw F) aa ab H) h)
theorem bk.mk_T {F:Nat} {args:List AV} {H:Hp} {v:AV} {H':Hp} (h:bk.mk (bk.tw F) args H = some (v,H')):Go.AE.T Try.prog 69 args H v H':=by
 unfold bk.mk at h
 split at h
 ·exact bk.T h
 ·cases h
noncomputable def br.twX (F:Nat) (h_:Sl→Int→Hp→OA) (aa:Sl) (ab:Int) (H:Hp):OA:=(Hp.new H [(.sl aa),(.int .i64 ab)]).bind fun H3=>(Hp.ldSl H3 H.length 0).bind fun s4=>(Hp.ldI H3 .i64 H.length (0 + 1)).bind fun n5=>(h_ s4 n5 H3).bind fun r6=>((r6.1).asTup 2).bind fun l7=>(l7[0]?).bind fun v8=>((v8).asAgg 2).bind fun l9=>(l9[0]?).bind fun v10=>((v10).asSl).bind fun s11=>(l9[1]?).bind fun v12=>((v12).asSl).bind fun s13=>(l7[1]?).bind fun v14=>((v14).asB).bind fun b15=>(Hp.new r6.2 [.sl ⟨none,0,.ex 0⟩,.sl ⟨none,0,.ex 0⟩]).bind fun H16=>(Hp.st H16 r6.2.length 0 (.sl s11)).bind fun H17=>(Hp.st H17 r6.2.length (0 + 1) (.sl s13)).bind fun H18=>some ((.bool b15),H18)
noncomputable def br.tw (F:Nat) (aa:Sl) (ab:Int) (H:Hp):OA:=br.twX F (bk.tw F) aa ab H
noncomputable def br.code:Go.Code:=(Try.f61.body).getD .skip
noncomputable def br.lh (F:Nat) (h_:Sl→Int→Hp→OA) (p:Nat) (ks:List Nat) (n:Nat) (tm:Tm) (H:Hp):OA:=none
def br.pn:Nat→List Nat:=fun i=>(([]:List (Nat×List Nat)).lookup i).getD []
def br.tb:Nat→List (List Nat):=fun i=>(([]:List (Nat×List (List Nat))).lookup i).getD []
noncomputable def br.mk (g:Sl→Int→Hp→OA) (args:List AV) (H:Hp):OA:=match args with
 | [(.agg [(.sl aa),(.int .i64 ab)])]=>g aa ab H
 | _=>none
noncomputable def br.cs (F:Nat) (h_:Sl→Int→Hp→OA):List (FuncId×(List AV→Hp→OA)):=[(69,bk.mk h_)]
theorem br.loops (F:Nat) (h_:Sl→Int→Hp→OA):LoopsOk tabs (mkOrc (br.cs F h_)) br.pn (br.lh F h_) F [] 1 br.code (fun tm H=>aresults tabs.ty H tm Try.f61.results.toList fun v=>some (v,H)) (fun _ _ _=>none) (fun tm H=>aresults tabs.ty H tm Try.f61.results.toList fun v=>some (v,H)):=by
 exact loops_none (by kernel_rfl)
theorem br.eqX (F:Nat) (h_:Sl→Int→Hp→OA) (aa:Sl) (ab:Int) (H:Hp):aCode tabs (mkOrc (br.cs F h_)) br.pn (br.lh F h_) F [] 1 br.code (argTm [(.agg [(.sl aa),(.int .i64 ab)])]) H (fun tm H=>aresults tabs.ty H tm Try.f61.results.toList fun v=>some (v,H)) (fun _ _ _=>none) (fun tm H=>aresults tabs.ty H tm Try.f61.results.toList fun v=>some (v,H)) = br.twX F h_ aa ab H:=by kernel_rfl
theorem br.cs_ok (F:Nat):∀ p ∈ br.cs F (bk.tw F),∀ args H v H',p.2 args H = some (v,H')→Go.AE.T Try.prog p.1 args H v H':=by
 intro p hp
 simp only [br.cs,List.mem_cons,List.not_mem_nil,or_false] at hp
 subst hp
 exact fun args H v H' h=>bk.mk_T h
theorem br.ok:codeOk br.pn Try.f61.ntmps br.tb br.code = true:=by kernel_rfl
theorem br.T {F:Nat} {aa:Sl} {ab:Int} {H:Hp} {v:AV} {H':Hp} (h:br.tw F aa ab H = some (v,H')):Go.AE.T Try.prog 61 [(.agg [(.sl aa),(.int .i64 ab)])] H v H':=
 Go.AE.T.of (Y:=tabs) (C:=mkOrc (br.cs F (bk.tw F))) (PN:=br.pn) (LH:=br.lh F (bk.tw F)) (F:=F) (TB:=br.tb) (fn:=Try.f61) (code:=br.code) mixed tabs_ok (mkOrc_ok (br.cs_ok F)) Try.func61 (by kernel_rfl) (by kernel_rfl) br.ok (Nat.le_of_ble_eq_true (by kernel_rfl)) (br.loops F (bk.tw F)) (Eq.trans (br.eqX F (bk.tw F) aa ab H) h)
theorem br.mk_T {F:Nat} {args:List AV} {H:Hp} {v:AV} {H':Hp} (h:br.mk (br.tw F) args H = some (v,H')):Go.AE.T Try.prog 61 args H v H':=by
 unfold br.mk at h
 split at h
 ·exact br.T h
 ·cases h
noncomputable def bw.twX (F:Nat) (bW:Int→Int→Int→Hp→OA) (aa:Int) (H:Hp):OA:=(bW aa 1 30 H).bind fun r2=>((r2.1).asB).bind fun b3=>some ((.bool b3),r2.2)
noncomputable def bw.tw (F:Nat) (aa:Int) (H:Hp):OA:=bw.twX F (aO.tw F) aa H
noncomputable def bw.code:Go.Code:=(Try.f78.body).getD .skip
noncomputable def bw.lh (F:Nat) (bW:Int→Int→Int→Hp→OA) (p:Nat) (ks:List Nat) (n:Nat) (tm:Tm) (H:Hp):OA:=none
def bw.pn:Nat→List Nat:=fun i=>(([]:List (Nat×List Nat)).lookup i).getD []
def bw.tb:Nat→List (List Nat):=fun i=>(([]:List (Nat×List (List Nat))).lookup i).getD []
noncomputable def bw.mk (g:Int→Hp→OA) (args:List AV) (H:Hp):OA:=match args with
 | [(.int .i64 aa)]=>g aa H
 | _=>none
noncomputable def bw.cs (F:Nat) (bW:Int→Int→Int→Hp→OA):List (FuncId×(List AV→Hp→OA)):=[(81,aO.mk bW)]
theorem bw.loops (F:Nat) (bW:Int→Int→Int→Hp→OA):LoopsOk tabs (mkOrc (bw.cs F bW)) bw.pn (bw.lh F bW) F [] 1 bw.code (fun tm H=>aresults tabs.ty H tm Try.f78.results.toList fun v=>some (v,H)) (fun _ _ _=>none) (fun tm H=>aresults tabs.ty H tm Try.f78.results.toList fun v=>some (v,H)):=by
 exact loops_none (by kernel_rfl)
theorem bw.eqX (F:Nat) (bW:Int→Int→Int→Hp→OA) (aa:Int) (H:Hp):aCode tabs (mkOrc (bw.cs F bW)) bw.pn (bw.lh F bW) F [] 1 bw.code (argTm [(.int .i64 aa)]) H (fun tm H=>aresults tabs.ty H tm Try.f78.results.toList fun v=>some (v,H)) (fun _ _ _=>none) (fun tm H=>aresults tabs.ty H tm Try.f78.results.toList fun v=>some (v,H)) = bw.twX F bW aa H:=by kernel_rfl
theorem bw.cs_ok (F:Nat):∀ p ∈ bw.cs F (aO.tw F),∀ args H v H',p.2 args H = some (v,H')→Go.AE.T Try.prog p.1 args H v H':=by
 intro p hp
 simp only [bw.cs,List.mem_cons,List.not_mem_nil,or_false] at hp
 subst hp
 exact fun args H v H' h=>aO.mk_T h
theorem bw.ok:codeOk bw.pn Try.f78.ntmps bw.tb bw.code = true:=by kernel_rfl
theorem bw.T {F:Nat} {aa:Int} {H:Hp} {v:AV} {H':Hp} (h:bw.tw F aa H = some (v,H')):Go.AE.T Try.prog 78 [(.int .i64 aa)] H v H':=
 Go.AE.T.of (Y:=tabs) (C:=mkOrc (bw.cs F (aO.tw F))) (PN:=bw.pn) (LH:=bw.lh F (aO.tw F)) (F:=F) (TB:=bw.tb) (fn:=Try.f78) (code:=bw.code) mixed tabs_ok (mkOrc_ok (bw.cs_ok F)) Try.func78 (by kernel_rfl) (by kernel_rfl) bw.ok (Nat.le_of_ble_eq_true (by kernel_rfl)) (bw.loops F (aO.tw F)) (Eq.trans (bw.eqX F (aO.tw F) aa H) h)
theorem bw.mk_T {F:Nat} {args:List AV} {H:Hp} {v:AV} {H':Hp} (h:bw.mk (bw.tw F) args H = some (v,H')):Go.AE.T Try.prog 78 args H v H':=by
 unfold bw.mk at h
 split at h
 ·exact bw.T h
 ·cases h
noncomputable def bx.twX (F:Nat) (bW:Int→Int→Int→Hp→OA) (aa:Int) (ad:Nat) (af:Nat) (H:Hp):OA:=(Hp.ldI H .i64 ad af).bind fun n4=>(bW aa 0 (IntKind.i64.wrap (n4 - 1)) H).bind fun r5=>((r5.1).asB).bind fun b6=>some ((.bool (!b6)),r5.2)
noncomputable def bx.tw (F:Nat) (aa:Int) (ad:Nat) (af:Nat) (H:Hp):OA:=bx.twX F (aO.tw F) aa ad af H
noncomputable def bx.code:Go.Code:=(Try.f80.body).getD .skip
noncomputable def bx.lh (F:Nat) (bW:Int→Int→Int→Hp→OA) (p:Nat) (ks:List Nat) (n:Nat) (tm:Tm) (H:Hp):OA:=none
def bx.pn:Nat→List Nat:=fun i=>(([]:List (Nat×List Nat)).lookup i).getD []
def bx.tb:Nat→List (List Nat):=fun i=>(([]:List (Nat×List (List Nat))).lookup i).getD []
noncomputable def bx.mk (g:Int→Nat→Nat→Hp→OA) (args:List AV) (H:Hp):OA:=match args with
 | [(.int .i64 aa),(.ptr ad af)]=>g aa ad af H
 | _=>none
noncomputable def bx.cs (F:Nat) (bW:Int→Int→Int→Hp→OA):List (FuncId×(List AV→Hp→OA)):=[(81,aO.mk bW)]
theorem bx.loops (F:Nat) (bW:Int→Int→Int→Hp→OA):LoopsOk tabs (mkOrc (bx.cs F bW)) bx.pn (bx.lh F bW) F [] 1 bx.code (fun tm H=>aresults tabs.ty H tm Try.f80.results.toList fun v=>some (v,H)) (fun _ _ _=>none) (fun tm H=>aresults tabs.ty H tm Try.f80.results.toList fun v=>some (v,H)):=by
 exact loops_none (by kernel_rfl)
theorem bx.eqX (F:Nat) (bW:Int→Int→Int→Hp→OA) (aa:Int) (ad:Nat) (af:Nat) (H:Hp):aCode tabs (mkOrc (bx.cs F bW)) bx.pn (bx.lh F bW) F [] 1 bx.code (argTm [(.int .i64 aa),(.ptr ad af)]) H (fun tm H=>aresults tabs.ty H tm Try.f80.results.toList fun v=>some (v,H)) (fun _ _ _=>none) (fun tm H=>aresults tabs.ty H tm Try.f80.results.toList fun v=>some (v,H)) = bx.twX F bW aa ad af H:=by kernel_rfl
theorem bx.cs_ok (F:Nat):∀ p ∈ bx.cs F (aO.tw F),∀ args H v H',p.2 args H = some (v,H')→Go.AE.T Try.prog p.1 args H v H':=by
 intro p hp
 simp only [bx.cs,List.mem_cons,List.not_mem_nil,or_false] at hp
 subst hp
 exact fun args H v H' h=>aO.mk_T h
theorem bx.ok:codeOk bx.pn Try.f80.ntmps bx.tb bx.code = true:=by kernel_rfl
theorem bx.T {F:Nat} {aa:Int} {ad:Nat} {af:Nat} {H:Hp} {v:AV} {H':Hp} (h:bx.tw F aa ad af H = some (v,H')):Go.AE.T Try.prog 80 [(.int .i64 aa),(.ptr ad af)] H v H':=
 Go.AE.T.of (Y:=tabs) (C:=mkOrc (bx.cs F (aO.tw F))) (PN:=bx.pn) (LH:=bx.lh F (aO.tw F)) (F:=F) (TB:=bx.tb) (fn:=Try.f80) (code:=bx.code) mixed tabs_ok (mkOrc_ok (bx.cs_ok F)) Try.func80 (by kernel_rfl) (by kernel_rfl) bx.ok (Nat.le_of_ble_eq_true (by kernel_rfl)) (bx.loops F (aO.tw F)) (Eq.trans (bx.eqX F (aO.tw F) aa ad af H) h)
theorem bx.mk_T {F:Nat} {args:List AV} {H:Hp} {v:AV} {H':Hp} (h:bx.mk (bx.tw F) args H = some (v,H')):Go.AE.T Try.prog 80 args H v H':=by
 unfold bx.mk at h
 split at h
 ·exact bx.T h
 ·cases h
noncomputable def aQ.l13 (F:Nat) (ek:Int→Nat→Nat→Hp→OA) :Nat→Sl→Nat→Nat→Int→Int→Hp→OA
 | 0,_,_,_,_,_,_=>none
 | fZ + 1,gI,ad,af,fg,ct,H8=>(bif (decide (ct < fg)) then ((Sl.idx gI ct 1).bind fun p13=>(Hp.ldI H8 .i64 p13.1 p13.2).bind fun n14=>(ek n14 ad af H8).bind fun r15=>((r15.1).asB).bind fun b16=>(bif b16 then (some ((.int .i64 ct),r15.2)) else (aQ.l13 F ek fZ gI ad af fg (IntKind.i64.wrap (ct + 1)) r15.2))) else (some ((.int .i64 (-1)),H8)))
termination_by structural n=>n
noncomputable def aQ.twX (F:Nat) (ek:Int→Nat→Nat→Hp→OA) (aa:Sl) (ad:Nat) (af:Nat) (H:Hp):OA:=aQ.l13 F ek F aa ad af (aa.n:Int) 0 H
noncomputable def aQ.tw (F:Nat) (aa:Sl) (ad:Nat) (af:Nat) (H:Hp):OA:=aQ.twX F (bx.tw F) aa ad af H
noncomputable def aQ.code:Go.Code:=(Try.f132.body).getD .skip
noncomputable def aQ.lh13 (F:Nat) (ek:Int→Nat→Nat→Hp→OA) (ks:List Nat) (n:Nat) (tm:Tm) (H:Hp):OA:=match ks,tm 0,tm 1,tm 7,tm 8 with
 | [],(.sl gI),(.fn 80 [(.ptr ad af)]),(.int .i64 fg),(.int .i64 ct)=>aQ.l13 F ek n gI ad af fg ct H
 | _,_,_,_,_=>none
theorem aQ.lh13_inv {F:Nat} {ek:Int→Nat→Nat→Hp→OA} {ks:List Nat} {n:Nat} {tm:Tm} {H:Hp} {r:AV×Hp} (h:aQ.lh13 F ek ks n tm H = some r):∃ gI:Sl,∃ ad:Nat,∃ af:Nat,∃ fg:Int,∃ ct:Int,ks = []∧tm 0 = (.sl gI)∧tm 1 = (.fn 80 [(.ptr ad af)])∧tm 7 = (.int .i64 fg)∧tm 8 = (.int .i64 ct)∧aQ.l13 F ek n gI ad af fg ct H = some r:=by
 unfold aQ.lh13 at h
 split at h
 ·exact ⟨_,_,_,_,_,rfl,by assumption,by assumption,by assumption,by assumption,h⟩
 ·cases h
noncomputable def aQ.lh (F:Nat) (ek:Int→Nat→Nat→Hp→OA) (p:Nat) (ks:List Nat) (n:Nat) (tm:Tm) (H:Hp):OA:=bif p.beq 13 then aQ.lh13 F ek ks n tm H else (none)
def aQ.pn:Nat→List Nat:=fun i=>(([]:List (Nat×List Nat)).lookup i).getD []
def aQ.tb:Nat→List (List Nat):=fun i=>(([]:List (Nat×List (List Nat))).lookup i).getD []
noncomputable def aQ.mk (g:Sl→Nat→Nat→Hp→OA) (args:List AV) (H:Hp):OA:=match args with
 | [(.sl aa),(.fn 80 [(.ptr ad af)])]=>g aa ad af H
 | _=>none
noncomputable def aQ.cs (F:Nat) (ek:Int→Nat→Nat→Hp→OA):List (FuncId×(List AV→Hp→OA)):=[(80,bx.mk ek)]
theorem aQ.loops (F:Nat) (ek:Int→Nat→Nat→Hp→OA):LoopsOk tabs (mkOrc (aQ.cs F ek)) aQ.pn (aQ.lh F ek) F [] 1 aQ.code (fun tm H=>aresults tabs.ty H tm Try.f132.results.toList fun v=>some (v,H)) (fun _ _ _=>none) (fun tm H=>aresults tabs.ty H tm Try.f132.results.toList fun v=>some (v,H)):=by
 refine LoopsOk.seq ?_ ?_
 ·exact loops_none (by kernel_rfl)
 ·refine LoopsOk.seq ?_ ?_
  ·refine LoopsOk.seq ?_ ?_
   ·exact loops_none (by kernel_rfl)
   ·refine LoopsOk.block ?_
    refine LoopsOk.loop (fun tm H=>?_) (fun k13 tm H r h0=>?_) (fun k13=>?_)
    ·refine none_of fun r h0=>?_
     obtain ⟨gI,ad,af,fg,ct,hks,e0,e1,e7,e8,h⟩:=aQ.lh13_inv (show aQ.lh13 F ek [] 0 tm H = some r from h0)
     cases h
    ·obtain ⟨gI,ad,af,fg,ct,hks,e0,e1,e7,e8,h⟩:=aQ.lh13_inv (show aQ.lh13 F ek [] (k13 + 1) tm H = some r from h0)
     have q0:(Tm.put tm 0 (.sl gI)) = tm:=by exact Tm.put_same e0
     have q1:(Tm.put (Tm.put tm 0 (.sl gI)) 1 (.fn 80 [(.ptr ad af)])) = tm:=by rw [q0]; exact Tm.put_same e1
     have q2:(Tm.put (Tm.put (Tm.put tm 0 (.sl gI)) 1 (.fn 80 [(.ptr ad af)])) 7 (.int .i64 fg)) = tm:=by rw [q1]; exact Tm.put_same e7
     have q3:(Tm.put (Tm.put (Tm.put (Tm.put tm 0 (.sl gI)) 1 (.fn 80 [(.ptr ad af)])) 7 (.int .i64 fg)) 8 (.int .i64 ct)) = tm:=by rw [q2]; exact Tm.put_same e8
     rw [← q3]
     exact Eq.trans (by kernel_rfl) h
    ·exact loops_none (by kernel_rfl)
  ·exact loops_none (by kernel_rfl)
theorem aQ.eqX (F:Nat) (ek:Int→Nat→Nat→Hp→OA) (aa:Sl) (ad:Nat) (af:Nat) (H:Hp):aCode tabs (mkOrc (aQ.cs F ek)) aQ.pn (aQ.lh F ek) F [] 1 aQ.code (argTm [(.sl aa),(.fn 80 [(.ptr ad af)])]) H (fun tm H=>aresults tabs.ty H tm Try.f132.results.toList fun v=>some (v,H)) (fun _ _ _=>none) (fun tm H=>aresults tabs.ty H tm Try.f132.results.toList fun v=>some (v,H)) = aQ.twX F ek aa ad af H:=by kernel_rfl
theorem aQ.cs_ok (F:Nat):∀ p ∈ aQ.cs F (bx.tw F),∀ args H v H',p.2 args H = some (v,H')→Go.AE.T Try.prog p.1 args H v H':=by
 intro p hp
 simp only [aQ.cs,List.mem_cons,List.not_mem_nil,or_false] at hp
 subst hp
 exact fun args H v H' h=>bx.mk_T h
theorem aQ.ok:codeOk aQ.pn Try.f132.ntmps aQ.tb aQ.code = true:=by kernel_rfl
theorem aQ.T {F:Nat} {aa:Sl} {ad:Nat} {af:Nat} {H:Hp} {v:AV} {H':Hp} (h:aQ.tw F aa ad af H = some (v,H')):Go.AE.T Try.prog 132 [(.sl aa),(.fn 80 [(.ptr ad af)])] H v H':=
 Go.AE.T.of (Y:=tabs) (C:=mkOrc (aQ.cs F (bx.tw F))) (PN:=aQ.pn) (LH:=aQ.lh F (bx.tw F)) (F:=F) (TB:=aQ.tb) (fn:=Try.f132) (code:=aQ.code) mixed tabs_ok (mkOrc_ok (aQ.cs_ok F)) Try.func132 (by kernel_rfl) (by kernel_rfl) aQ.ok (Nat.le_of_ble_eq_true (by kernel_rfl)) (aQ.loops F (bx.tw F)) (Eq.trans (aQ.eqX F (bx.tw F) aa ad af H) h)
theorem aQ.mk_T {F:Nat} {args:List AV} {H:Hp} {v:AV} {H':Hp} (h:aQ.mk (aQ.tw F) args H = some (v,H')):Go.AE.T Try.prog 132 args H v H':=by
 unfold aQ.mk at h
 split at h
 ·exact aQ.T h
 ·cases h
noncomputable def bz.twX (F:Nat) (ia:Sl→Nat→Nat→Hp→OA) (aa:Sl) (ad:Nat) (af:Nat) (H:Hp):OA:=(ia aa ad af H).bind fun r4=>((r4.1).asI .i64).bind fun n5=>some ((.bool (decide (n5 ≥ 0))),r4.2)
noncomputable def bz.tw (F:Nat) (aa:Sl) (ad:Nat) (af:Nat) (H:Hp):OA:=bz.twX F (aQ.tw F) aa ad af H
noncomputable def bz.code:Go.Code:=(Try.f79.body).getD .skip
noncomputable def bz.lh (F:Nat) (ia:Sl→Nat→Nat→Hp→OA) (p:Nat) (ks:List Nat) (n:Nat) (tm:Tm) (H:Hp):OA:=none
def bz.pn:Nat→List Nat:=fun i=>(([]:List (Nat×List Nat)).lookup i).getD []
def bz.tb:Nat→List (List Nat):=fun i=>(([]:List (Nat×List (List Nat))).lookup i).getD []
noncomputable def bz.mk (g:Sl→Nat→Nat→Hp→OA) (args:List AV) (H:Hp):OA:=match args with
 | [(.sl aa),(.fn 80 [(.ptr ad af)])]=>g aa ad af H
 | _=>none
noncomputable def bz.cs (F:Nat) (ia:Sl→Nat→Nat→Hp→OA):List (FuncId×(List AV→Hp→OA)):=[(132,aQ.mk ia)]
theorem bz.loops (F:Nat) (ia:Sl→Nat→Nat→Hp→OA):LoopsOk tabs (mkOrc (bz.cs F ia)) bz.pn (bz.lh F ia) F [] 1 bz.code (fun tm H=>aresults tabs.ty H tm Try.f79.results.toList fun v=>some (v,H)) (fun _ _ _=>none) (fun tm H=>aresults tabs.ty H tm Try.f79.results.toList fun v=>some (v,H)):=by
 exact loops_none (by kernel_rfl)
theorem bz.eqX (F:Nat) (ia:Sl→Nat→Nat→Hp→OA) (aa:Sl) (ad:Nat) (af:Nat) (H:Hp):aCode tabs (mkOrc (bz.cs F ia)) bz.pn (bz.lh F ia) F [] 1 bz.code (argTm [(.sl aa),(.fn 80 [(.ptr ad af)])]) H (fun tm H=>aresults tabs.ty H tm Try.f79.results.toList fun v=>some (v,H)) (fun _ _ _=>none) (fun tm H=>aresults tabs.ty H tm Try.f79.results.toList fun v=>some (v,H)) = bz.twX F ia aa ad af H:=by kernel_rfl
theorem bz.cs_ok (F:Nat):∀ p ∈ bz.cs F (aQ.tw F),∀ args H v H',p.2 args H = some (v,H')→Go.AE.T Try.prog p.1 args H v H':=by
 intro p hp
 simp only [bz.cs,List.mem_cons,List.not_mem_nil,or_false] at hp
 subst hp
 exact fun args H v H' h=>aQ.mk_T h
theorem bz.ok:codeOk bz.pn Try.f79.ntmps bz.tb bz.code = true:=by kernel_rfl
theorem bz.T {F:Nat} {aa:Sl} {ad:Nat} {af:Nat} {H:Hp} {v:AV} {H':Hp} (h:bz.tw F aa ad af H = some (v,H')):Go.AE.T Try.prog 79 [(.sl aa),(.fn 80 [(.ptr ad af)])] H v H':=
 Go.AE.T.of (Y:=tabs) (C:=mkOrc (bz.cs F (aQ.tw F))) (PN:=bz.pn) (LH:=bz.lh F (aQ.tw F)) (F:=F) (TB:=bz.tb) (fn:=Try.f79) (code:=bz.code) mixed tabs_ok (mkOrc_ok (bz.cs_ok F)) Try.func79 (by kernel_rfl) (by kernel_rfl) bz.ok (Nat.le_of_ble_eq_true (by kernel_rfl)) (bz.loops F (aQ.tw F)) (Eq.trans (bz.eqX F (aQ.tw F) aa ad af H) h)
theorem bz.mk_T {F:Nat} {args:List AV} {H:Hp} {v:AV} {H':Hp} (h:bz.mk (bz.tw F) args H = some (v,H')):Go.AE.T Try.prog 79 args H v H':=by
 unfold bz.mk at h
 split at h
 ·exact bz.T h
 ·cases h
noncomputable def aD.j1 (F:Nat) (bc:Sl→Hp→OA) (bX:Int→Hp→OA) (bY:Sl→Int→Int→Hp→OA) (bZ:Sl→Hp→OA) (cq:Sl→Hp→OA) (px:Nat) (Cm:Nat) (Cn:Sl) (H47:Hp):OA:=(bZ Cn H47).bind fun r48=>((r48.1).asSl).bind fun s49=>(cq s49 r48.2).bind fun r50=>((r50.1).asI .i64).bind fun n51=>(if Cons r48.2 r50.2 then ((Hp.ldI r50.2 .i64 px (Cm + 1)).bind fun n52=>some ((.tup [(.sl s49),(.int .i64 (IntKind.i64.wrap (n51 + n52)))]),r50.2)) else none)
noncomputable def aD.l29 (F:Nat) (bc:Sl→Hp→OA) (bX:Int→Hp→OA) (bY:Sl→Int→Int→Hp→OA) (bZ:Sl→Hp→OA) (cq:Sl→Hp→OA) :Nat→Nat→Nat→Sl→Sl→Int→Int→Hp→OA
 | 0,_,_,_,_,_,_,_=>none
 | cZ + 1,fh,gv,gw,gW,fi,eR,H20=>(bif (decide (eR < fi)) then ((Sl.idx gW eR 5).bind fun p53=>(Hp.ldI H20 .i64 p53.1 p53.2).bind fun n54=>(Hp.ldI H20 .i64 p53.1 (p53.2 + 1)).bind fun n55=>(Hp.ldI H20 .i64 p53.1 (p53.2 + 2)).bind fun n56=>(Hp.ldI H20 .i64 p53.1 (p53.2 + 3)).bind fun n57=>(Hp.ldI H20 .i64 p53.1 (p53.2 + 4)).bind fun n58=>(Hp.new H20 [.int .i64 0,.int .i64 0,.int .i64 0,.int .i64 0,.int .i64 0]).bind fun H59=>(Hp.st H59 H20.length 0 (.int .i64 n54)).bind fun H60=>(Hp.st H60 H20.length (0 + 1) (.int .i64 n55)).bind fun H61=>(Hp.st H61 H20.length (0 + 1 + 1) (.int .i64 n56)).bind fun H62=>(Hp.st H62 H20.length (0 + 1 + 1 + 1) (.int .i64 n57)).bind fun H63=>(Hp.st H63 H20.length (0 + 1 + 1 + 1 + 1) (.int .i64 n58)).bind fun H64=>(Hp.ldI H64 .i64 H20.length 1).bind fun n65=>(Hp.ldI H64 .i64 H20.length 3).bind fun n66=>(bY gw n65 n66 H64).bind fun r67=>aD.l29 F bc bX bY bZ cq cZ fh gv gw gW fi (IntKind.i64.wrap (eR + 1)) r67.2) else (aD.j1 F bc bX bY bZ cq fh gv gw H20))
termination_by structural n=>n
noncomputable def aD.twX (F:Nat) (bc:Sl→Hp→OA) (bX:Int→Hp→OA) (bY:Sl→Int→Int→Hp→OA) (bZ:Sl→Hp→OA) (cq:Sl→Hp→OA) (aa:Sl) (ab:Int) (H:Hp):OA:=(Hp.new H [(.sl aa),(.int .i64 ab)]).bind fun H3=>(Hp.ldSl H3 H.length 0).bind fun s4=>(bc s4 H3).bind fun r5=>((r5.1).asI .i64).bind fun n6=>(bX (IntKind.i64.wrap (2 * n6)) r5.2).bind fun r7=>((r7.1).asSl).bind fun s8=>(Hp.ldSl r7.2 H.length 0).bind fun s9=>aD.l29 F bc bX bY bZ cq F H.length 0 s8 s9 (s9.n:Int) 0 r7.2
noncomputable def aD.tw (F:Nat) (aa:Sl) (ab:Int) (H:Hp):OA:=aD.twX F (aG.tw F) (aE.tw F) (ay.tw F) (cg.tw F) (bg.tw F) aa ab H
noncomputable def aD.code:Go.Code:=(Try.f62.body).getD .skip
noncomputable def aD.lh29 (F:Nat) (bc:Sl→Hp→OA) (bX:Int→Hp→OA) (bY:Sl→Int→Int→Hp→OA) (bZ:Sl→Hp→OA) (cq:Sl→Hp→OA) (ks:List Nat) (n:Nat) (tm:Tm) (H:Hp):OA:=match ks,tm 1,tm 4,tm 14,tm 15,tm 16 with
 | [],(.ptr fh gv),(.sl gw),(.sl gW),(.int .i64 fi),(.int .i64 eR)=>aD.l29 F bc bX bY bZ cq n fh gv gw gW fi eR H
 | _,_,_,_,_,_=>none
theorem aD.lh29_inv {F:Nat} {bc:Sl→Hp→OA} {bX:Int→Hp→OA} {bY:Sl→Int→Int→Hp→OA} {bZ:Sl→Hp→OA} {cq:Sl→Hp→OA} {ks:List Nat} {n:Nat} {tm:Tm} {H:Hp} {r:AV×Hp} (h:aD.lh29 F bc bX bY bZ cq ks n tm H = some r):∃ fh:Nat,∃ gv:Nat,∃ gw:Sl,∃ gW:Sl,∃ fi:Int,∃ eR:Int,ks = []∧tm 1 = (.ptr fh gv)∧tm 4 = (.sl gw)∧tm 14 = (.sl gW)∧tm 15 = (.int .i64 fi)∧tm 16 = (.int .i64 eR)∧aD.l29 F bc bX bY bZ cq n fh gv gw gW fi eR H = some r:=by
 unfold aD.lh29 at h
 split at h
 ·exact ⟨_,_,_,_,_,_,rfl,by assumption,by assumption,by assumption,by assumption,by assumption,h⟩
 ·cases h
noncomputable def aD.lh (F:Nat) (bc:Sl→Hp→OA) (bX:Int→Hp→OA) (bY:Sl→Int→Int→Hp→OA) (bZ:Sl→Hp→OA) (cq:Sl→Hp→OA) (p:Nat) (ks:List Nat) (n:Nat) (tm:Tm) (H:Hp):OA:=bif p.beq 29 then aD.lh29 F bc bX bY bZ cq ks n tm H else (none)
def aD.pn:Nat→List Nat:=fun i=>(([(8,[])]:List (Nat×List Nat)).lookup i).getD []
def aD.tb:Nat→List (List Nat):=fun i=>(([(8,[[],[],[1],[],[3],[1,2,3,4],[0,1,2],[0,1,2,3,4,5,6]])]:List (Nat×List (List Nat))).lookup i).getD []
noncomputable def aD.mk (g:Sl→Int→Hp→OA) (args:List AV) (H:Hp):OA:=match args with
 | [(.agg [(.sl aa),(.int .i64 ab)])]=>g aa ab H
 | _=>none
noncomputable def aD.cs (F:Nat) (bc:Sl→Hp→OA) (bX:Int→Hp→OA) (bY:Sl→Int→Int→Hp→OA) (bZ:Sl→Hp→OA) (cq:Sl→Hp→OA):List (FuncId×(List AV→Hp→OA)):=[(117,aG.mk bc),(116,aE.mk bX),(118,ay.mk bY),(119,cg.mk bZ),(120,bg.mk cq)]
theorem aD.loops (F:Nat) (bc:Sl→Hp→OA) (bX:Int→Hp→OA) (bY:Sl→Int→Int→Hp→OA) (bZ:Sl→Hp→OA) (cq:Sl→Hp→OA):LoopsOk tabs (mkOrc (aD.cs F bc bX bY bZ cq)) aD.pn (aD.lh F bc bX bY bZ cq) F [] 1 aD.code (fun tm H=>aresults tabs.ty H tm Try.f62.results.toList fun v=>some (v,H)) (fun _ _ _=>none) (fun tm H=>aresults tabs.ty H tm Try.f62.results.toList fun v=>some (v,H)):=by
 refine LoopsOk.seq ?_ ?_
 ·exact loops_none (by kernel_rfl)
 ·refine LoopsOk.seq ?_ ?_
  ·exact loops_none (by kernel_rfl)
  ·refine LoopsOk.seq ?_ ?_
   ·refine LoopsOk.seq ?_ ?_
    ·exact loops_none (by kernel_rfl)
    ·refine LoopsOk.block ?_
     refine LoopsOk.loop (fun tm H=>?_) (fun k29 tm H r h0=>?_) (fun k29=>?_)
     ·refine none_of fun r h0=>?_
      obtain ⟨fh,gv,gw,gW,fi,eR,hks,e1,e4,e14,e15,e16,h⟩:=aD.lh29_inv (show aD.lh29 F bc bX bY bZ cq [] 0 tm H = some r from h0)
      cases h
     ·obtain ⟨fh,gv,gw,gW,fi,eR,hks,e1,e4,e14,e15,e16,h⟩:=aD.lh29_inv (show aD.lh29 F bc bX bY bZ cq [] (k29 + 1) tm H = some r from h0)
      have q0:(Tm.put tm 1 (.ptr fh gv)) = tm:=by exact Tm.put_same e1
      have q1:(Tm.put (Tm.put tm 1 (.ptr fh gv)) 4 (.sl gw)) = tm:=by rw [q0]; exact Tm.put_same e4
      have q2:(Tm.put (Tm.put (Tm.put tm 1 (.ptr fh gv)) 4 (.sl gw)) 14 (.sl gW)) = tm:=by rw [q1]; exact Tm.put_same e14
      have q3:(Tm.put (Tm.put (Tm.put (Tm.put tm 1 (.ptr fh gv)) 4 (.sl gw)) 14 (.sl gW)) 15 (.int .i64 fi)) = tm:=by rw [q2]; exact Tm.put_same e15
      have q4:(Tm.put (Tm.put (Tm.put (Tm.put (Tm.put tm 1 (.ptr fh gv)) 4 (.sl gw)) 14 (.sl gW)) 15 (.int .i64 fi)) 16 (.int .i64 eR)) = tm:=by rw [q3]; exact Tm.put_same e16
      rw [← q4]
      exact Eq.trans (by kernel_rfl) h
     ·exact loops_none (by kernel_rfl)
   ·exact loops_none (by kernel_rfl)
theorem aD.eqX (F:Nat) (bc:Sl→Hp→OA) (bX:Int→Hp→OA) (bY:Sl→Int→Int→Hp→OA) (bZ:Sl→Hp→OA) (cq:Sl→Hp→OA) (aa:Sl) (ab:Int) (H:Hp):aCode tabs (mkOrc (aD.cs F bc bX bY bZ cq)) aD.pn (aD.lh F bc bX bY bZ cq) F [] 1 aD.code (argTm [(.agg [(.sl aa),(.int .i64 ab)])]) H (fun tm H=>aresults tabs.ty H tm Try.f62.results.toList fun v=>some (v,H)) (fun _ _ _=>none) (fun tm H=>aresults tabs.ty H tm Try.f62.results.toList fun v=>some (v,H)) = aD.twX F bc bX bY bZ cq aa ab H:=by kernel_rfl
theorem aD.cs_ok (F:Nat):∀ p ∈ aD.cs F (aG.tw F) (aE.tw F) (ay.tw F) (cg.tw F) (bg.tw F),∀ args H v H',p.2 args H = some (v,H')→Go.AE.T Try.prog p.1 args H v H':=by
 intro p hp
 simp only [aD.cs,List.mem_cons,List.not_mem_nil,or_false] at hp
 rcases hp with rfl | rfl | rfl | rfl | rfl
 ·exact fun args H v H' h=>aG.mk_T h
 ·exact fun args H v H' h=>aE.mk_T h
 ·exact fun args H v H' h=>ay.mk_T h
 ·exact fun args H v H' h=>cg.mk_T h
 ·exact fun args H v H' h=>bg.mk_T h
theorem aD.ok:codeOk aD.pn Try.f62.ntmps aD.tb aD.code = true:=by kernel_rfl
theorem aD.T {F:Nat} {aa:Sl} {ab:Int} {H:Hp} {v:AV} {H':Hp} (h:aD.tw F aa ab H = some (v,H')):Go.AE.T Try.prog 62 [(.agg [(.sl aa),(.int .i64 ab)])] H v H':=
 Go.AE.T.of (Y:=tabs) (C:=mkOrc (aD.cs F (aG.tw F) (aE.tw F) (ay.tw F) (cg.tw F) (bg.tw F))) (PN:=aD.pn) (LH:=aD.lh F (aG.tw F) (aE.tw F) (ay.tw F) (cg.tw F) (bg.tw F)) (F:=F) (TB:=aD.tb) (fn:=Try.f62) (code:=aD.code) mixed tabs_ok (mkOrc_ok (aD.cs_ok F)) Try.func62 (by kernel_rfl) (by kernel_rfl) aD.ok (Nat.le_of_ble_eq_true (by kernel_rfl)) (aD.loops F (aG.tw F) (aE.tw F) (ay.tw F) (cg.tw F) (bg.tw F)) (Eq.trans (aD.eqX F (aG.tw F) (aE.tw F) (ay.tw F) (cg.tw F) (bg.tw F) aa ab H) h)
theorem aD.mk_T {F:Nat} {args:List AV} {H:Hp} {v:AV} {H':Hp} (h:aD.mk (aD.tw F) args H = some (v,H')):Go.AE.T Try.prog 62 args H v H':=by
 unfold aD.mk at h
 split at h
 ·exact aD.T h
 ·cases h
noncomputable def bG.twX (F:Nat) (aa:Int) (ad:Int) (H:Hp):OA:=(Hp.new H [.int .i64 0,.int .i64 0,.sl ⟨none,0,.ex 0⟩]).bind fun H3=>(Hp.mk H3 [.int .i64 0] 8 (IntKind.i64.wrap (aa * ad)) (IntKind.i64.wrap (aa * ad))).bind fun m4=>(Hp.st m4.2 H.length 0 (.int .i64 aa)).bind fun H5=>(Hp.st H5 H.length (0 + 1) (.int .i64 ad)).bind fun H6=>(Hp.st H6 H.length (0 + 1 + 1) (.sl m4.1)).bind fun H7=>(Hp.ldI H7 .i64 H.length 0).bind fun n8=>(Hp.ldI H7 .i64 H.length (0 + 1)).bind fun n9=>(Hp.ldSl H7 H.length (0 + 2)).bind fun s10=>some ((.agg [(.int .i64 n8),(.int .i64 n9),(.sl s10)]),H7)
noncomputable def bG.tw (F:Nat) (aa:Int) (ad:Int) (H:Hp):OA:=bG.twX F aa ad H
noncomputable def bG.code:Go.Code:=(Try.f133.body).getD .skip
noncomputable def bG.lh (F:Nat) (p:Nat) (ks:List Nat) (n:Nat) (tm:Tm) (H:Hp):OA:=none
def bG.pn:Nat→List Nat:=fun i=>(([]:List (Nat×List Nat)).lookup i).getD []
def bG.tb:Nat→List (List Nat):=fun i=>(([]:List (Nat×List (List Nat))).lookup i).getD []
end Go.Proofs.Ythfinhmkgdmelaa.AE
