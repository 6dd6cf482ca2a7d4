import Derived.Test.YthfinhmkgdmelaaTab1
import Derived.Test.YthfinhmkgdmelaaE2
set_option linter.unusedVariables false
set_option linter.unusedSimpArgs false
namespace Go.Proofs.Ythfinhmkgdmelaa.AE
open Go Go.AE Go.Proofs Go.RowKit Go.Maps
set_option linter.unusedVariables false
set_option maxHeartbeats 4000000
set_option maxRecDepth 100000
noncomputable def bz.twX (F:Nat) (aa:Sl) (ad:Int) (H:Hp):OA:=(bif (decide ((IntKind.i64.wrap (ad - (aa.n:Int))) < 0)) then (some ((.int .i64 (-1)),H)) else (some ((.int .i64 (IntKind.i64.wrap (ad - (aa.n:Int)))),H)))
noncomputable def bz.tw (F:Nat) (aa:Sl) (ad:Int) (H:Hp):OA:=bz.twX F aa ad H
noncomputable def bz.code:Go.Code:=(Try.f58.body).getD .skip
noncomputable def bz.lh (F:Nat) (p:Nat) (ks:List Nat) (n:Nat) (tm:Tm) (H:Hp):OA:=none
def bz.pn:Nat→List Nat:=fun i=>(([]:List (Nat×List Nat)).lookup i).getD []
def bz.tb:Nat→List (List Nat):=fun i=>(([]:List (Nat×List (List Nat))).lookup i).getD []
noncomputable def bz.mk (g:Sl→Int→Hp→OA) (args:List AV) (H:Hp):OA:=match args with
 | [(.sl aa),(.int .i64 ad)]=>g aa ad H
 | _=>none
noncomputable def bz.cs (F:Nat):List (FuncId×(List AV→Hp→OA)):=[]
theorem bz.loops (F:Nat):LoopsOk tabs (mkOrc (bz.cs F)) bz.pn (bz.lh F) F [] 1 bz.code (fun tm H=>aresults tabs.ty H tm Try.f58.results.toList fun v=>some (v,H)) (fun _ _ _=>none) (fun tm H=>aresults tabs.ty H tm Try.f58.results.toList fun v=>some (v,H)):=by
 exact loops_none (by kernel_rfl)
theorem bz.eqX (F:Nat) (aa:Sl) (ad:Int) (H:Hp):aCode tabs (mkOrc (bz.cs F)) bz.pn (bz.lh F) F [] 1 bz.code (argTm [(.sl aa),(.int .i64 ad)]) H (fun tm H=>aresults tabs.ty H tm Try.f58.results.toList fun v=>some (v,H)) (fun _ _ _=>none) (fun tm H=>aresults tabs.ty H tm Try.f58.results.toList fun v=>some (v,H)) = bz.twX F aa ad H:=by kernel_rfl
theorem bz.cs_ok (F:Nat):∀ p ∈ bz.cs F,∀ args H v H',p.2 args H = some (v,H')→Go.AE.T Try.prog p.1 args H v H':=by
 intro p hp
 exact absurd (show p ∈ [] from hp) List.not_mem_nil
theorem bz.ok:codeOk bz.pn Try.f58.ntmps bz.tb bz.code = true:=by kernel_rfl
theorem bz.T {F:Nat} {aa:Sl} {ad:Int} {H:Hp} {v:AV} {H':Hp} (h:bz.tw F aa ad H = some (v,H')):Go.AE.T Try.prog 58 [(.sl aa),(.int .i64 ad)] H v H':=
 Go.AE.T.of (Y:=tabs) (C:=mkOrc (bz.cs F)) (PN:=bz.pn) (LH:=bz.lh F) (F:=F) (TB:=bz.tb) (fn:=Try.f58) (code:=bz.code) mixed tabs_ok (mkOrc_ok (bz.cs_ok F)) Try.func58 (by kernel_rfl) (by kernel_rfl) bz.ok (Nat.le_of_ble_eq_true (by kernel_rfl)) (bz.loops F) (Eq.trans (bz.eqX F aa ad H) h)
theorem bz.mk_T {F:Nat} {args:List AV} {H:Hp} {v:AV} {H':Hp} (h:bz.mk (bz.tw F) args H = some (v,H')):Go.AE.T Try.prog 58 args H v H':=by
 unfold bz.mk at h
 split at h
 ·exact bz.T h
 ·cases h
noncomputable def bq.twX (F:Nat) (gx:Sl→Int→Hp→OA) (aa:Sl) (ab:Int) (au:Int) (H:Hp):OA:=(Hp.new H [(.sl aa),(.int .i64 ab)]).bind fun H4=>(Hp.ldSl H4 H.length 0).bind fun s5=>(gx s5 au H4).bind fun r6=>((r6.1).asI .i64).bind fun n7=>(bif (decide (n7 < 0)) then (some ((.int .i64 (-1)),r6.2)) else (some ((.int .i64 n7),r6.2)))
noncomputable def bq.tw (F:Nat) (aa:Sl) (ab:Int) (au:Int) (H:Hp):OA:=bq.twX F (bz.tw F) aa ab au H
noncomputable def bq.code:Go.Code:=(Try.f15.body).getD .skip
noncomputable def bq.lh (F:Nat) (gx:Sl→Int→Hp→OA) (p:Nat) (ks:List Nat) (n:Nat) (tm:Tm) (H:Hp):OA:=none
def bq.pn:Nat→List Nat:=fun i=>(([]:List (Nat×List Nat)).lookup i).getD []
def bq.tb:Nat→List (List Nat):=fun i=>(([]:List (Nat×List (List Nat))).lookup i).getD []
noncomputable def bq.mk (g:Sl→Int→Int→Hp→OA) (args:List AV) (H:Hp):OA:=match args with
 | [(.agg [(.sl aa),(.int .i64 ab)]),(.int .i64 au)]=>g aa ab au H
 | _=>none
noncomputable def bq.cs (F:Nat) (gx:Sl→Int→Hp→OA):List (FuncId×(List AV→Hp→OA)):=[(58,bz.mk gx)]
theorem bq.loops (F:Nat) (gx:Sl→Int→Hp→OA):LoopsOk tabs (mkOrc (bq.cs F gx)) bq.pn (bq.lh F gx) F [] 1 bq.code (fun tm H=>aresults tabs.ty H tm Try.f15.results.toList fun v=>some (v,H)) (fun _ _ _=>none) (fun tm H=>aresults tabs.ty H tm Try.f15.results.toList fun v=>some (v,H)):=by
 exact loops_none (by kernel_rfl)
theorem bq.eqX (F:Nat) (gx:Sl→Int→Hp→OA) (aa:Sl) (ab:Int) (au:Int) (H:Hp):aCode tabs (mkOrc (bq.cs F gx)) bq.pn (bq.lh F gx) F [] 1 bq.code (argTm [(.agg [(.sl aa),(.int .i64 ab)]),(.int .i64 au)]) H (fun tm H=>aresults tabs.ty H tm Try.f15.results.toList fun v=>some (v,H)) (fun _ _ _=>none) (fun tm H=>aresults tabs.ty H tm Try.f15.results.toList fun v=>some (v,H)) = bq.twX F gx aa ab au H:=by kernel_rfl
theorem bq.cs_ok (F:Nat):∀ p ∈ bq.cs F (bz.tw F),∀ args H v H',p.2 args H = some (v,H')→Go.AE.T Try.prog p.1 args H v H':=by
 intro p hp
 simp only [bq.cs,List.mem_cons,List.not_mem_nil,or_false] at hp
 subst hp
 exact fun args H v H' h=>bz.mk_T h
theorem bq.ok:codeOk bq.pn Try.f15.ntmps bq.tb bq.code = true:=by kernel_rfl
theorem bq.T {F:Nat} {aa:Sl} {ab:Int} {au:Int} {H:Hp} {v:AV} {H':Hp} (h:bq.tw F aa ab au H = some (v,H')):Go.AE.T Try.prog 15 [(.agg [(.sl aa),(.int .i64 ab)]),(.int .i64 au)] H v H':=
 Go.AE.T.of (Y:=tabs) (C:=mkOrc (bq.cs F (bz.tw F))) (PN:=bq.pn) (LH:=bq.lh F (bz.tw F)) (F:=F) (TB:=bq.tb) (fn:=Try.f15) (code:=bq.code) mixed tabs_ok (mkOrc_ok (bq.cs_ok F)) Try.func15 (by kernel_rfl) (by kernel_rfl) bq.ok (Nat.le_of_ble_eq_true (by kernel_rfl)) (bq.loops F (bz.tw F)) (Eq.trans (bq.eqX F (bz.tw F) aa ab au H) h)
theorem bq.mk_T {F:Nat} {args:List AV} {H:Hp} {v:AV} {H':Hp} (h:bq.mk (bq.tw F) args H = some (v,H')):Go.AE.T Try.prog 15 args H v H':=by
 unfold bq.mk at h
 split at h
 ·exact bq.T h
 ·cases h
noncomputable def bA.twX (F:Nat) (aa:Int) (ab:Int) (ai:Int) (ay:Int) (aw:Int) (H:Hp):OA:=(Hp.new H [(.int .i64 aa),(.int .i64 ab),(.int .i64 ai),(.int .i64 ay),(.int .i64 aw)]).bind fun H6=>(Hp.new H6 [.int .i64 0,.int .i64 0,.int .i64 0,.int .i64 0,.int .i64 0]).bind fun H7=>(Hp.new H7 [.int .i64 0,.int .i64 0,.int .i64 0,.int .i64 0,.int .i64 0]).bind fun H8=>(Hp.ldI H8 .i64 H.length 0).bind fun n9=>(Hp.st H8 H7.length 0 (.int .i64 n9)).bind fun H10=>(Hp.ldI H10 .i64 H.length 1).bind fun n11=>(Hp.st H10 H7.length 1 (.int .i64 n11)).bind fun H12=>(Hp.ldI H12 .i64 H.length 2).bind fun n13=>(Hp.st H12 H7.length 2 (.int .i64 n13)).bind fun H14=>(Hp.ldI H14 .i64 H.length 3).bind fun n15=>(Hp.st H14 H7.length 3 (.int .i64 n15)).bind fun H16=>(Hp.ldI H16 .i64 H.length 4).bind fun n17=>(Hp.st H16 H7.length 4 (.int .i64 n17)).bind fun H18=>(Hp.ldI H18 .i64 H7.length 0).bind fun n19=>(Hp.ldI H18 .i64 H7.length (0 + 1)).bind fun n20=>(Hp.ldI H18 .i64 H7.length (0 + 2)).bind fun n21=>(Hp.ldI H18 .i64 H7.length (0 + 3)).bind fun n22=>(Hp.ldI H18 .i64 H7.length (0 + 4)).bind fun n23=>(Hp.st H18 H6.length 0 (.int .i64 n19)).bind fun H24=>(Hp.st H24 H6.length (0 + 1) (.int .i64 n20)).bind fun H25=>(Hp.st H25 H6.length (0 + 1 + 1) (.int .i64 n21)).bind fun H26=>(Hp.st H26 H6.length (0 + 1 + 1 + 1) (.int .i64 n22)).bind fun H27=>(Hp.st H27 H6.length (0 + 1 + 1 + 1 + 1) (.int .i64 n23)).bind fun H28=>(Hp.ldI H28 .i64 H6.length 0).bind fun n29=>(Hp.ldI H28 .i64 H6.length (0 + 1)).bind fun n30=>(Hp.ldI H28 .i64 H6.length (0 + 2)).bind fun n31=>(Hp.ldI H28 .i64 H6.length (0 + 3)).bind fun n32=>(Hp.ldI H28 .i64 H6.length (0 + 4)).bind fun n33=>some ((.agg [(.int .i64 n29),(.int .i64 n30),(.int .i64 n31),(.int .i64 n32),(.int .i64 n33)]),H28)
noncomputable def bA.tw (F:Nat) (aa:Int) (ab:Int) (ai:Int) (ay:Int) (aw:Int) (H:Hp):OA:=bA.twX F aa ab ai ay aw H
noncomputable def bA.code:Go.Code:=(Try.f115.body).getD .skip
noncomputable def bA.lh (F:Nat) (p:Nat) (ks:List Nat) (n:Nat) (tm:Tm) (H:Hp):OA:=none
def bA.pn:Nat→List Nat:=fun i=>(([]:List (Nat×List Nat)).lookup i).getD []
def bA.tb:Nat→List (List Nat):=fun i=>(([]:List (Nat×List (List Nat))).lookup i).getD []
noncomputable def bA.mk (g:Int→Int→Int→Int→Int→Hp→OA) (args:List AV) (H:Hp):OA:=match args with
 | [(.agg [(.int .i64 aa),(.int .i64 ab),(.int .i64 ai),(.int .i64 ay),(.int .i64 aw)])]=>g aa ab ai ay aw H
 | _=>none
noncomputable def bA.cs (F:Nat):List (FuncId×(List AV→Hp→OA)):=[]
theorem bA.loops (F:Nat):LoopsOk tabs (mkOrc (bA.cs F)) bA.pn (bA.lh F) F [] 1 bA.code (fun tm H=>aresults tabs.ty H tm Try.f115.results.toList fun v=>some (v,H)) (fun _ _ _=>none) (fun tm H=>aresults tabs.ty H tm Try.f115.results.toList fun v=>some (v,H)):=by
 exact loops_none (by kernel_rfl)
theorem bA.eqX (F:Nat) (aa:Int) (ab:Int) (ai:Int) (ay:Int) (aw:Int) (H:Hp):aCode tabs (mkOrc (bA.cs F)) bA.pn (bA.lh F) F [] 1 bA.code (argTm [(.agg [(.int .i64 aa),(.int .i64 ab),(.int .i64 ai),(.int .i64 ay),(.int .i64 aw)])]) H (fun tm H=>aresults tabs.ty H tm Try.f115.results.toList fun v=>some (v,H)) (fun _ _ _=>none) (fun tm H=>aresults tabs.ty H tm Try.f115.results.toList fun v=>some (v,H)) = bA.twX F aa ab ai ay aw H:=by kernel_rfl
theorem bA.cs_ok (F:Nat):∀ p ∈ bA.cs F,∀ args H v H',p.2 args H = some (v,H')→Go.AE.T Try.prog p.1 args H v H':=by
 intro p hp
 exact absurd (show p ∈ [] from hp) List.not_mem_nil
theorem bA.ok:codeOk bA.pn Try.f115.ntmps bA.tb bA.code = true:=by kernel_rfl
theorem bA.T {F:Nat} {aa:Int} {ab:Int} {ai:Int} {ay:Int} {aw:Int} {H:Hp} {v:AV} {H':Hp} (h:bA.tw F aa ab ai ay aw H = some (v,H')):Go.AE.T Try.prog 115 [(.agg [(.int .i64 aa),(.int .i64 ab),(.int .i64 ai),(.int .i64 ay),(.int .i64 aw)])] H v H':=
 Go.AE.T.of (Y:=tabs) (C:=mkOrc (bA.cs F)) (PN:=bA.pn) (LH:=bA.lh F) (F:=F) (TB:=bA.tb) (fn:=Try.f115) (code:=bA.code) mixed tabs_ok (mkOrc_ok (bA.cs_ok F)) Try.func115 (by kernel_rfl) (by kernel_rfl) bA.ok (Nat.le_of_ble_eq_true (by kernel_rfl)) (bA.loops F) (Eq.trans (bA.eqX F aa ab ai ay aw H) h)
theorem bA.mk_T {F:Nat} {args:List AV} {H:Hp} {v:AV} {H':Hp} (h:bA.mk (bA.tw F) args H = some (v,H')):Go.AE.T Try.prog 115 args H v H':=by
 unfold bA.mk at h
 split at h
 ·exact bA.T h
 ·cases h
noncomputable def aO.l29 (F:Nat) (dz:Int→Int→Int→Int→Int→Hp→OA) :Nat→Sl→Sl→Int→Hp→OA
 | 0,_,_,_,_=>none
 | ft + 1,aX,gd,dA,H7=>(bif (decide (dA < (aX.n:Int))) then ((Sl.idx aX dA 5).bind fun p32=>(Hp.ldI H7 .i64 p32.1 p32.2).bind fun n33=>(Hp.ldI H7 .i64 p32.1 (p32.2 + 1)).bind fun n34=>(Hp.ldI H7 .i64 p32.1 (p32.2 + 2)).bind fun n35=>(Hp.ldI H7 .i64 p32.1 (p32.2 + 3)).bind fun n36=>(Hp.ldI H7 .i64 p32.1 (p32.2 + 4)).bind fun n37=>(dz n33 n34 n35 n36 n37 H7).bind fun r38=>((r38.1).asAgg 5).bind fun l39=>(l39[0]?).bind fun v40=>((v40).asI .i64).bind fun n41=>(l39[1]?).bind fun v42=>((v42).asI .i64).bind fun n43=>(l39[2]?).bind fun v44=>((v44).asI .i64).bind fun n45=>(l39[3]?).bind fun v46=>((v46).asI .i64).bind fun n47=>(l39[4]?).bind fun v48=>((v48).asI .i64).bind fun n49=>(Sl.idx gd dA 5).bind fun p50=>(Hp.st r38.2 p50.1 p50.2 (.int .i64 n41)).bind fun H51=>(Hp.st H51 p50.1 (p50.2 + 1) (.int .i64 n43)).bind fun H52=>(Hp.st H52 p50.1 (p50.2 + 1 + 1) (.int .i64 n45)).bind fun H53=>(Hp.st H53 p50.1 (p50.2 + 1 + 1 + 1) (.int .i64 n47)).bind fun H54=>(Hp.st H54 p50.1 (p50.2 + 1 + 1 + 1 + 1) (.int .i64 n49)).bind fun H55=>aO.l29 F dz ft aX gd (IntKind.i64.wrap (dA + 1)) H55) else (some ((.sl gd),H7)))
termination_by structural n=>n
noncomputable def aO.twX (F:Nat) (dz:Int→Int→Int→Int→Int→Hp→OA) (aa:Sl) (H:Hp):OA:=(Hp.mk H [.int .i64 0,.int .i64 0,.int .i64 0,.int .i64 0,.int .i64 0] 40 (aa.n:Int) (aa.n:Int)).bind fun m2=>aO.l29 F dz F aa m2.1 0 m2.2
noncomputable def aO.tw (F:Nat) (aa:Sl) (H:Hp):OA:=aO.twX F (bA.tw F) aa H
noncomputable def aO.code:Go.Code:=(Try.f60.body).getD .skip
noncomputable def aO.lh29 (F:Nat) (dz:Int→Int→Int→Int→Int→Hp→OA) (ks:List Nat) (n:Nat) (tm:Tm) (H:Hp):OA:=match ks,tm 0,tm 3,tm 4 with
 | [],(.sl aX),(.sl gd),(.int .i64 dA)=>aO.l29 F dz n aX gd dA H
 | _,_,_,_=>none
theorem aO.lh29_inv {F:Nat} {dz:Int→Int→Int→Int→Int→Hp→OA} {ks:List Nat} {n:Nat} {tm:Tm} {H:Hp} {r:AV×Hp} (h:aO.lh29 F dz ks n tm H = some r):∃ aX:Sl,∃ gd:Sl,∃ dA:Int,ks = []∧tm 0 = (.sl aX)∧tm 3 = (.sl gd)∧tm 4 = (.int .i64 dA)∧aO.l29 F dz n aX gd dA H = some r:=by
 unfold aO.lh29 at h
 split at h
 ·exact ⟨_,_,_,rfl,by assumption,by assumption,by assumption,h⟩
 ·cases h
noncomputable def aO.lh (F:Nat) (dz:Int→Int→Int→Int→Int→Hp→OA) (p:Nat) (ks:List Nat) (n:Nat) (tm:Tm) (H:Hp):OA:=bif p.beq 29 then aO.lh29 F dz ks n tm H else (none)
def aO.pn:Nat→List Nat:=fun i=>(([]:List (Nat×List Nat)).lookup i).getD []
def aO.tb:Nat→List (List Nat):=fun i=>(([]:List (Nat×List (List Nat))).lookup i).getD []
noncomputable def aO.mk (g:Sl→Hp→OA) (args:List AV) (H:Hp):OA:=match args with
 | [(.sl aa)]=>g aa H
 | _=>none
noncomputable def aO.cs (F:Nat) (dz:Int→Int→Int→Int→Int→Hp→OA):List (FuncId×(List AV→Hp→OA)):=[(115,bA.mk dz)]
theorem aO.loops (F:Nat) (dz:Int→Int→Int→Int→Int→Hp→OA):LoopsOk tabs (mkOrc (aO.cs F dz)) aO.pn (aO.lh F dz) F [] 1 aO.code (fun tm H=>aresults tabs.ty H tm Try.f60.results.toList fun v=>some (v,H)) (fun _ _ _=>none) (fun tm H=>aresults tabs.ty H tm Try.f60.results.toList fun v=>some (v,H)):=by
 refine LoopsOk.seq ?_ ?_
 ·exact loops_none (by kernel_rfl)
 ·refine LoopsOk.seq ?_ ?_
  ·exact loops_none (by kernel_rfl)
  ·refine LoopsOk.seq ?_ ?_
   ·refine LoopsOk.seq ?_ ?_
    ·exact loops_none (by kernel_rfl)
    ·refine LoopsOk.block ?_
     refine LoopsOk.loop (fun tm H=>?_) (fun k29 tm H r h0=>?_) (fun k29=>?_)
     ·refine none_of fun r h0=>?_
      obtain ⟨aX,gd,dA,hks,e0,e3,e4,h⟩:=aO.lh29_inv (show aO.lh29 F dz [] 0 tm H = some r from h0)
      cases h
     ·obtain ⟨aX,gd,dA,hks,e0,e3,e4,h⟩:=aO.lh29_inv (show aO.lh29 F dz [] (k29 + 1) tm H = some r from h0)
      have q0:(Tm.put tm 0 (.sl aX)) = tm:=by exact Tm.put_same e0
      have q1:(Tm.put (Tm.put tm 0 (.sl aX)) 3 (.sl gd)) = tm:=by rw [q0]; exact Tm.put_same e3
      have q2:(Tm.put (Tm.put (Tm.put tm 0 (.sl aX)) 3 (.sl gd)) 4 (.int .i64 dA)) = tm:=by rw [q1]; exact Tm.put_same e4
      rw [← q2]
      exact Eq.trans (by kernel_rfl) h
     ·exact loops_none (by kernel_rfl)
   ·exact loops_none (by kernel_rfl)
theorem aO.eqX (F:Nat) (dz:Int→Int→Int→Int→Int→Hp→OA) (aa:Sl) (H:Hp):aCode tabs (mkOrc (aO.cs F dz)) aO.pn (aO.lh F dz) F [] 1 aO.code (argTm [(.sl aa)]) H (fun tm H=>aresults tabs.ty H tm Try.f60.results.toList fun v=>some (v,H)) (fun _ _ _=>none) (fun tm H=>aresults tabs.ty H tm Try.f60.results.toList fun v=>some (v,H)) = aO.twX F dz aa H:=by kernel_rfl
theorem aO.cs_ok (F:Nat):∀ p ∈ aO.cs F (bA.tw F),∀ args H v H',p.2 args H = some (v,H')→Go.AE.T Try.prog p.1 args H v H':=by
 intro p hp
 simp only [aO.cs,List.mem_cons,List.not_mem_nil,or_false] at hp
 subst hp
 exact fun args H v H' h=>bA.mk_T h
theorem aO.ok:codeOk aO.pn Try.f60.ntmps aO.tb aO.code = true:=by kernel_rfl
theorem aO.T {F:Nat} {aa:Sl} {H:Hp} {v:AV} {H':Hp} (h:aO.tw F aa H = some (v,H')):Go.AE.T Try.prog 60 [(.sl aa)] H v H':=
 Go.AE.T.of (Y:=tabs) (C:=mkOrc (aO.cs F (bA.tw F))) (PN:=aO.pn) (LH:=aO.lh F (bA.tw F)) (F:=F) (TB:=aO.tb) (fn:=Try.f60) (code:=aO.code) mixed tabs_ok (mkOrc_ok (aO.cs_ok F)) Try.func60 (by kernel_rfl) (by kernel_rfl) aO.ok (Nat.le_of_ble_eq_true (by kernel_rfl)) (aO.loops F (bA.tw F)) (Eq.trans (aO.eqX F (bA.tw F) aa H) h)
theorem aO.mk_T {F:Nat} {args:List AV} {H:Hp} {v:AV} {H':Hp} (h:aO.mk (aO.tw F) args H = some (v,H')):Go.AE.T Try.prog 60 args H v H':=by
 unfold aO.mk at h
 split at h
 ·exact aO.T h
 ·cases h
noncomputable def bj.twX (F:Nat) (gy:Sl→Hp→OA) (aa:Sl) (ab:Int) (H:Hp):OA:=(Hp.new H [(.sl aa),(.int .i64 ab)]).bind fun H3=>(Hp.new H3 [.sl ⟨none,0,.ex 0⟩,.int .i64 0]).bind fun H4=>(Hp.new H4 [.sl ⟨none,0,.ex 0⟩,.int .i64 0]).bind fun H5=>(Hp.ldSl H5 H.length 0).bind fun s6=>(gy s6 H5).bind fun r7=>((r7.1).asSl).bind fun s8=>(Hp.st r7.2 H4.length 0 (.sl s8)).bind fun H9=>(Hp.ldI H9 .i64 H.length 1).bind fun n10=>(Hp.st H9 H4.length 1 (.int .i64 n10)).bind fun H11=>(Hp.ldSl H11 H4.length 0).bind fun s12=>(Hp.ldI H11 .i64 H4.length (0 + 1)).bind fun n13=>(Hp.st H11 H3.length 0 (.sl s12)).bind fun H14=>(Hp.st H14 H3.length (0 + 1) (.int .i64 n13)).bind fun H15=>(Hp.ldSl H15 H3.length 0).bind fun s16=>(Hp.ldI H15 .i64 H3.length (0 + 1)).bind fun n17=>some ((.agg [(.sl s16),(.int .i64 n17)]),H15)
noncomputable def bj.tw (F:Nat) (aa:Sl) (ab:Int) (H:Hp):OA:=bj.twX F (aO.tw F) aa ab H
noncomputable def bj.code:Go.Code:=(Try.f17.body).getD .skip
noncomputable def bj.lh (F:Nat) (gy:Sl→Hp→OA) (p:Nat) (ks:List Nat) (n:Nat) (tm:Tm) (H:Hp):OA:=none
def bj.pn:Nat→List Nat:=fun i=>(([]:List (Nat×List Nat)).lookup i).getD []
def bj.tb:Nat→List (List Nat):=fun i=>(([]:List (Nat×List (List Nat))).lookup i).getD []
noncomputable def bj.mk (g:Sl→Int→Hp→OA) (args:List AV) (H:Hp):OA:=match args with
 | [(.agg [(.sl aa),(.int .i64 ab)])]=>g aa ab H
 | _=>none
noncomputable def bj.cs (F:Nat) (gy:Sl→Hp→OA):List (FuncId×(List AV→Hp→OA)):=[(60,aO.mk gy)]
theorem bj.loops (F:Nat) (gy:Sl→Hp→OA):LoopsOk tabs (mkOrc (bj.cs F gy)) bj.pn (bj.lh F gy) F [] 1 bj.code (fun tm H=>aresults tabs.ty H tm Try.f17.results.toList fun v=>some (v,H)) (fun _ _ _=>none) (fun tm H=>aresults tabs.ty H tm Try.f17.results.toList fun v=>some (v,H)):=by
 exact loops_none (by kernel_rfl)
theorem bj.eqX (F:Nat) (gy:Sl→Hp→OA) (aa:Sl) (ab:Int) (H:Hp):aCode tabs (mkOrc (bj.cs F gy)) bj.pn (bj.lh F gy) F [] 1 bj.code (argTm [(.agg [(.sl aa),(.int .i64 ab)])]) H (fun tm H=>aresults tabs.ty H tm Try.f17.results.toList fun v=>some (v,H)) (fun _ _ _=>none) (fun tm H=>aresults tabs.ty H tm Try.f17.results.toList fun v=>some (v,H)) = bj.twX F gy aa ab H:=by kernel_rfl
theorem bj.cs_ok (F:Nat):∀ p ∈ bj.cs F (aO.tw F),∀ args H v H',p.2 args H = some (v,H')→Go.AE.T Try.prog p.1 args H v H':=by
 intro p hp
 simp only [bj.cs,List.mem_cons,List.not_mem_nil,or_false] at hp
 subst hp
 exact fun args H v H' h=>aO.mk_T h
theorem bj.ok:codeOk bj.pn Try.f17.ntmps bj.tb bj.code = true:=by kernel_rfl
theorem bj.T {F:Nat} {aa:Sl} {ab:Int} {H:Hp} {v:AV} {H':Hp} (h:bj.tw F aa ab H = some (v,H')):Go.AE.T Try.prog 17 [(.agg [(.sl aa),(.int .i64 ab)])] H v H':=
 Go.AE.T.of (Y:=tabs) (C:=mkOrc (bj.cs F (aO.tw F))) (PN:=bj.pn) (LH:=bj.lh F (aO.tw F)) (F:=F) (TB:=bj.tb) (fn:=Try.f17) (code:=bj.code) mixed tabs_ok (mkOrc_ok (bj.cs_ok F)) Try.func17 (by kernel_rfl) (by kernel_rfl) bj.ok (Nat.le_of_ble_eq_true (by kernel_rfl)) (bj.loops F (aO.tw F)) (Eq.trans (bj.eqX F (aO.tw F) aa ab H) h)
theorem bj.mk_T {F:Nat} {args:List AV} {H:Hp} {v:AV} {H':Hp} (h:bj.mk (bj.tw F) args H = some (v,H')):Go.AE.T Try.prog 17 args H v H':=by
 unfold bj.mk at h
 split at h
 ·exact bj.T h
 ·cases h
noncomputable def bb.twX (F:Nat) (aa:Int) (ad:Int) (bK:Int) (H:Hp):OA:=(bif (decide (aa ≥ ad)) then (some ((.bool (decide (aa ≤ bK))),H)) else (some ((.bool false),H)))
noncomputable def bb.tw (F:Nat) (aa:Int) (ad:Int) (bK:Int) (H:Hp):OA:=bb.twX F aa ad bK H
noncomputable def bb.code:Go.Code:=(Try.f65.body).getD .skip
noncomputable def bb.lh (F:Nat) (p:Nat) (ks:List Nat) (n:Nat) (tm:Tm) (H:Hp):OA:=none
def bb.pn:Nat→List Nat:=fun i=>(([]:List (Nat×List Nat)).lookup i).getD []
def bb.tb:Nat→List (List Nat):=fun i=>(([]:List (Nat×List (List Nat))).lookup i).getD []
noncomputable def bb.mk (g:Int→Int→Int→Hp→OA) (args:List AV) (H:Hp):OA:=match args with
 | [(.int .i64 aa),(.int .i64 ad),(.int .i64 bK)]=>g aa ad bK H
 | _=>none
noncomputable def bb.cs (F:Nat):List (FuncId×(List AV→Hp→OA)):=[]
theorem bb.loops (F:Nat):LoopsOk tabs (mkOrc (bb.cs F)) bb.pn (bb.lh F) F [] 1 bb.code (fun tm H=>aresults tabs.ty H tm Try.f65.results.toList fun v=>some (v,H)) (fun _ _ _=>none) (fun tm H=>aresults tabs.ty H tm Try.f65.results.toList fun v=>some (v,H)):=by
 exact loops_none (by kernel_rfl)
theorem bb.eqX (F:Nat) (aa:Int) (ad:Int) (bK:Int) (H:Hp):aCode tabs (mkOrc (bb.cs F)) bb.pn (bb.lh F) F [] 1 bb.code (argTm [(.int .i64 aa),(.int .i64 ad),(.int .i64 bK)]) H (fun tm H=>aresults tabs.ty H tm Try.f65.results.toList fun v=>some (v,H)) (fun _ _ _=>none) (fun tm H=>aresults tabs.ty H tm Try.f65.results.toList fun v=>some (v,H)) = bb.twX F aa ad bK H:=by kernel_rfl
theorem bb.cs_ok (F:Nat):∀ p ∈ bb.cs F,∀ args H v H',p.2 args H = some (v,H')→Go.AE.T Try.prog p.1 args H v H':=by
 intro p hp
 exact absurd (show p ∈ [] from hp) List.not_mem_nil
theorem bb.ok:codeOk bb.pn Try.f65.ntmps bb.tb bb.code = true:=by kernel_rfl
theorem bb.T {F:Nat} {aa:Int} {ad:Int} {bK:Int} {H:Hp} {v:AV} {H':Hp} (h:bb.tw F aa ad bK H = some (v,H')):Go.AE.T Try.prog 65 [(.int .i64 aa),(.int .i64 ad),(.int .i64 bK)] H v H':=
 Go.AE.T.of (Y:=tabs) (C:=mkOrc (bb.cs F)) (PN:=bb.pn) (LH:=bb.lh F) (F:=F) (TB:=bb.tb) (fn:=Try.f65) (code:=bb.code) mixed tabs_ok (mkOrc_ok (bb.cs_ok F)) Try.func65 (by kernel_rfl) (by kernel_rfl) bb.ok (Nat.le_of_ble_eq_true (by kernel_rfl)) (bb.loops F) (Eq.trans (bb.eqX F aa ad bK H) h)
theorem bb.mk_T {F:Nat} {args:List AV} {H:Hp} {v:AV} {H':Hp} (h:bb.mk (bb.tw F) args H = some (v,H')):Go.AE.T Try.prog 65 args H v H':=by
 unfold bb.mk at h
 split at h
 ·exact bb.T h
 ·cases h
noncomputable def aV.twX (F:Nat) (aa:Int) (ab:Int) (ai:Int) (ay:Int) (aw:Int) (aJ:Int) (H:Hp):OA:=(Hp.new H [(.int .i64 aa),(.int .i64 ab),(.int .i64 ai),(.int .i64 ay),(.int .i64 aw)]).bind fun H7=>(Hp.ldI H7 .i64 H.length 0).bind fun n8=>(Hp.ldI H7 .i64 H.length 1).bind fun n9=>(Hp.ldI H7 .i64 H.length 2).bind fun n10=>(Hp.ldI H7 .i64 H.length 3).bind fun n11=>(Hp.new H7 [(.int .i64 n8),(.int .i64 n9),(.int .i64 n10),(.int .i64 n11)]).bind fun H12=>(Sl.idx (⟨some (H7.length,0),4,.ex 4⟩:Sl) aJ 1).bind fun p13=>(Hp.ldI H12 .i64 p13.1 p13.2).bind fun n14=>some ((.int .i64 n14),H12)
noncomputable def aV.tw (F:Nat) (aa:Int) (ab:Int) (ai:Int) (ay:Int) (aw:Int) (aJ:Int) (H:Hp):OA:=aV.twX F aa ab ai ay aw aJ H
noncomputable def aV.code:Go.Code:=(Try.f140.body).getD .skip
noncomputable def aV.lh (F:Nat) (p:Nat) (ks:List Nat) (n:Nat) (tm:Tm) (H:Hp):OA:=none
def aV.pn:Nat→List Nat:=fun i=>(([]:List (Nat×List Nat)).lookup i).getD []
def aV.tb:Nat→List (List Nat):=fun i=>(([]:List (Nat×List (List Nat))).lookup i).getD []
noncomputable def aV.mk (g:Int→Int→Int→Int→Int→Int→Hp→OA) (args:List AV) (H:Hp):OA:=match args with
 | [(.agg [(.int .i64 aa),(.int .i64 ab),(.int .i64 ai),(.int .i64 ay),(.int .i64 aw)]),(.int .i64 aJ)]=>g aa ab ai ay aw aJ H
 | _=>none
noncomputable def aV.cs (F:Nat):List (FuncId×(List AV→Hp→OA)):=[]
theorem aV.loops (F:Nat):LoopsOk tabs (mkOrc (aV.cs F)) aV.pn (aV.lh F) F [] 1 aV.code (fun tm H=>aresults tabs.ty H tm Try.f140.results.toList fun v=>some (v,H)) (fun _ _ _=>none) (fun tm H=>aresults tabs.ty H tm Try.f140.results.toList fun v=>some (v,H)):=by
 exact loops_none (by kernel_rfl)
theorem aV.eqX (F:Nat) (aa:Int) (ab:Int) (ai:Int) (ay:Int) (aw:Int) (aJ:Int) (H:Hp):aCode tabs (mkOrc (aV.cs F)) aV.pn (aV.lh F) F [] 1 aV.code (argTm [(.agg [(.int .i64 aa),(.int .i64 ab),(.int .i64 ai),(.int .i64 ay),(.int .i64 aw)]),(.int .i64 aJ)]) H (fun tm H=>aresults tabs.ty H tm Try.f140.results.toList fun v=>some (v,H)) (fun _ _ _=>none) (fun tm H=>aresults tabs.ty H tm Try.f140.results.toList fun v=>some (v,H)) = aV.twX F aa ab ai ay aw aJ H:=by kernel_rfl
theorem aV.cs_ok (F:Nat):∀ p ∈ aV.cs F,∀ args H v H',p.2 args H = some (v,H')→Go.AE.T Try.prog p.1 args H v H':=by
 intro p hp
 exact absurd (show p ∈ [] from hp) List.not_mem_nil
theorem aV.ok:codeOk aV.pn Try.f140.ntmps aV.tb aV.code = true:=by kernel_rfl
theorem aV.T {F:Nat} {aa:Int} {ab:Int} {ai:Int} {ay:Int} {aw:Int} {aJ:Int} {H:Hp} {v:AV} {H':Hp} (h:aV.tw F aa ab ai ay aw aJ H = some (v,H')):Go.AE.T Try.prog 140 [(.agg [(.int .i64 aa),(.int .i64 ab),(.int .i64 ai),(.int .i64 ay),(.int .i64 aw)]),(.int .i64 aJ)] H v H':=
 Go.AE.T.of (Y:=tabs) (C:=mkOrc (aV.cs F)) (PN:=aV.pn) (LH:=aV.lh F) (F:=F) (TB:=aV.tb) (fn:=Try.f140) (code:=aV.code) mixed tabs_ok (mkOrc_ok (aV.cs_ok F)) Try.func140 (by kernel_rfl) (by kernel_rfl) aV.ok (Nat.le_of_ble_eq_true (by kernel_rfl)) (aV.loops F) (Eq.trans (aV.eqX F aa ab ai ay aw aJ H) h)
theorem aV.mk_T {F:Nat} {args:List AV} {H:Hp} {v:AV} {H':Hp} (h:aV.mk (aV.tw F) args H = some (v,H')):Go.AE.T Try.prog 140 args H v H':=by
 unfold aV.mk at h
 split at h
 ·exact aV.T h
 ·cases h
noncomputable def aW.twX (F:Nat) (aa:Int) (ab:Int) (ai:Int) (ay:Int) (aw:Int) (aJ:Int) (H:Hp):OA:=(Hp.new H [(.int .i64 aa),(.int .i64 ab),(.int .i64 ai),(.int .i64 ay),(.int .i64 aw)]).bind fun H7=>(bif (aJ == 0) then (some ((.bool true),H7)) else ((bif (aJ == 3) then ((Hp.ldI H7 .i64 H.length 4).bind fun n8=>(bif (n8 == 1) then (some ((.bool true),H7)) else ((bif (aJ == 1) then ((Hp.ldI H7 .i64 H.length 4).bind fun n9=>some ((.bool (n9 == (-1))),H7)) else (some ((.bool false),H7)))))) else ((bif (aJ == 1) then ((Hp.ldI H7 .i64 H.length 4).bind fun n10=>some ((.bool (n10 == (-1))),H7)) else (some ((.bool false),H7)))))))
noncomputable def aW.tw (F:Nat) (aa:Int) (ab:Int) (ai:Int) (ay:Int) (aw:Int) (aJ:Int) (H:Hp):OA:=aW.twX F aa ab ai ay aw aJ H
noncomputable def aW.code:Go.Code:=(Try.f141.body).getD .skip
noncomputable def aW.lh (F:Nat) (p:Nat) (ks:List Nat) (n:Nat) (tm:Tm) (H:Hp):OA:=none
def aW.pn:Nat→List Nat:=fun i=>(([]:List (Nat×List Nat)).lookup i).getD []
def aW.tb:Nat→List (List Nat):=fun i=>(([]:List (Nat×List (List Nat))).lookup i).getD []
noncomputable def aW.mk (g:Int→Int→Int→Int→Int→Int→Hp→OA) (args:List AV) (H:Hp):OA:=match args with
 | [(.agg [(.int .i64 aa),(.int .i64 ab),(.int .i64 ai),(.int .i64 ay),(.int .i64 aw)]),(.int .i64 aJ)]=>g aa ab ai ay aw aJ H
 | _=>none
noncomputable def aW.cs (F:Nat):List (FuncId×(List AV→Hp→OA)):=[]
theorem aW.loops (F:Nat):LoopsOk tabs (mkOrc (aW.cs F)) aW.pn (aW.lh F) F [] 1 aW.code (fun tm H=>aresults tabs.ty H tm Try.f141.results.toList fun v=>some (v,H)) (fun _ _ _=>none) (fun tm H=>aresults tabs.ty H tm Try.f141.results.toList fun v=>some (v,H)):=by
 exact loops_none (by kernel_rfl)
theorem aW.eqX (F:Nat) (aa:Int) (ab:Int) (ai:Int) (ay:Int) (aw:Int) (aJ:Int) (H:Hp):aCode tabs (mkOrc (aW.cs F)) aW.pn (aW.lh F) F [] 1 aW.code (argTm [(.agg [(.int .i64 aa),(.int .i64 ab),(.int .i64 ai),(.int .i64 ay),(.int .i64 aw)]),(.int .i64 aJ)]) H (fun tm H=>aresults tabs.ty H tm Try.f141.results.toList fun v=>some (v,H)) (fun _ _ _=>none) (fun tm H=>aresults tabs.ty H tm Try.f141.results.toList fun v=>some (v,H)) = aW.twX F aa ab ai ay aw aJ H:=by kernel_rfl
theorem aW.cs_ok (F:Nat):∀ p ∈ aW.cs F,∀ args H v H',p.2 args H = some (v,H')→Go.AE.T Try.prog p.1 args H v H':=by
 intro p hp
 exact absurd (show p ∈ [] from hp) List.not_mem_nil
theorem aW.ok:codeOk aW.pn Try.f141.ntmps aW.tb aW.code = true:=by kernel_rfl
theorem aW.T {F:Nat} {aa:Int} {ab:Int} {ai:Int} {ay:Int} {aw:Int} {aJ:Int} {H:Hp} {v:AV} {H':Hp} (h:aW.tw F aa ab ai ay aw aJ H = some (v,H')):Go.AE.T Try.prog 141 [(.agg [(.int .i64 aa),(.int .i64 ab),(.int .i64 ai),(.int .i64 ay),(.int .i64 aw)]),(.int .i64 aJ)] H v H':=
 Go.AE.T.of (Y:=tabs) (C:=mkOrc (aW.cs F)) (PN:=aW.pn) (LH:=aW.lh F) (F:=F) (TB:=aW.tb) (fn:=Try.f141) (code:=aW.code) mixed tabs_ok (mkOrc_ok (aW.cs_ok F)) Try.func141 (by kernel_rfl) (by kernel_rfl) aW.ok (Nat.le_of_ble_eq_true (by kernel_rfl)) (aW.loops F) (Eq.trans (aW.eqX F aa ab ai ay aw aJ H) h)
theorem aW.mk_T {F:Nat} {args:List AV} {H:Hp} {v:AV} {H':Hp} (h:aW.mk (aW.tw F) args H = some (v,H')):Go.AE.T Try.prog 141 args H v H':=by
 unfold aW.mk at h
 split at h
 ·exact aW.T h
 ·cases h
noncomputable def ao.l3927 (F:Nat) (aP:Int→Int→Int→Int→Int→Int→Hp→OA) (bL:Int→Int→Int→Hp→OA) (aQ:Int→Int→Int→Int→Int→Int→Hp→OA) (C61_:Nat→Nat→Int→Sl→Sl→Int→Hp→OA):Nat→Nat→Nat→Int→Sl→Sl→Int→Nat→Nat→Int→Hp→OA
 | 0,_,_,_,_,_,_,_,_,_,_=>none
 | tz + 1,dB,eU,cI,eV,fg,ci,cM,dX,cY,H126=>(bif (decide (cY < 4)) then ((Hp.ldI H126 .i64 cM dX).bind fun n151=>(Hp.ldI H126 .i64 cM (dX + 1)).bind fun n152=>(Hp.ldI H126 .i64 cM (dX + 2)).bind fun n153=>(Hp.ldI H126 .i64 cM (dX + 3)).bind fun n154=>(Hp.ldI H126 .i64 cM (dX + 4)).bind fun n155=>(aP n151 n152 n153 n154 n155 cY H126).bind fun r156=>((r156.1).asI .i64).bind fun n157=>(bL n157 0 (IntKind.i64.wrap (cI - 1)) r156.2).bind fun r158=>((r158.1).asB).bind fun b159=>(bif (!b159) then (some ((.bool false),r158.2)) else ((Hp.ldI r158.2 .i64 cM dX).bind fun n160=>(Hp.ldI r158.2 .i64 cM (dX + 1)).bind fun n161=>(Hp.ldI r158.2 .i64 cM (dX + 2)).bind fun n162=>(Hp.ldI r158.2 .i64 cM (dX + 3)).bind fun n163=>(Hp.ldI r158.2 .i64 cM (dX + 4)).bind fun n164=>(aQ n160 n161 n162 n163 n164 cY r158.2).bind fun r165=>((r165.1).asB).bind fun b166=>(bif b166 then ((Sl.idx eV n157 1).bind fun p167=>(Hp.ldB r165.2 p167.1 p167.2).bind fun b168=>(bif b168 then (some ((.bool false),r165.2)) else ((Sl.idx eV n157 1).bind fun p169=>(Hp.st r165.2 p169.1 p169.2 (.bool true)).bind fun H170=>ao.l3927 F aP bL aQ C61_ tz dB eU cI eV fg ci cM dX (IntKind.i64.wrap (cY + 1)) H170))) else ((Sl.idx fg n157 1).bind fun p171=>(Hp.ldB r165.2 p171.1 p171.2).bind fun b172=>(bif b172 then (some ((.bool false),r165.2)) else ((Sl.idx fg n157 1).bind fun p173=>(Hp.st r165.2 p173.1 p173.2 (.bool true)).bind fun H174=>ao.l3927 F aP bL aQ C61_ tz dB eU cI eV fg ci cM dX (IntKind.i64.wrap (cY + 1)) H174))))))) else (C61_ dB eU cI eV fg (IntKind.i64.wrap (ci + 1)) H126))
termination_by structural n=>n
noncomputable def ao.l61 (F:Nat) (aP:Int→Int→Int→Int→Int→Int→Hp→OA) (bL:Int→Int→Int→Hp→OA) (aQ:Int→Int→Int→Int→Int→Int→Hp→OA) :Nat→Nat→Nat→Int→Sl→Sl→Int→Hp→OA
 | 0,_,_,_,_,_,_,_=>none
 | bg + 1,bY,cq,cg,cN,cd,dC,H16=>(Hp.ldSl H16 bY cq).bind fun s96=>(bif (decide (dC < (s96.n:Int))) then ((Hp.ldSl H16 bY cq).bind fun s97=>(Sl.idx s97 dC 5).bind fun p98=>(Hp.ldI H16 .i64 p98.1 p98.2).bind fun n99=>(Hp.ldI H16 .i64 p98.1 (p98.2 + 1)).bind fun n100=>(Hp.ldI H16 .i64 p98.1 (p98.2 + 2)).bind fun n101=>(Hp.ldI H16 .i64 p98.1 (p98.2 + 3)).bind fun n102=>(Hp.ldI H16 .i64 p98.1 (p98.2 + 4)).bind fun n103=>(Hp.new H16 [.int .i64 0,.int .i64 0,.int .i64 0,.int .i64 0,.int .i64 0]).bind fun H104=>(Hp.st H104 H16.length 0 (.int .i64 n99)).bind fun H105=>(Hp.st H105 H16.length (0 + 1) (.int .i64 n100)).bind fun H106=>(Hp.st H106 H16.length (0 + 1 + 1) (.int .i64 n101)).bind fun H107=>(Hp.st H107 H16.length (0 + 1 + 1 + 1) (.int .i64 n102)).bind fun H108=>(Hp.st H108 H16.length (0 + 1 + 1 + 1 + 1) (.int .i64 n103)).bind fun H109=>(Hp.ldI H109 .i64 H16.length 4).bind fun n110=>(bif (n110 != 1) then ((Hp.ldI H109 .i64 H16.length 4).bind fun n111=>(bif (n111 != (-1)) then (some ((.bool false),H109)) else (ao.l3927 F aP bL aQ (ao.l61 F aP bL aQ bg) F bY cq cg cN cd dC H16.length 0 0 H109))) else (ao.l3927 F aP bL aQ (ao.l61 F aP bL aQ bg) F bY cq cg cN cd dC H16.length 0 0 H109))) else (some ((.bool true),H16)))
termination_by structural n=>n
noncomputable def ao.twX (F:Nat) (aP:Int→Int→Int→Int→Int→Int→Hp→OA) (bL:Int→Int→Int→Hp→OA) (aQ:Int→Int→Int→Int→Int→Int→Hp→OA) (aa:Sl) (ab:Int) (H:Hp):OA:=(Hp.new H [(.sl aa),(.int .i64 ab)]).bind fun H3=>(Hp.ldSl H3 H.length 0).bind fun s4=>(Hp.mk H3 [.bool false] 1 (IntKind.i64.wrap (2 * (s4.n:Int))) (IntKind.i64.wrap (2 * (s4.n:Int)))).bind fun m5=>(Hp.mk m5.2 [.bool false] 1 (IntKind.i64.wrap (2 * (s4.n:Int))) (IntKind.i64.wrap (2 * (s4.n:Int)))).bind fun m6=>ao.l61 F aP bL aQ F H.length 0 (IntKind.i64.wrap (2 * (s4.n:Int))) m5.1 m6.1 0 m6.2
noncomputable def ao.tw (F:Nat) (aa:Sl) (ab:Int) (H:Hp):OA:=ao.twX F (aV.tw F) (bb.tw F) (aW.tw F) aa ab H
noncomputable def ao.code:Go.Code:=(Try.f104.body).getD .skip
noncomputable def ao.lh61 (F:Nat) (aP:Int→Int→Int→Int→Int→Int→Hp→OA) (bL:Int→Int→Int→Hp→OA) (aQ:Int→Int→Int→Int→Int→Int→Hp→OA) (ks:List Nat) (n:Nat) (tm:Tm) (H:Hp):OA:=match ks,tm 1,tm 3,tm 4,tm 5,tm 6 with
 | [],(.ptr bY cq),(.int .i64 cg),(.sl cN),(.sl cd),(.int .i64 dC)=>ao.l61 F aP bL aQ n bY cq cg cN cd dC H
 | _,_,_,_,_,_=>none
theorem ao.lh61_inv {F:Nat} {aP:Int→Int→Int→Int→Int→Int→Hp→OA} {bL:Int→Int→Int→Hp→OA} {aQ:Int→Int→Int→Int→Int→Int→Hp→OA} {ks:List Nat} {n:Nat} {tm:Tm} {H:Hp} {r:AV×Hp} (h:ao.lh61 F aP bL aQ ks n tm H = some r):∃ bY:Nat,∃ cq:Nat,∃ cg:Int,∃ cN:Sl,∃ cd:Sl,∃ dC:Int,ks = []∧tm 1 = (.ptr bY cq)∧tm 3 = (.int .i64 cg)∧tm 4 = (.sl cN)∧tm 5 = (.sl cd)∧tm 6 = (.int .i64 dC)∧ao.l61 F aP bL aQ n bY cq cg cN cd dC H = some r:=by
 unfold ao.lh61 at h
 split at h
 ·exact ⟨_,_,_,_,_,_,rfl,by assumption,by assumption,by assumption,by assumption,by assumption,h⟩
 ·cases h
noncomputable def ao.lh3927 (F:Nat) (aP:Int→Int→Int→Int→Int→Int→Hp→OA) (bL:Int→Int→Int→Hp→OA) (aQ:Int→Int→Int→Int→Int→Int→Hp→OA) (ks:List Nat) (n:Nat) (tm:Tm) (H:Hp):OA:=match ks,tm 1,tm 3,tm 4,tm 5,tm 6,tm 7,tm 8 with
 | [bg],(.ptr dB eU),(.int .i64 cI),(.sl eV),(.sl fg),(.int .i64 ci),(.ptr cM dX),(.int .i64 cY)=>ao.l3927 F aP bL aQ (ao.l61 F aP bL aQ bg) n dB eU cI eV fg ci cM dX cY H
 | _,_,_,_,_,_,_,_=>none
theorem ao.lh3927_inv {F:Nat} {aP:Int→Int→Int→Int→Int→Int→Hp→OA} {bL:Int→Int→Int→Hp→OA} {aQ:Int→Int→Int→Int→Int→Int→Hp→OA} {ks:List Nat} {n:Nat} {tm:Tm} {H:Hp} {r:AV×Hp} (h:ao.lh3927 F aP bL aQ ks n tm H = some r):∃ bg:Nat,∃ dB:Nat,∃ eU:Nat,∃ cI:Int,∃ eV:Sl,∃ fg:Sl,∃ ci:Int,∃ cM:Nat,∃ dX:Nat,∃ cY:Int,ks = [bg]∧tm 1 = (.ptr dB eU)∧tm 3 = (.int .i64 cI)∧tm 4 = (.sl eV)∧tm 5 = (.sl fg)∧tm 6 = (.int .i64 ci)∧tm 7 = (.ptr cM dX)∧tm 8 = (.int .i64 cY)∧ao.l3927 F aP bL aQ (ao.l61 F aP bL aQ bg) n dB eU cI eV fg ci cM dX cY H = some r:=by
 unfold ao.lh3927 at h
 split at h
 ·exact ⟨_,_,_,_,_,_,_,_,_,_,rfl,by assumption,by assumption,by assumption,by assumption,by assumption,by assumption,by assumption,h⟩
 ·cases h
noncomputable def ao.lh (F:Nat) (aP:Int→Int→Int→Int→Int→Int→Hp→OA) (bL:Int→Int→Int→Hp→OA) (aQ:Int→Int→Int→Int→Int→Int→Hp→OA) (p:Nat) (ks:List Nat) (n:Nat) (tm:Tm) (H:Hp):OA:=bif p.beq 3927 then ao.lh3927 F aP bL aQ ks n tm H else (bif p.beq 61 then ao.lh61 F aP bL aQ ks n tm H else (none))
def ao.pn:Nat→List Nat:=fun i=>(([(2,[])]:List (Nat×List Nat)).lookup i).getD []
def ao.tb:Nat→List (List Nat):=fun i=>(([(2,[[],[0],[],[2],[0,1],[0,1,2,3,4]])]:List (Nat×List (List Nat))).lookup i).getD []
noncomputable def ao.mk (g:Sl→Int→Hp→OA) (args:List AV) (H:Hp):OA:=match args with
 | [(.agg [(.sl aa),(.int .i64 ab)])]=>g aa ab H
 | _=>none
noncomputable def ao.cs (F:Nat) (aP:Int→Int→Int→Int→Int→Int→Hp→OA) (bL:Int→Int→Int→Hp→OA) (aQ:Int→Int→Int→Int→Int→Int→Hp→OA):List (FuncId×(List AV→Hp→OA)):=[(140,aV.mk aP),(65,bb.mk bL),(141,aW.mk aQ)]
theorem ao.loops (F:Nat) (aP:Int→Int→Int→Int→Int→Int→Hp→OA) (bL:Int→Int→Int→Hp→OA) (aQ:Int→Int→Int→Int→Int→Int→Hp→OA):LoopsOk tabs (mkOrc (ao.cs F aP bL aQ)) ao.pn (ao.lh F aP bL aQ) F [] 1 ao.code (fun tm H=>aresults tabs.ty H tm Try.f104.results.toList fun v=>some (v,H)) (fun _ _ _=>none) (fun tm H=>aresults tabs.ty H tm Try.f104.results.toList fun v=>some (v,H)):=by
 refine LoopsOk.seq ?_ ?_
 ·exact loops_none (by kernel_rfl)
 ·refine LoopsOk.seq ?_ ?_
  ·exact loops_none (by kernel_rfl)
  ·refine LoopsOk.seq ?_ ?_
   ·exact loops_none (by kernel_rfl)
   ·refine LoopsOk.seq ?_ ?_
    ·refine LoopsOk.seq ?_ ?_
     ·exact loops_none (by kernel_rfl)
     ·refine LoopsOk.block ?_
      refine LoopsOk.loop (fun tm H=>?_) (fun k61 tm H r h0=>?_) (fun k61=>?_)
      ·refine none_of fun r h0=>?_
       obtain ⟨bY,cq,cg,cN,cd,dC,hks,e1,e3,e4,e5,e6,h⟩:=ao.lh61_inv (show ao.lh61 F aP bL aQ [] 0 tm H = some r from h0)
       cases h
      ·obtain ⟨bY,cq,cg,cN,cd,dC,hks,e1,e3,e4,e5,e6,h⟩:=ao.lh61_inv (show ao.lh61 F aP bL aQ [] (k61 + 1) tm H = some r from h0)
       have q0:(Tm.put tm 1 (.ptr bY cq)) = tm:=by exact Tm.put_same e1
       have q1:(Tm.put (Tm.put tm 1 (.ptr bY cq)) 3 (.int .i64 cg)) = tm:=by rw [q0]; exact Tm.put_same e3
       have q2:(Tm.put (Tm.put (Tm.put tm 1 (.ptr bY cq)) 3 (.int .i64 cg)) 4 (.sl cN)) = tm:=by rw [q1]; exact Tm.put_same e4
       have q3:(Tm.put (Tm.put (Tm.put (Tm.put tm 1 (.ptr bY cq)) 3 (.int .i64 cg)) 4 (.sl cN)) 5 (.sl cd)) = tm:=by rw [q2]; exact Tm.put_same e5
       have q4:(Tm.put (Tm.put (Tm.put (Tm.put (Tm.put tm 1 (.ptr bY cq)) 3 (.int .i64 cg)) 4 (.sl cN)) 5 (.sl cd)) 6 (.int .i64 dC)) = tm:=by rw [q3]; exact Tm.put_same e6
       rw [← q4]
       exact Eq.trans (by kernel_rfl) h
      ·refine LoopsOk.seq ?_ ?_
       ·exact loops_none (by kernel_rfl)
       ·refine LoopsOk.seq ?_ ?_
        ·refine LoopsOk.block ?_
         refine LoopsOk.seq ?_ ?_
         ·exact loops_none (by kernel_rfl)
         ·refine LoopsOk.seq ?_ ?_
          ·exact loops_none (by kernel_rfl)
          ·refine LoopsOk.seq ?_ ?_
           ·exact loops_none (by kernel_rfl)
           ·refine LoopsOk.block ?_
            refine LoopsOk.loop (fun tm H=>?_) (fun k3927 tm H r h0=>?_) (fun k3927=>?_)
            ·refine none_of fun r h0=>?_
             obtain ⟨bg,dB,eU,cI,eV,fg,ci,cM,dX,cY,hks,e1,e3,e4,e5,e6,e7,e8,h⟩:=ao.lh3927_inv (show ao.lh3927 F aP bL aQ [k61] 0 tm H = some r from h0)
             cases h
            ·obtain ⟨bg,dB,eU,cI,eV,fg,ci,cM,dX,cY,hks,e1,e3,e4,e5,e6,e7,e8,h⟩:=ao.lh3927_inv (show ao.lh3927 F aP bL aQ [k61] (k3927 + 1) tm H = some r from h0)
             obtain rfl:bg = k61:=by simpa [eq_comm] using hks
             have q0:(Tm.put tm 1 (.ptr dB eU)) = tm:=by exact Tm.put_same e1
             have q1:(Tm.put (Tm.put tm 1 (.ptr dB eU)) 3 (.int .i64 cI)) = tm:=by rw [q0]; exact Tm.put_same e3
             have q2:(Tm.put (Tm.put (Tm.put tm 1 (.ptr dB eU)) 3 (.int .i64 cI)) 4 (.sl eV)) = tm:=by rw [q1]; exact Tm.put_same e4
             have q3:(Tm.put (Tm.put (Tm.put (Tm.put tm 1 (.ptr dB eU)) 3 (.int .i64 cI)) 4 (.sl eV)) 5 (.sl fg)) = tm:=by rw [q2]; exact Tm.put_same e5
             have q4:(Tm.put (Tm.put (Tm.put (Tm.put (Tm.put tm 1 (.ptr dB eU)) 3 (.int .i64 cI)) 4 (.sl eV)) 5 (.sl fg)) 6 (.int .i64 ci)) = tm:=by rw [q3]; exact Tm.put_same e6
             have q5:(Tm.put (Tm.put (Tm.put (Tm.put (Tm.put (Tm.put tm 1 (.ptr dB eU)) 3 (.int .i64 cI)) 4 (.sl eV)) 5 (.sl fg)) 6 (.int .i64 ci)) 7 (.ptr cM dX)) = tm:=by rw [q4]; exact Tm.put_same e7
             have q6:(Tm.put (Tm.put (Tm.put (Tm.put (Tm.put (Tm.put (Tm.put tm 1 (.ptr dB eU)) 3 (.int .i64 cI)) 4 (.sl eV)) 5 (.sl fg)) 6 (.int .i64 ci)) 7 (.ptr cM dX)) 8 (.int .i64 cY)) = tm:=by rw [q5]; exact Tm.put_same e8
             rw [← q6]
             exact Eq.trans (by kernel_rfl) h
            ·exact loops_none (by kernel_rfl)
        ·exact loops_none (by kernel_rfl)
    ·exact loops_none (by kernel_rfl)
theorem ao.eqX (F:Nat) (aP:Int→Int→Int→Int→Int→Int→Hp→OA) (bL:Int→Int→Int→Hp→OA) (aQ:Int→Int→Int→Int→Int→Int→Hp→OA) (aa:Sl) (ab:Int) (H:Hp):aCode tabs (mkOrc (ao.cs F aP bL aQ)) ao.pn (ao.lh F aP bL aQ) F [] 1 ao.code (argTm [(.agg [(.sl aa),(.int .i64 ab)])]) H (fun tm H=>aresults tabs.ty H tm Try.f104.results.toList fun v=>some (v,H)) (fun _ _ _=>none) (fun tm H=>aresults tabs.ty H tm Try.f104.results.toList fun v=>some (v,H)) = ao.twX F aP bL aQ aa ab H:=by kernel_rfl
theorem ao.cs_ok (F:Nat):∀ p ∈ ao.cs F (aV.tw F) (bb.tw F) (aW.tw F),∀ args H v H',p.2 args H = some (v,H')→Go.AE.T Try.prog p.1 args H v H':=by
 intro p hp
 simp only [ao.cs,List.mem_cons,List.not_mem_nil,or_false] at hp
 rcases hp with rfl | rfl | rfl
 ·exact fun args H v H' h=>aV.mk_T h
 ·exact fun args H v H' h=>bb.mk_T h
 ·exact fun args H v H' h=>aW.mk_T h
theorem ao.ok:codeOk ao.pn Try.f104.ntmps ao.tb ao.code = true:=by kernel_rfl
theorem ao.T {F:Nat} {aa:Sl} {ab:Int} {H:Hp} {v:AV} {H':Hp} (h:ao.tw F aa ab H = some (v,H')):Go.AE.T Try.prog 104 [(.agg [(.sl aa),(.int .i64 ab)])] H v H':=
 Go.AE.T.of (Y:=tabs) (C:=mkOrc (ao.cs F (aV.tw F) (bb.tw F) (aW.tw F))) (PN:=ao.pn) (LH:=ao.lh F (aV.tw F) (bb.tw F) (aW.tw F)) (F:=F) (TB:=ao.tb) (fn:=Try.f104) (code:=ao.code) mixed tabs_ok (mkOrc_ok (ao.cs_ok F)) Try.func104 (by kernel_rfl) (by kernel_rfl) ao.ok (Nat.le_of_ble_eq_true (by kernel_rfl)) (ao.loops F (aV.tw F) (bb.tw F) (aW.tw F)) (Eq.trans (ao.eqX F (aV.tw F) (bb.tw F) (aW.tw F) aa ab H) h)
theorem ao.mk_T {F:Nat} {args:List AV} {H:Hp} {v:AV} {H':Hp} (h:ao.mk (ao.tw F) args H = some (v,H')):Go.AE.T Try.prog 104 args H v H':=by
 unfold ao.mk at h
 split at h
 ·exact ao.T h
 ·cases h
noncomputable def ah.j3 (F:Nat) (aP:Int→Int→Int→Int→Int→Int→Hp→OA) (aQ:Int→Int→Int→Int→Int→Int→Hp→OA) (C13_:Int→Bool→Nat→Nat→Int→Hp→OA) (iE:Int) (jA:Bool) (jB:Nat) (yy:Nat) (jC:Int) (H147:Hp):OA:=C13_ iE jA jB yy (IntKind.i64.wrap (jC + 1)) H147
noncomputable def ah.j4 (F:Nat) (aP:Int→Int→Int→Int→Int→Int→Hp→OA) (aQ:Int→Int→Int→Int→Int→Int→Hp→OA) (C13_:Int→Bool→Nat→Nat→Int→Hp→OA) (jD:Int) (jE:Bool) (nl:Nat) (yz:Nat) (jF:Int) (H134:Hp):OA:=ah.j3 F aP aQ C13_ jD jE nl yz jF H134
noncomputable def ah.l213 (F:Nat) (aP:Int→Int→Int→Int→Int→Int→Hp→OA) (aQ:Int→Int→Int→Int→Int→Int→Hp→OA) (C13_:Int→Bool→Nat→Nat→Int→Hp→OA):Nat→Int→Bool→Nat→Nat→Int→Int→Hp→OA
 | 0,_,_,_,_,_,_,_=>none
 | tB + 1,cO,cU,ea,fu,cJ,cP,H103=>(bif (decide (cP < 4)) then ((Hp.ldSl H103 ea fu).bind fun s148=>(Sl.idx s148 cJ 5).bind fun p149=>(Hp.ldI H103 .i64 p149.1 p149.2).bind fun n150=>(Hp.ldI H103 .i64 p149.1 (p149.2 + 1)).bind fun n151=>(Hp.ldI H103 .i64 p149.1 (p149.2 + 2)).bind fun n152=>(Hp.ldI H103 .i64 p149.1 (p149.2 + 3)).bind fun n153=>(Hp.ldI H103 .i64 p149.1 (p149.2 + 4)).bind fun n154=>(aP n150 n151 n152 n153 n154 cP H103).bind fun r155=>((r155.1).asI .i64).bind fun n156=>(bif (n156 == cO) then ((Hp.ldSl r155.2 ea fu).bind fun s157=>(Sl.idx s157 cJ 5).bind fun p158=>(Hp.ldI r155.2 .i64 p158.1 p158.2).bind fun n159=>(Hp.ldI r155.2 .i64 p158.1 (p158.2 + 1)).bind fun n160=>(Hp.ldI r155.2 .i64 p158.1 (p158.2 + 2)).bind fun n161=>(Hp.ldI r155.2 .i64 p158.1 (p158.2 + 3)).bind fun n162=>(Hp.ldI r155.2 .i64 p158.1 (p158.2 + 4)).bind fun n163=>(aQ n159 n160 n161 n162 n163 cP r155.2).bind fun r164=>((r164.1).asB).bind fun b165=>(bif (b165 == cU) then (some ((.tup [(.int .i64 cJ),(.int .i64 cP)]),r164.2)) else (ah.l213 F aP aQ C13_ tB cO cU ea fu cJ (IntKind.i64.wrap (cP + 1)) r164.2))) else (ah.l213 F aP aQ C13_ tB cO cU ea fu cJ (IntKind.i64.wrap (cP + 1)) r155.2))) else (ah.j4 F aP aQ C13_ cO cU ea fu cJ H103))
termination_by structural n=>n
noncomputable def ah.l13 (F:Nat) (aP:Int→Int→Int→Int→Int→Int→Hp→OA) (aQ:Int→Int→Int→Int→Int→Int→Hp→OA) :Nat→Int→Bool→Nat→Nat→Int→Hp→OA
 | 0,_,_,_,_,_,_=>none
 | eW + 1,bP,eI,cv,ck,eJ,H15=>(Hp.ldSl H15 cv ck).bind fun s91=>(bif (decide (eJ < (s91.n:Int))) then (ah.l213 F aP aQ (ah.l13 F aP aQ eW) F bP eI cv ck eJ 0 H15) else (some ((.tup [(.int .i64 (-1)),(.int .i64 (-1))]),H15)))
termination_by structural n=>n
noncomputable def ah.twX (F:Nat) (aP:Int→Int→Int→Int→Int→Int→Hp→OA) (aQ:Int→Int→Int→Int→Int→Int→Hp→OA) (aa:Sl) (ab:Int) (au:Int) (eX:Bool) (H:Hp):OA:=(Hp.new H [(.sl aa),(.int .i64 ab)]).bind fun H5=>ah.l13 F aP aQ F au eX H.length 0 0 H5
noncomputable def ah.tw (F:Nat) (aa:Sl) (ab:Int) (au:Int) (eX:Bool) (H:Hp):OA:=ah.twX F (aV.tw F) (aW.tw F) aa ab au eX H
noncomputable def ah.code:Go.Code:=(Try.f152.body).getD .skip
noncomputable def ah.lh13 (F:Nat) (aP:Int→Int→Int→Int→Int→Int→Hp→OA) (aQ:Int→Int→Int→Int→Int→Int→Hp→OA) (ks:List Nat) (n:Nat) (tm:Tm) (H:Hp):OA:=match ks,tm 1,tm 2,tm 3,tm 8 with
 | [],(.int .i64 bP),(.bool eI),(.ptr cv ck),(.int .i64 eJ)=>ah.l13 F aP aQ n bP eI cv ck eJ H
 | _,_,_,_,_=>none
theorem ah.lh13_inv {F:Nat} {aP:Int→Int→Int→Int→Int→Int→Hp→OA} {aQ:Int→Int→Int→Int→Int→Int→Hp→OA} {ks:List Nat} {n:Nat} {tm:Tm} {H:Hp} {r:AV×Hp} (h:ah.lh13 F aP aQ ks n tm H = some r):∃ bP:Int,∃ eI:Bool,∃ cv:Nat,∃ ck:Nat,∃ eJ:Int,ks = []∧tm 1 = (.int .i64 bP)∧tm 2 = (.bool eI)∧tm 3 = (.ptr cv ck)∧tm 8 = (.int .i64 eJ)∧ah.l13 F aP aQ n bP eI cv ck eJ H = some r:=by
 unfold ah.lh13 at h
 split at h
 ·exact ⟨_,_,_,_,_,rfl,by assumption,by assumption,by assumption,by assumption,h⟩
 ·cases h
noncomputable def ah.lh213 (F:Nat) (aP:Int→Int→Int→Int→Int→Int→Hp→OA) (aQ:Int→Int→Int→Int→Int→Int→Hp→OA) (ks:List Nat) (n:Nat) (tm:Tm) (H:Hp):OA:=match ks,tm 1,tm 2,tm 3,tm 8,tm 9 with
 | [eW],(.int .i64 cO),(.bool cU),(.ptr ea fu),(.int .i64 cJ),(.int .i64 cP)=>ah.l213 F aP aQ (ah.l13 F aP aQ eW) n cO cU ea fu cJ cP H
 | _,_,_,_,_,_=>none
theorem ah.lh213_inv {F:Nat} {aP:Int→Int→Int→Int→Int→Int→Hp→OA} {aQ:Int→Int→Int→Int→Int→Int→Hp→OA} {ks:List Nat} {n:Nat} {tm:Tm} {H:Hp} {r:AV×Hp} (h:ah.lh213 F aP aQ ks n tm H = some r):∃ eW:Nat,∃ cO:Int,∃ cU:Bool,∃ ea:Nat,∃ fu:Nat,∃ cJ:Int,∃ cP:Int,ks = [eW]∧tm 1 = (.int .i64 cO)∧tm 2 = (.bool cU)∧tm 3 = (.ptr ea fu)∧tm 8 = (.int .i64 cJ)∧tm 9 = (.int .i64 cP)∧ah.l213 F aP aQ (ah.l13 F aP aQ eW) n cO cU ea fu cJ cP H = some r:=by
 unfold ah.lh213 at h
 split at h
 ·exact ⟨_,_,_,_,_,_,_,rfl,by assumption,by assumption,by assumption,by assumption,by assumption,h⟩
 ·cases h
noncomputable def ah.lh (F:Nat) (aP:Int→Int→Int→Int→Int→Int→Hp→OA) (aQ:Int→Int→Int→Int→Int→Int→Hp→OA) (p:Nat) (ks:List Nat) (n:Nat) (tm:Tm) (H:Hp):OA:=bif p.beq 213 then ah.lh213 F aP aQ ks n tm H else (bif p.beq 13 then ah.lh13 F aP aQ ks n tm H else (none))
def ah.pn:Nat→List Nat:=fun i=>(([]:List (Nat×List Nat)).lookup i).getD []
def ah.tb:Nat→List (List Nat):=fun i=>(([]:List (Nat×List (List Nat))).lookup i).getD []
noncomputable def ah.mk (g:Sl→Int→Int→Bool→Hp→OA) (args:List AV) (H:Hp):OA:=match args with
 | [(.agg [(.sl aa),(.int .i64 ab)]),(.int .i64 au),(.bool eX)]=>g aa ab au eX H
 | _=>none
noncomputable def ah.cs (F:Nat) (aP:Int→Int→Int→Int→Int→Int→Hp→OA) (aQ:Int→Int→Int→Int→Int→Int→Hp→OA):List (FuncId×(List AV→Hp→OA)):=[(140,aV.mk aP),(141,aW.mk aQ)]
theorem ah.loops (F:Nat) (aP:Int→Int→Int→Int→Int→Int→Hp→OA) (aQ:Int→Int→Int→Int→Int→Int→Hp→OA):LoopsOk tabs (mkOrc (ah.cs F aP aQ)) ah.pn (ah.lh F aP aQ) F [] 1 ah.code (fun tm H=>aresults tabs.ty H tm Try.f152.results.toList fun v=>some (v,H)) (fun _ _ _=>none) (fun tm H=>aresults tabs.ty H tm Try.f152.results.toList fun v=>some (v,H)):=by
 refine LoopsOk.seq ?_ ?_
 ·exact loops_none (by kernel_rfl)
 ·refine LoopsOk.seq ?_ ?_
  ·refine LoopsOk.seq ?_ ?_
   ·exact loops_none (by kernel_rfl)
   ·refine LoopsOk.block ?_
    refine LoopsOk.loop (fun tm H=>?_) (fun k13 tm H r h0=>?_) (fun k13=>?_)
    ·refine none_of fun r h0=>?_
     obtain ⟨bP,eI,cv,ck,eJ,hks,e1,e2,e3,e8,h⟩:=ah.lh13_inv (show ah.lh13 F aP aQ [] 0 tm H = some r from h0)
     cases h
    ·obtain ⟨bP,eI,cv,ck,eJ,hks,e1,e2,e3,e8,h⟩:=ah.lh13_inv (show ah.lh13 F aP aQ [] (k13 + 1) tm H = some r from h0)
     have q0:(Tm.put tm 1 (.int .i64 bP)) = tm:=by exact Tm.put_same e1
     have q1:(Tm.put (Tm.put tm 1 (.int .i64 bP)) 2 (.bool eI)) = tm:=by rw [q0]; exact Tm.put_same e2
     have q2:(Tm.put (Tm.put (Tm.put tm 1 (.int .i64 bP)) 2 (.bool eI)) 3 (.ptr cv ck)) = tm:=by rw [q1]; exact Tm.put_same e3
     have q3:(Tm.put (Tm.put (Tm.put (Tm.put tm 1 (.int .i64 bP)) 2 (.bool eI)) 3 (.ptr cv ck)) 8 (.int .i64 eJ)) = tm:=by rw [q2]; exact Tm.put_same e8
     rw [← q3]
     exact Eq.trans (by kernel_rfl) h
    ·refine LoopsOk.seq ?_ ?_
     ·exact loops_none (by kernel_rfl)
     ·refine LoopsOk.seq ?_ ?_
      ·refine LoopsOk.block ?_
       refine LoopsOk.seq ?_ ?_
       ·exact loops_none (by kernel_rfl)
       ·refine LoopsOk.block ?_
        refine LoopsOk.loop (fun tm H=>?_) (fun k213 tm H r h0=>?_) (fun k213=>?_)
        ·refine none_of fun r h0=>?_
         obtain ⟨eW,cO,cU,ea,fu,cJ,cP,hks,e1,e2,e3,e8,e9,h⟩:=ah.lh213_inv (show ah.lh213 F aP aQ [k13] 0 tm H = some r from h0)
         cases h
        ·obtain ⟨eW,cO,cU,ea,fu,cJ,cP,hks,e1,e2,e3,e8,e9,h⟩:=ah.lh213_inv (show ah.lh213 F aP aQ [k13] (k213 + 1) tm H = some r from h0)
         obtain rfl:eW = k13:=by simpa [eq_comm] using hks
         have q0:(Tm.put tm 1 (.int .i64 cO)) = tm:=by exact Tm.put_same e1
         have q1:(Tm.put (Tm.put tm 1 (.int .i64 cO)) 2 (.bool cU)) = tm:=by rw [q0]; exact Tm.put_same e2
         have q2:(Tm.put (Tm.put (Tm.put tm 1 (.int .i64 cO)) 2 (.bool cU)) 3 (.ptr ea fu)) = tm:=by rw [q1]; exact Tm.put_same e3
         have q3:(Tm.put (Tm.put (Tm.put (Tm.put tm 1 (.int .i64 cO)) 2 (.bool cU)) 3 (.ptr ea fu)) 8 (.int .i64 cJ)) = tm:=by rw [q2]; exact Tm.put_same e8
         have q4:(Tm.put (Tm.put (Tm.put (Tm.put (Tm.put tm 1 (.int .i64 cO)) 2 (.bool cU)) 3 (.ptr ea fu)) 8 (.int .i64 cJ)) 9 (.int .i64 cP)) = tm:=by rw [q3]; exact Tm.put_same e9
         rw [← q4]
         exact Eq.trans (by kernel_rfl) h
        ·exact loops_none (by kernel_rfl)
      ·exact loops_none (by kernel_rfl)
  ·exact loops_none (by kernel_rfl)
theorem ah.eqX (F:Nat) (aP:Int→Int→Int→Int→Int→Int→Hp→OA) (aQ:Int→Int→Int→Int→Int→Int→Hp→OA) (aa:Sl) (ab:Int) (au:Int) (eX:Bool) (H:Hp):aCode tabs (mkOrc (ah.cs F aP aQ)) ah.pn (ah.lh F aP aQ) F [] 1 ah.code (argTm [(.agg [(.sl aa),(.int .i64 ab)]),(.int .i64 au),(.bool eX)]) H (fun tm H=>aresults tabs.ty H tm Try.f152.results.toList fun v=>some (v,H)) (fun _ _ _=>none) (fun tm H=>aresults tabs.ty H tm Try.f152.results.toList fun v=>some (v,H)) = ah.twX F aP aQ aa ab au eX H:=by kernel_rfl
theorem ah.cs_ok (F:Nat):∀ p ∈ ah.cs F (aV.tw F) (aW.tw F),∀ args H v H',p.2 args H = some (v,H')→Go.AE.T Try.prog p.1 args H v H':=by
 intro p hp
 simp only [ah.cs,List.mem_cons,List.not_mem_nil,or_false] at hp
 rcases hp with rfl | rfl
 ·exact fun args H v H' h=>aV.mk_T h
 ·exact fun args H v H' h=>aW.mk_T h
theorem ah.ok:codeOk ah.pn Try.f152.ntmps ah.tb ah.code = true:=by kernel_rfl
theorem ah.T {F:Nat} {aa:Sl} {ab:Int} {au:Int} {eX:Bool} {H:Hp} {v:AV} {H':Hp} (h:ah.tw F aa ab au eX H = some (v,H')):Go.AE.T Try.prog 152 [(.agg [(.sl aa),(.int .i64 ab)]),(.int .i64 au),(.bool eX)] H v H':=
 Go.AE.T.of (Y:=tabs) (C:=mkOrc (ah.cs F (aV.tw F) (aW.tw F))) (PN:=ah.pn) (LH:=ah.lh F (aV.tw F) (aW.tw F)) (F:=F) (TB:=ah.tb) (fn:=Try.f152) (code:=ah.code) mixed tabs_ok (mkOrc_ok (ah.cs_ok F)) Try.func152 (by kernel_rfl) (by kernel_rfl) ah.ok (Nat.le_of_ble_eq_true (by kernel_rfl)) (ah.loops F (aV.tw F) (aW.tw F)) (Eq.trans (ah.eqX F (aV.tw F) (aW.tw F) aa ab au eX H) h)
theorem ah.mk_T {F:Nat} {args:List AV} {H:Hp} {v:AV} {H':Hp} (h:ah.mk (ah.tw F) args H = some (v,H')):Go.AE.T Try.prog 152 args H v H':=by
 unfold ah.mk at h
 split at h
 ·exact ah.T h
 ·cases h
noncomputable def bm.twX (F:Nat) (aP:Int→Int→Int→Int→Int→Int→Hp→OA) (aQ:Int→Int→Int→Int→Int→Int→Hp→OA) (bk:Sl→Int→Int→Bool→Hp→OA) (aa:Sl) (ab:Int) (au:Int) (H:Hp):OA:=(Hp.new H [(.sl aa),(.int .i64 ab)]).bind fun H4=>(Hp.ldSl H4 H.length 0).bind fun s5=>(Sl.idx s5 (IntKind.i64.wrap (Int.tdiv au 4)) 5).bind fun p6=>(Hp.ldI H4 .i64 p6.1 p6.2).bind fun n7=>(Hp.ldI H4 .i64 p6.1 (p6.2 + 1)).bind fun n8=>(Hp.ldI H4 .i64 p6.1 (p6.2 + 2)).bind fun n9=>(Hp.ldI H4 .i64 p6.1 (p6.2 + 3)).bind fun n10=>(Hp.ldI H4 .i64 p6.1 (p6.2 + 4)).bind fun n11=>(Hp.new H4 [.int .i64 0,.int .i64 0,.int .i64 0,.int .i64 0,.int .i64 0]).bind fun H12=>(Hp.st H12 H4.length 0 (.int .i64 n7)).bind fun H13=>(Hp.st H13 H4.length (0 + 1) (.int .i64 n8)).bind fun H14=>(Hp.st H14 H4.length (0 + 1 + 1) (.int .i64 n9)).bind fun H15=>(Hp.st H15 H4.length (0 + 1 + 1 + 1) (.int .i64 n10)).bind fun H16=>(Hp.st H16 H4.length (0 + 1 + 1 + 1 + 1) (.int .i64 n11)).bind fun H17=>(Hp.ldSl H17 H.length 0).bind fun s18=>(Hp.ldI H17 .i64 H.length (0 + 1)).bind fun n19=>(Hp.ldI H17 .i64 H4.length 0).bind fun n20=>(Hp.ldI H17 .i64 H4.length (0 + 1)).bind fun n21=>(Hp.ldI H17 .i64 H4.length (0 + 2)).bind fun n22=>(Hp.ldI H17 .i64 H4.length (0 + 3)).bind fun n23=>(Hp.ldI H17 .i64 H4.length (0 + 4)).bind fun n24=>(aP n20 n21 n22 n23 n24 (Int.tmod (IntKind.i64.wrap ((Int.tmod au 4) + 1)) 4) H17).bind fun r25=>((r25.1).asI .i64).bind fun n26=>(if Cons H17 r25.2 then ((Hp.ldI r25.2 .i64 H4.length 0).bind fun n27=>(Hp.ldI r25.2 .i64 H4.length (0 + 1)).bind fun n28=>(Hp.ldI r25.2 .i64 H4.length (0 + 2)).bind fun n29=>(Hp.ldI r25.2 .i64 H4.length (0 + 3)).bind fun n30=>(Hp.ldI r25.2 .i64 H4.length (0 + 4)).bind fun n31=>(aQ n27 n28 n29 n30 n31 (Int.tmod (IntKind.i64.wrap ((Int.tmod au 4) + 1)) 4) r25.2).bind fun r32=>((r32.1).asB).bind fun b33=>(if Cons r25.2 r32.2 then ((bk s18 n19 n26 (!b33) r32.2).bind fun r34=>((r34.1).asTup 2).bind fun l35=>(l35[0]?).bind fun v36=>((v36).asI .i64).bind fun n37=>(l35[1]?).bind fun v38=>((v38).asI .i64).bind fun n39=>some ((.int .i64 (IntKind.i64.wrap ((IntKind.i64.wrap (4 * n37)) + n39))),r34.2)) else none)) else none)
noncomputable def bm.tw (F:Nat) (aa:Sl) (ab:Int) (au:Int) (H:Hp):OA:=bm.twX F (aV.tw F) (aW.tw F) (ah.tw F) aa ab au H
noncomputable def bm.code:Go.Code:=(Try.f142.body).getD .skip
noncomputable def bm.lh (F:Nat) (aP:Int→Int→Int→Int→Int→Int→Hp→OA) (aQ:Int→Int→Int→Int→Int→Int→Hp→OA) (bk:Sl→Int→Int→Bool→Hp→OA) (p:Nat) (ks:List Nat) (n:Nat) (tm:Tm) (H:Hp):OA:=none
def bm.pn:Nat→List Nat:=fun i=>(([(3,[8])]:List (Nat×List Nat)).lookup i).getD []
def bm.tb:Nat→List (List Nat):=fun i=>(([(3,[[],[],[],[1,2],[],[],[1,2,3,4,5],[1,2,3,4,5,6],[0,1,2,3,4,5,6,7],[0,1,2,3,4,5,6,7,8],[0,1,2,3,4,5,6,7,8,9],[0,1,2,3,4,5,6,7,8,9],[0,1,2,3,4,5,6,7,8,9,10],[0,1,2,3,4,5,6,7,8,9,10,11,12]])]:List (Nat×List (List Nat))).lookup i).getD []
noncomputable def bm.mk (g:Sl→Int→Int→Hp→OA) (args:List AV) (H:Hp):OA:=match args with
 | [(.agg [(.sl aa),(.int .i64 ab)]),(.int .i64 au)]=>g aa ab au H
 | _=>none
noncomputable def bm.cs (F:Nat) (aP:Int→Int→Int→Int→Int→Int→Hp→OA) (aQ:Int→Int→Int→Int→Int→Int→Hp→OA) (bk:Sl→Int→Int→Bool→Hp→OA):List (FuncId×(List AV→Hp→OA)):=[(140,aV.mk aP),(141,aW.mk aQ),(152,ah.mk bk)]
theorem bm.loops (F:Nat) (aP:Int→Int→Int→Int→Int→Int→Hp→OA) (aQ:Int→Int→Int→Int→Int→Int→Hp→OA) (bk:Sl→Int→Int→Bool→Hp→OA):LoopsOk tabs (mkOrc (bm.cs F aP aQ bk)) bm.pn (bm.lh F aP aQ bk) F [] 1 bm.code (fun tm H=>aresults tabs.ty H tm Try.f142.results.toList fun v=>some (v,H)) (fun _ _ _=>none) (fun tm H=>aresults tabs.ty H tm Try.f142.results.toList fun v=>some (v,H)):=by
 exact loops_none (by kernel_rfl)
theorem bm.eqX (F:Nat) (aP:Int→Int→Int→Int→Int→Int→Hp→OA) (aQ:Int→Int→Int→Int→Int→Int→Hp→OA) (bk:Sl→Int→Int→Bool→Hp→OA) (aa:Sl) (ab:Int) (au:Int) (H:Hp):aCode tabs (mkOrc (bm.cs F aP aQ bk)) bm.pn (bm.lh F aP aQ bk) F [] 1 bm.code (argTm [(.agg [(.sl aa),(.int .i64 ab)]),(.int .i64 au)]) H (fun tm H=>aresults tabs.ty H tm Try.f142.results.toList fun v=>some (v,H)) (fun _ _ _=>none) (fun tm H=>aresults tabs.ty H tm Try.f142.results.toList fun v=>some (v,H)) = bm.twX F aP aQ bk aa ab au H:=by kernel_rfl
theorem bm.cs_ok (F:Nat):∀ p ∈ bm.cs F (aV.tw F) (aW.tw F) (ah.tw F),∀ args H v H',p.2 args H = some (v,H')→Go.AE.T Try.prog p.1 args H v H':=by
 intro p hp
 simp only [bm.cs,List.mem_cons,List.not_mem_nil,or_false] at hp
 rcases hp with rfl | rfl | rfl
 ·exact fun args H v H' h=>aV.mk_T h
 ·exact fun args H v H' h=>aW.mk_T h
 ·exact fun args H v H' h=>ah.mk_T h
theorem bm.ok:codeOk bm.pn Try.f142.ntmps bm.tb bm.code = true:=by kernel_rfl
theorem bm.T {F:Nat} {aa:Sl} {ab:Int} {au:Int} {H:Hp} {v:AV} {H':Hp} (h:bm.tw F aa ab au H = some (v,H')):Go.AE.T Try.prog 142 [(.agg [(.sl aa),(.int .i64 ab)]),(.int .i64 au)] H v H':=
 Go.AE.T.of (Y:=tabs) (C:=mkOrc (bm.cs F (aV.tw F) (aW.tw F) (ah.tw F))) (PN:=bm.pn) (LH:=bm.lh F (aV.tw F) (aW.tw F) (ah.tw F)) (F:=F) (TB:=bm.tb) (fn:=Try.f142) (code:=bm.code) mixed tabs_ok (mkOrc_ok (bm.cs_ok F)) Try.func142 (by kernel_rfl) (by kernel_rfl) bm.ok (Nat.le_of_ble_eq_true (by kernel_rfl)) (bm.loops F (aV.tw F) (aW.tw F) (ah.tw F)) (Eq.trans (bm.eqX F (aV.tw F) (aW.tw F) (ah.tw F) aa ab au H) h)
theorem bm.mk_T {F:Nat} {args:List AV} {H:Hp} {v:AV} {H':Hp} (h:bm.mk (bm.tw F) args H = some (v,H')):Go.AE.T Try.prog 142 args H v H':=by
 unfold bm.mk at h
 split at h
 ·exact bm.T h
 ·cases h
noncomputable def ak.j4 (F:Nat) (bU:Sl→Int→Int→Hp→OA) (C61_:Nat→Nat→Sl→Sl→Int→Hp→OA) (nm:Nat) (yA:Nat) (yB:Sl) (yC:Sl) (jG:Int) (H108:Hp):OA:=C61_ nm yA yB yC (IntKind.i64.wrap (jG + 1)) H108
noncomputable def ak.j5 (F:Nat) (bU:Sl→Int→Int→Hp→OA) (C61_:Nat→Nat→Sl→Sl→Int→Hp→OA) (nn:Nat) (yD:Nat) (yE:Sl) (yF:Sl) (jH:Int) (H164:Hp):OA:=C61_ nn yD yE yF (IntKind.i64.wrap (jH + 1)) H164
noncomputable def ak.j6 (F:Nat) (bU:Sl→Int→Int→Hp→OA) (C61_:Nat→Nat→Sl→Sl→Int→Hp→OA) (np:Nat) (iE:Nat) (jB:Sl) (yG:Sl) (jI:Int) (yH:Sl) (H147:Hp):OA:=(Hp.new H147 [(.sl yH)]).bind fun H148=>(Sl.row H148 (⟨some (H147.length,0),1,.ex 1⟩:Sl) 1).bind fun xs150=>(Hp.app H148 1 24 jB (⟨some (H147.length,0),1,.ex 1⟩:Sl).n xs150).bind fun a149=>ak.j5 F bU C61_ np iE a149.1 yG jI a149.2
noncomputable def ak.l7853 (F:Nat) (bU:Sl→Int→Int→Hp→OA) (C61_:Nat→Nat→Sl→Sl→Int→Hp→OA):Nat→Nat→Nat→Sl→Sl→Int→Sl→Int→Hp→OA
 | 0,_,_,_,_,_,_,_,_=>none
 | yI + 1,dD,eY,fE,fv,eb,ci,cZ,H122=>(Sl.idx fv cZ 1).bind fun p165=>(Hp.ldB H122 p165.1 p165.2).bind fun b166=>(bif (!b166) then ((Sl.idx fv cZ 1).bind fun p167=>(Hp.st H122 p167.1 p167.2 (.bool true)).bind fun H168=>(Hp.new H168 [(.int .i64 cZ)]).bind fun H169=>(Sl.row H169 (⟨some (H168.length,0),1,.ex 1⟩:Sl) 1).bind fun xs171=>(Hp.app H169 1 8 ci (⟨some (H168.length,0),1,.ex 1⟩:Sl).n xs171).bind fun a170=>(Hp.ldSl a170.2 dD eY).bind fun s172=>(Hp.ldI a170.2 .i64 dD (eY + 1)).bind fun n173=>(bU s172 n173 cZ a170.2).bind fun r174=>((r174.1).asI .i64).bind fun n175=>ak.l7853 F bU C61_ yI dD eY fE fv eb a170.1 n175 r174.2) else (ak.j6 F bU C61_ dD eY fE fv eb ci H122))
termination_by structural n=>n
noncomputable def ak.l61 (F:Nat) (bU:Sl→Int→Int→Hp→OA) :Nat→Nat→Nat→Sl→Sl→Int→Hp→OA
 | 0,_,_,_,_,_,_=>none
 | bg + 1,bY,cq,cg,cN,cd,H15=>(bif (decide (cd < (cN.n:Int))) then ((Sl.idx cN cd 1).bind fun p96=>(Hp.ldB H15 p96.1 p96.2).bind fun b97=>(bif b97 then (ak.j4 F bU (ak.l61 F bU bg) bY cq cg cN cd H15) else ((Hp.new H15 []).bind fun H109=>ak.l7853 F bU (ak.l61 F bU bg) F bY cq cg cN cd (⟨some (H15.length,0),0,.ex 0⟩:Sl) cd H109))) else (some ((.sl cg),H15)))
termination_by structural n=>n
noncomputable def ak.twX (F:Nat) (bU:Sl→Int→Int→Hp→OA) (aa:Sl) (ab:Int) (H:Hp):OA:=(Hp.new H [(.sl aa),(.int .i64 ab)]).bind fun H3=>(Hp.new H3 []).bind fun H4=>(Hp.ldSl H4 H.length 0).bind fun s5=>(Hp.mk H4 [.bool false] 1 (IntKind.i64.wrap (4 * (s5.n:Int))) (IntKind.i64.wrap (4 * (s5.n:Int)))).bind fun m6=>ak.l61 F bU F H.length 0 (⟨some (H3.length,0),0,.ex 0⟩:Sl) m6.1 0 m6.2
noncomputable def ak.tw (F:Nat) (aa:Sl) (ab:Int) (H:Hp):OA:=ak.twX F (bm.tw F) aa ab H
noncomputable def ak.code:Go.Code:=(Try.f105.body).getD .skip
noncomputable def ak.lh61 (F:Nat) (bU:Sl→Int→Int→Hp→OA) (ks:List Nat) (n:Nat) (tm:Tm) (H:Hp):OA:=match ks,tm 1,tm 3,tm 4,tm 5 with
 | [],(.ptr bY cq),(.sl cg),(.sl cN),(.int .i64 cd)=>ak.l61 F bU n bY cq cg cN cd H
 | _,_,_,_,_=>none
theorem ak.lh61_inv {F:Nat} {bU:Sl→Int→Int→Hp→OA} {ks:List Nat} {n:Nat} {tm:Tm} {H:Hp} {r:AV×Hp} (h:ak.lh61 F bU ks n tm H = some r):∃ bY:Nat,∃ cq:Nat,∃ cg:Sl,∃ cN:Sl,∃ cd:Int,ks = []∧tm 1 = (.ptr bY cq)∧tm 3 = (.sl cg)∧tm 4 = (.sl cN)∧tm 5 = (.int .i64 cd)∧ak.l61 F bU n bY cq cg cN cd H = some r:=by
 unfold ak.lh61 at h
 split at h
 ·exact ⟨_,_,_,_,_,rfl,by assumption,by assumption,by assumption,by assumption,h⟩
 ·cases h
noncomputable def ak.lh7853 (F:Nat) (bU:Sl→Int→Int→Hp→OA) (ks:List Nat) (n:Nat) (tm:Tm) (H:Hp):OA:=match ks,tm 1,tm 3,tm 4,tm 5,tm 6,tm 7 with
 | [bg],(.ptr dD eY),(.sl fE),(.sl fv),(.int .i64 eb),(.sl ci),(.int .i64 cZ)=>ak.l7853 F bU (ak.l61 F bU bg) n dD eY fE fv eb ci cZ H
 | _,_,_,_,_,_,_=>none
theorem ak.lh7853_inv {F:Nat} {bU:Sl→Int→Int→Hp→OA} {ks:List Nat} {n:Nat} {tm:Tm} {H:Hp} {r:AV×Hp} (h:ak.lh7853 F bU ks n tm H = some r):∃ bg:Nat,∃ dD:Nat,∃ eY:Nat,∃ fE:Sl,∃ fv:Sl,∃ eb:Int,∃ ci:Sl,∃ cZ:Int,ks = [bg]∧tm 1 = (.ptr dD eY)∧tm 3 = (.sl fE)∧tm 4 = (.sl fv)∧tm 5 = (.int .i64 eb)∧tm 6 = (.sl ci)∧tm 7 = (.int .i64 cZ)∧ak.l7853 F bU (ak.l61 F bU bg) n dD eY fE fv eb ci cZ H = some r:=by
 unfold ak.lh7853 at h
 split at h
 ·exact ⟨_,_,_,_,_,_,_,_,rfl,by assumption,by assumption,by assumption,by assumption,by assumption,by assumption,h⟩
 ·cases h
noncomputable def ak.lh (F:Nat) (bU:Sl→Int→Int→Hp→OA) (p:Nat) (ks:List Nat) (n:Nat) (tm:Tm) (H:Hp):OA:=bif p.beq 7853 then ak.lh7853 F bU ks n tm H else (bif p.beq 61 then ak.lh61 F bU ks n tm H else (none))
def ak.pn:Nat→List Nat:=fun i=>(([]:List (Nat×List Nat)).lookup i).getD []
def ak.tb:Nat→List (List Nat):=fun i=>(([]:List (Nat×List (List Nat))).lookup i).getD []
noncomputable def ak.mk (g:Sl→Int→Hp→OA) (args:List AV) (H:Hp):OA:=match args with
 | [(.agg [(.sl aa),(.int .i64 ab)])]=>g aa ab H
 | _=>none
noncomputable def ak.cs (F:Nat) (bU:Sl→Int→Int→Hp→OA):List (FuncId×(List AV→Hp→OA)):=[(142,bm.mk bU)]
theorem ak.loops (F:Nat) (bU:Sl→Int→Int→Hp→OA):LoopsOk tabs (mkOrc (ak.cs F bU)) ak.pn (ak.lh F bU) F [] 1 ak.code (fun tm H=>aresults tabs.ty H tm Try.f105.results.toList fun v=>some (v,H)) (fun _ _ _=>none) (fun tm H=>aresults tabs.ty H tm Try.f105.results.toList fun v=>some (v,H)):=by
 refine LoopsOk.seq ?_ ?_
 ·exact loops_none (by kernel_rfl)
 ·refine LoopsOk.seq ?_ ?_
  ·exact loops_none (by kernel_rfl)
  ·refine LoopsOk.seq ?_ ?_
   ·exact loops_none (by kernel_rfl)
   ·refine LoopsOk.seq ?_ ?_
    ·refine LoopsOk.seq ?_ ?_
     ·exact loops_none (by kernel_rfl)
     ·refine LoopsOk.block ?_
      refine LoopsOk.loop (fun tm H=>?_) (fun k61 tm H r h0=>?_) (fun k61=>?_)
      ·refine none_of fun r h0=>?_
       obtain ⟨bY,cq,cg,cN,cd,hks,e1,e3,e4,e5,h⟩:=ak.lh61_inv (show ak.lh61 F bU [] 0 tm H = some r from h0)
       cases h
      ·obtain ⟨bY,cq,cg,cN,cd,hks,e1,e3,e4,e5,h⟩:=ak.lh61_inv (show ak.lh61 F bU [] (k61 + 1) tm H = some r from h0)
       have q0:(Tm.put tm 1 (.ptr bY cq)) = tm:=by exact Tm.put_same e1
       have q1:(Tm.put (Tm.put tm 1 (.ptr bY cq)) 3 (.sl cg)) = tm:=by rw [q0]; exact Tm.put_same e3
       have q2:(Tm.put (Tm.put (Tm.put tm 1 (.ptr bY cq)) 3 (.sl cg)) 4 (.sl cN)) = tm:=by rw [q1]; exact Tm.put_same e4
       have q3:(Tm.put (Tm.put (Tm.put (Tm.put tm 1 (.ptr bY cq)) 3 (.sl cg)) 4 (.sl cN)) 5 (.int .i64 cd)) = tm:=by rw [q2]; exact Tm.put_same e5
       rw [← q3]
       exact Eq.trans (by kernel_rfl) h
      ·refine LoopsOk.seq ?_ ?_
       ·exact loops_none (by kernel_rfl)
       ·refine LoopsOk.seq ?_ ?_
        ·refine LoopsOk.block ?_
         refine LoopsOk.seq ?_ ?_
         ·exact loops_none (by kernel_rfl)
         ·refine LoopsOk.seq ?_ ?_
          ·exact loops_none (by kernel_rfl)
          ·refine LoopsOk.seq ?_ ?_
           ·refine LoopsOk.seq ?_ ?_
            ·exact loops_none (by kernel_rfl)
            ·refine LoopsOk.block ?_
             refine LoopsOk.loop (fun tm H=>?_) (fun k7853 tm H r h0=>?_) (fun k7853=>?_)
             ·refine none_of fun r h0=>?_
              obtain ⟨bg,dD,eY,fE,fv,eb,ci,cZ,hks,e1,e3,e4,e5,e6,e7,h⟩:=ak.lh7853_inv (show ak.lh7853 F bU [k61] 0 tm H = some r from h0)
              cases h
             ·obtain ⟨bg,dD,eY,fE,fv,eb,ci,cZ,hks,e1,e3,e4,e5,e6,e7,h⟩:=ak.lh7853_inv (show ak.lh7853 F bU [k61] (k7853 + 1) tm H = some r from h0)
              obtain rfl:bg = k61:=by simpa [eq_comm] using hks
              have q0:(Tm.put tm 1 (.ptr dD eY)) = tm:=by exact Tm.put_same e1
              have q1:(Tm.put (Tm.put tm 1 (.ptr dD eY)) 3 (.sl fE)) = tm:=by rw [q0]; exact Tm.put_same e3
              have q2:(Tm.put (Tm.put (Tm.put tm 1 (.ptr dD eY)) 3 (.sl fE)) 4 (.sl fv)) = tm:=by rw [q1]; exact Tm.put_same e4
              have q3:(Tm.put (Tm.put (Tm.put (Tm.put tm 1 (.ptr dD eY)) 3 (.sl fE)) 4 (.sl fv)) 5 (.int .i64 eb)) = tm:=by rw [q2]; exact Tm.put_same e5
              have q4:(Tm.put (Tm.put (Tm.put (Tm.put (Tm.put tm 1 (.ptr dD eY)) 3 (.sl fE)) 4 (.sl fv)) 5 (.int .i64 eb)) 6 (.sl ci)) = tm:=by rw [q3]; exact Tm.put_same e6
              have q5:(Tm.put (Tm.put (Tm.put (Tm.put (Tm.put (Tm.put tm 1 (.ptr dD eY)) 3 (.sl fE)) 4 (.sl fv)) 5 (.int .i64 eb)) 6 (.sl ci)) 7 (.int .i64 cZ)) = tm:=by rw [q4]; exact Tm.put_same e7
              rw [← q5]
              exact Eq.trans (by kernel_rfl) h
             ·exact loops_none (by kernel_rfl)
           ·exact loops_none (by kernel_rfl)
        ·exact loops_none (by kernel_rfl)
    ·exact loops_none (by kernel_rfl)
theorem ak.eqX (F:Nat) (bU:Sl→Int→Int→Hp→OA) (aa:Sl) (ab:Int) (H:Hp):aCode tabs (mkOrc (ak.cs F bU)) ak.pn (ak.lh F bU) F [] 1 ak.code (argTm [(.agg [(.sl aa),(.int .i64 ab)])]) H (fun tm H=>aresults tabs.ty H tm Try.f105.results.toList fun v=>some (v,H)) (fun _ _ _=>none) (fun tm H=>aresults tabs.ty H tm Try.f105.results.toList fun v=>some (v,H)) = ak.twX F bU aa ab H:=by kernel_rfl
theorem ak.cs_ok (F:Nat):∀ p ∈ ak.cs F (bm.tw F),∀ args H v H',p.2 args H = some (v,H')→Go.AE.T Try.prog p.1 args H v H':=by
 intro p hp
 simp only [ak.cs,List.mem_cons,List.not_mem_nil,or_false] at hp
 subst hp
 exact fun args H v H' h=>bm.mk_T h
theorem ak.ok:codeOk ak.pn Try.f105.ntmps ak.tb ak.code = true:=by kernel_rfl
theorem ak.T {F:Nat} {aa:Sl} {ab:Int} {H:Hp} {v:AV} {H':Hp} (h:ak.tw F aa ab H = some (v,H')):Go.AE.T Try.prog 105 [(.agg [(.sl aa),(.int .i64 ab)])] H v H':=
 Go.AE.T.of (Y:=tabs) (C:=mkOrc (ak.cs F (bm.tw F))) (PN:=ak.pn) (LH:=ak.lh F (bm.tw F)) (F:=F) (TB:=ak.tb) (fn:=Try.f105) (code:=ak.code) mixed tabs_ok (mkOrc_ok (ak.cs_ok F)) Try.func105 (by kernel_rfl) (by kernel_rfl) ak.ok (Nat.le_of_ble_eq_true (by kernel_rfl)) (ak.loops F (bm.tw F)) (Eq.trans (ak.eqX F (bm.tw F) aa ab H) h)
theorem ak.mk_T {F:Nat} {args:List AV} {H:Hp} {v:AV} {H':Hp} (h:ak.mk (ak.tw F) args H = some (v,H')):Go.AE.T Try.prog 105 args H v H':=by
 unfold ak.mk at h
 split at h
 ·exact ak.T h
 ·cases h
noncomputable def af.j6 (F:Nat) (bk:Sl→Int→Int→Bool→Hp→OA) (C61_:Nat→Nat→Sl→Int→Hp→OA) (nq:Nat) (yJ:Nat) (yK:Sl) (jJ:Int) (H243:Hp):OA:=C61_ nq yJ yK (IntKind.i64.wrap (jJ + 1)) H243
noncomputable def af.j7 (F:Nat) (bk:Sl→Int→Int→Bool→Hp→OA) (C61_:Nat→Nat→Sl→Int→Hp→OA) (nr:Nat) (yL:Nat) (jK:Sl) (iF:Int) (H226:Hp):OA:=af.j6 F bk C61_ nr yL jK iF H226
noncomputable def af.j8 (F:Nat) (bk:Sl→Int→Int→Bool→Hp→OA) (C7855_:Nat→Nat→Sl→Int→Int→Int→Int→Hp→OA) (ns:Nat) (yM:Nat) (yN:Sl) (jL:Int) (jM:Int) (jN:Int) (jO:Int) (H265:Hp):OA:=C7855_ ns yM yN jL jM jN (IntKind.i64.wrap (jO + 1)) H265
noncomputable def af.l7855 (F:Nat) (bk:Sl→Int→Int→Bool→Hp→OA) (C61_:Nat→Nat→Sl→Int→Hp→OA):Nat→Nat→Nat→Sl→Int→Int→Int→Int→Hp→OA
 | 0,_,_,_,_,_,_,_,_=>none
 | tC + 1,dY,fh,eK,dl,cw,cK,c_,H187=>(bif (decide (c_ < (eK.n:Int))) then ((Sl.idx eK c_ 1).bind fun p244=>(Hp.ldI H187 .i64 p244.1 p244.2).bind fun n245=>(bif (n245 == (if cK > cw then cK else cw)) then ((Sl.idx eK c_ 1).bind fun p246=>(Hp.st H187 p246.1 p246.2 (.int .i64 (if cK < cw then cK else cw))).bind fun H247=>af.j8 F bk (af.l7855 F bk C61_ tC) dY fh eK dl cw cK c_ H247) else (af.j8 F bk (af.l7855 F bk C61_ tC) dY fh eK dl cw cK c_ H187))) else (af.j7 F bk C61_ dY fh eK dl H187))
termination_by structural n=>n
noncomputable def af.l61 (F:Nat) (bk:Sl→Int→Int→Bool→Hp→OA) :Nat→Nat→Nat→Sl→Int→Hp→OA
 | 0,_,_,_,_,_=>none
 | bg + 1,bV,cn,fN,bM,H35=>(Hp.ldSl H35 bV cn).bind fun s151=>(bif (decide (bM < (IntKind.i64.wrap (2 * (s151.n:Int))))) then ((Hp.ldSl H35 bV cn).bind fun s152=>(Hp.ldI H35 .i64 bV (cn + 1)).bind fun n153=>(bk s152 n153 bM true H35).bind fun r154=>((r154.1).asTup 2).bind fun l155=>(l155[0]?).bind fun v156=>((v156).asI .i64).bind fun n157=>(l155[1]?).bind fun v158=>((v158).asI .i64).bind fun n159=>(Hp.ldSl r154.2 bV cn).bind fun s160=>(Hp.ldI r154.2 .i64 bV (cn + 1)).bind fun n161=>(bk s160 n161 bM false r154.2).bind fun r162=>((r162.1).asTup 2).bind fun l163=>(l163[0]?).bind fun v164=>((v164).asI .i64).bind fun n165=>(l163[1]?).bind fun v166=>((v166).asI .i64).bind fun n167=>(Sl.idx fN n157 1).bind fun p168=>(Hp.ldI r162.2 .i64 p168.1 p168.2).bind fun n169=>(Sl.idx fN n165 1).bind fun p170=>(Hp.ldI r162.2 .i64 p170.1 p170.2).bind fun n171=>af.l7855 F bk (af.l61 F bk bg) F bV cn fN bM n169 n171 0 r162.2) else (some ((.sl fN),H35)))
termination_by structural n=>n
noncomputable def af.j9 (F:Nat) (bk:Sl→Int→Int→Bool→Hp→OA) (nt:Nat) (jP:Nat) (yO:Sl) (H25:Hp):OA:=af.l61 F bk F nt jP yO 0 H25
noncomputable def af.l29 (F:Nat) (bk:Sl→Int→Int→Bool→Hp→OA) :Nat→Nat→Nat→Sl→Int→Hp→OA
 | 0,_,_,_,_,_=>none
 | ft + 1,ca,bP,cv,cj,H12=>(Hp.ldSl H12 ca bP).bind fun s266=>(bif (decide (cj < (s266.n:Int))) then ((Hp.new H12 [(.int .i64 cj)]).bind fun H267=>(Sl.row H267 (⟨some (H12.length,0),1,.ex 1⟩:Sl) 1).bind fun xs269=>(Hp.app H267 1 8 cv (⟨some (H12.length,0),1,.ex 1⟩:Sl).n xs269).bind fun a268=>af.l29 F bk ft ca bP a268.1 (IntKind.i64.wrap (cj + 1)) a268.2) else (af.j9 F bk ca bP cv H12))
termination_by structural n=>n
noncomputable def af.twX (F:Nat) (bk:Sl→Int→Int→Bool→Hp→OA) (aa:Sl) (ab:Int) (H:Hp):OA:=(Hp.new H [(.sl aa),(.int .i64 ab)]).bind fun H3=>(Hp.new H3 []).bind fun H4=>af.l29 F bk F H.length 0 (⟨some (H3.length,0),0,.ex 0⟩:Sl) 0 H4
noncomputable def af.tw (F:Nat) (aa:Sl) (ab:Int) (H:Hp):OA:=af.twX F (ah.tw F) aa ab H
noncomputable def af.code:Go.Code:=(Try.f122.body).getD .skip
noncomputable def af.lh29 (F:Nat) (bk:Sl→Int→Int→Bool→Hp→OA) (ks:List Nat) (n:Nat) (tm:Tm) (H:Hp):OA:=match ks,tm 1,tm 3,tm 4 with
 | [],(.ptr ca bP),(.sl cv),(.int .i64 cj)=>af.l29 F bk n ca bP cv cj H
 | _,_,_,_=>none
theorem af.lh29_inv {F:Nat} {bk:Sl→Int→Int→Bool→Hp→OA} {ks:List Nat} {n:Nat} {tm:Tm} {H:Hp} {r:AV×Hp} (h:af.lh29 F bk ks n tm H = some r):∃ ca:Nat,∃ bP:Nat,∃ cv:Sl,∃ cj:Int,ks = []∧tm 1 = (.ptr ca bP)∧tm 3 = (.sl cv)∧tm 4 = (.int .i64 cj)∧af.l29 F bk n ca bP cv cj H = some r:=by
 unfold af.lh29 at h
 split at h
 ·exact ⟨_,_,_,_,rfl,by assumption,by assumption,by assumption,h⟩
 ·cases h
noncomputable def af.lh61 (F:Nat) (bk:Sl→Int→Int→Bool→Hp→OA) (ks:List Nat) (n:Nat) (tm:Tm) (H:Hp):OA:=match ks,tm 1,tm 3,tm 5 with
 | [],(.ptr bV cn),(.sl fN),(.int .i64 bM)=>af.l61 F bk n bV cn fN bM H
 | _,_,_,_=>none
theorem af.lh61_inv {F:Nat} {bk:Sl→Int→Int→Bool→Hp→OA} {ks:List Nat} {n:Nat} {tm:Tm} {H:Hp} {r:AV×Hp} (h:af.lh61 F bk ks n tm H = some r):∃ bV:Nat,∃ cn:Nat,∃ fN:Sl,∃ bM:Int,ks = []∧tm 1 = (.ptr bV cn)∧tm 3 = (.sl fN)∧tm 5 = (.int .i64 bM)∧af.l61 F bk n bV cn fN bM H = some r:=by
 unfold af.lh61 at h
 split at h
 ·exact ⟨_,_,_,_,rfl,by assumption,by assumption,by assumption,h⟩
 ·cases h
noncomputable def af.lh7855 (F:Nat) (bk:Sl→Int→Int→Bool→Hp→OA) (ks:List Nat) (n:Nat) (tm:Tm) (H:Hp):OA:=match ks,tm 1,tm 3,tm 5,tm 10,tm 11,tm 12 with
 | [bg],(.ptr dY fh),(.sl eK),(.int .i64 dl),(.int .i64 cw),(.int .i64 cK),(.int .i64 c_)=>af.l7855 F bk (af.l61 F bk bg) n dY fh eK dl cw cK c_ H
 | _,_,_,_,_,_,_=>none
theorem af.lh7855_inv {F:Nat} {bk:Sl→Int→Int→Bool→Hp→OA} {ks:List Nat} {n:Nat} {tm:Tm} {H:Hp} {r:AV×Hp} (h:af.lh7855 F bk ks n tm H = some r):∃ bg:Nat,∃ dY:Nat,∃ fh:Nat,∃ eK:Sl,∃ dl:Int,∃ cw:Int,∃ cK:Int,∃ c_:Int,ks = [bg]∧tm 1 = (.ptr dY fh)∧tm 3 = (.sl eK)∧tm 5 = (.int .i64 dl)∧tm 10 = (.int .i64 cw)∧tm 11 = (.int .i64 cK)∧tm 12 = (.int .i64 c_)∧af.l7855 F bk (af.l61 F bk bg) n dY fh eK dl cw cK c_ H = some r:=by
 unfold af.lh7855 at h
 split at h
 ·exact ⟨_,_,_,_,_,_,_,_,rfl,by assumption,by assumption,by assumption,by assumption,by assumption,by assumption,h⟩
 ·cases h
noncomputable def af.lh (F:Nat) (bk:Sl→Int→Int→Bool→Hp→OA) (p:Nat) (ks:List Nat) (n:Nat) (tm:Tm) (H:Hp):OA:=bif p.beq 7855 then af.lh7855 F bk ks n tm H else (bif p.beq 61 then af.lh61 F bk ks n tm H else (bif p.beq 29 then af.lh29 F bk ks n tm H else (none)))
def af.pn:Nat→List Nat:=fun i=>(([(11,[])]:List (Nat×List Nat)).lookup i).getD []
def af.tb:Nat→List (List Nat):=fun i=>(([(11,[[],[],[0,1],[0,1,2],[],[],[4,5],[4,5,6],[0,1,2,3],[0,1,2,3,4,5,6,7,8]])]:List (Nat×List (List Nat))).lookup i).getD []
noncomputable def af.mk (g:Sl→Int→Hp→OA) (args:List AV) (H:Hp):OA:=match args with
 | [(.agg [(.sl aa),(.int .i64 ab)])]=>g aa ab H
 | _=>none
noncomputable def af.cs (F:Nat) (bk:Sl→Int→Int→Bool→Hp→OA):List (FuncId×(List AV→Hp→OA)):=[(152,ah.mk bk)]
theorem af.loops (F:Nat) (bk:Sl→Int→Int→Bool→Hp→OA):LoopsOk tabs (mkOrc (af.cs F bk)) af.pn (af.lh F bk) F [] 1 af.code (fun tm H=>aresults tabs.ty H tm Try.f122.results.toList fun v=>some (v,H)) (fun _ _ _=>none) (fun tm H=>aresults tabs.ty H tm Try.f122.results.toList fun v=>some (v,H)):=by
 refine LoopsOk.seq ?_ ?_
 ·exact loops_none (by kernel_rfl)
 ·refine LoopsOk.seq ?_ ?_
  ·exact loops_none (by kernel_rfl)
  ·refine LoopsOk.seq ?_ ?_
   ·refine LoopsOk.seq ?_ ?_
    ·exact loops_none (by kernel_rfl)
    ·refine LoopsOk.block ?_
     refine LoopsOk.loop (fun tm H=>?_) (fun k29 tm H r h0=>?_) (fun k29=>?_)
     ·refine none_of fun r h0=>?_
      obtain ⟨ca,bP,cv,cj,hks,e1,e3,e4,h⟩:=af.lh29_inv (show af.lh29 F bk [] 0 tm H = some r from h0)
      cases h
     ·obtain ⟨ca,bP,cv,cj,hks,e1,e3,e4,h⟩:=af.lh29_inv (show af.lh29 F bk [] (k29 + 1) tm H = some r from h0)
      have q0:(Tm.put tm 1 (.ptr ca bP)) = tm:=by exact Tm.put_same e1
      have q1:(Tm.put (Tm.put tm 1 (.ptr ca bP)) 3 (.sl cv)) = tm:=by rw [q0]; exact Tm.put_same e3
      have q2:(Tm.put (Tm.put (Tm.put tm 1 (.ptr ca bP)) 3 (.sl cv)) 4 (.int .i64 cj)) = tm:=by rw [q1]; exact Tm.put_same e4
      rw [← q2]
      exact Eq.trans (by kernel_rfl) h
     ·exact loops_none (by kernel_rfl)
   ·refine LoopsOk.seq ?_ ?_
    ·refine LoopsOk.seq ?_ ?_
     ·exact loops_none (by kernel_rfl)
     ·refine LoopsOk.block ?_
      refine LoopsOk.loop (fun tm H=>?_) (fun k61 tm H r h0=>?_) (fun k61=>?_)
      ·refine none_of fun r h0=>?_
       obtain ⟨bV,cn,fN,bM,hks,e1,e3,e5,h⟩:=af.lh61_inv (show af.lh61 F bk [] 0 tm H = some r from h0)
       cases h
      ·obtain ⟨bV,cn,fN,bM,hks,e1,e3,e5,h⟩:=af.lh61_inv (show af.lh61 F bk [] (k61 + 1) tm H = some r from h0)
       have q0:(Tm.put tm 1 (.ptr bV cn)) = tm:=by exact Tm.put_same e1
       have q1:(Tm.put (Tm.put tm 1 (.ptr bV cn)) 3 (.sl fN)) = tm:=by rw [q0]; exact Tm.put_same e3
       have q2:(Tm.put (Tm.put (Tm.put tm 1 (.ptr bV cn)) 3 (.sl fN)) 5 (.int .i64 bM)) = tm:=by rw [q1]; exact Tm.put_same e5
       rw [← q2]
       exact Eq.trans (by kernel_rfl) h
      ·refine LoopsOk.seq ?_ ?_
       ·exact loops_none (by kernel_rfl)
       ·refine LoopsOk.seq ?_ ?_
        ·refine LoopsOk.block ?_
         refine LoopsOk.seq ?_ ?_
         ·exact loops_none (by kernel_rfl)
         ·refine LoopsOk.seq ?_ ?_
          ·exact loops_none (by kernel_rfl)
          ·refine LoopsOk.seq ?_ ?_
           ·exact loops_none (by kernel_rfl)
           ·refine LoopsOk.seq ?_ ?_
            ·exact loops_none (by kernel_rfl)
            ·refine LoopsOk.block ?_
             refine LoopsOk.loop (fun tm H=>?_) (fun k7855 tm H r h0=>?_) (fun k7855=>?_)
             ·refine none_of fun r h0=>?_
              obtain ⟨bg,dY,fh,eK,dl,cw,cK,c_,hks,e1,e3,e5,e10,e11,e12,h⟩:=af.lh7855_inv (show af.lh7855 F bk [k61] 0 tm H = some r from h0)
              cases h
             ·obtain ⟨bg,dY,fh,eK,dl,cw,cK,c_,hks,e1,e3,e5,e10,e11,e12,h⟩:=af.lh7855_inv (show af.lh7855 F bk [k61] (k7855 + 1) tm H = some r from h0)
              obtain rfl:bg = k61:=by simpa [eq_comm] using hks
              have q0:(Tm.put tm 1 (.ptr dY fh)) = tm:=by exact Tm.put_same e1
              have q1:(Tm.put (Tm.put tm 1 (.ptr dY fh)) 3 (.sl eK)) = tm:=by rw [q0]; exact Tm.put_same e3
              have q2:(Tm.put (Tm.put (Tm.put tm 1 (.ptr dY fh)) 3 (.sl eK)) 5 (.int .i64 dl)) = tm:=by rw [q1]; exact Tm.put_same e5
              have q3:(Tm.put (Tm.put (Tm.put (Tm.put tm 1 (.ptr dY fh)) 3 (.sl eK)) 5 (.int .i64 dl)) 10 (.int .i64 cw)) = tm:=by rw [q2]; exact Tm.put_same e10
              have q4:(Tm.put (Tm.put (Tm.put (Tm.put (Tm.put tm 1 (.ptr dY fh)) 3 (.sl eK)) 5 (.int .i64 dl)) 10 (.int .i64 cw)) 11 (.int .i64 cK)) = tm:=by rw [q3]; exact Tm.put_same e11
              have q5:(Tm.put (Tm.put (Tm.put (Tm.put (Tm.put (Tm.put tm 1 (.ptr dY fh)) 3 (.sl eK)) 5 (.int .i64 dl)) 10 (.int .i64 cw)) 11 (.int .i64 cK)) 12 (.int .i64 c_)) = tm:=by rw [q4]; exact Tm.put_same e12
              rw [← q5]
              exact Eq.trans (by kernel_rfl) h
             ·exact loops_none (by kernel_rfl)
        ·exact loops_none (by kernel_rfl)
    ·exact loops_none (by kernel_rfl)
theorem af.eqX (F:Nat) (bk:Sl→Int→Int→Bool→Hp→OA) (aa:Sl) (ab:Int) (H:Hp):aCode tabs (mkOrc (af.cs F bk)) af.pn (af.lh F bk) F [] 1 af.code (argTm [(.agg [(.sl aa),(.int .i64 ab)])]) H (fun tm H=>aresults tabs.ty H tm Try.f122.results.toList fun v=>some (v,H)) (fun _ _ _=>none) (fun tm H=>aresults tabs.ty H tm Try.f122.results.toList fun v=>some (v,H)) = af.twX F bk aa ab H:=by kernel_rfl
theorem af.cs_ok (F:Nat):∀ p ∈ af.cs F (ah.tw F),∀ args H v H',p.2 args H = some (v,H')→Go.AE.T Try.prog p.1 args H v H':=by
 intro p hp
 simp only [af.cs,List.mem_cons,List.not_mem_nil,or_false] at hp
 subst hp
 exact fun args H v H' h=>ah.mk_T h
theorem af.ok:codeOk af.pn Try.f122.ntmps af.tb af.code = true:=by kernel_rfl
theorem af.T {F:Nat} {aa:Sl} {ab:Int} {H:Hp} {v:AV} {H':Hp} (h:af.tw F aa ab H = some (v,H')):Go.AE.T Try.prog 122 [(.agg [(.sl aa),(.int .i64 ab)])] H v H':=
 Go.AE.T.of (Y:=tabs) (C:=mkOrc (af.cs F (ah.tw F))) (PN:=af.pn) (LH:=af.lh F (ah.tw F)) (F:=F) (TB:=af.tb) (fn:=Try.f122) (code:=af.code) mixed tabs_ok (mkOrc_ok (af.cs_ok F)) Try.func122 (by kernel_rfl) (by kernel_rfl) af.ok (Nat.le_of_ble_eq_true (by kernel_rfl)) (af.loops F (ah.tw F)) (Eq.trans (af.eqX F (ah.tw F) aa ab H) h)
theorem af.mk_T {F:Nat} {args:List AV} {H:Hp} {v:AV} {H':Hp} (h:af.mk (af.tw F) args H = some (v,H')):Go.AE.T Try.prog 122 args H v H':=by
 unfold af.mk at h
 split at h
 ·exact af.T h
 ·cases h
noncomputable def az.j2 (F:Nat) (cQ:Sl→Int→Hp→OA) (C61_:Int→Sl→Int→Hp→OA) (jQ:Int) (yP:Sl) (jR:Int) (H42:Hp):OA:=C61_ jQ yP (IntKind.i64.wrap (jR + 1)) H42
noncomputable def az.l61 (F:Nat) (cQ:Sl→Int→Hp→OA) :Nat→Int→Sl→Int→Hp→OA
 | 0,_,_,_,_=>none
 | bg + 1,dE,fO,da,H16=>(bif (decide (da < (fO.n:Int))) then ((Sl.idx fO da 1).bind fun p30=>(Hp.ldI H16 .i64 p30.1 p30.2).bind fun n31=>(bif (n31 == da) then (az.j2 F cQ (az.l61 F cQ bg) (IntKind.i64.wrap (dE + 1)) fO da H16) else (az.j2 F cQ (az.l61 F cQ bg) dE fO da H16))) else (some ((.int .i64 dE),H16)))
termination_by structural n=>n
noncomputable def az.twX (F:Nat) (cQ:Sl→Int→Hp→OA) (aa:Sl) (ab:Int) (H:Hp):OA:=(Hp.new H [(.sl aa),(.int .i64 ab)]).bind fun H3=>(Hp.ldSl H3 H.length 0).bind fun s4=>(Hp.ldI H3 .i64 H.length (0 + 1)).bind fun n5=>(cQ s4 n5 H3).bind fun r6=>((r6.1).asSl).bind fun s7=>az.l61 F cQ F 0 s7 0 r6.2
noncomputable def az.tw (F:Nat) (aa:Sl) (ab:Int) (H:Hp):OA:=az.twX F (af.tw F) aa ab H
noncomputable def az.code:Go.Code:=(Try.f97.body).getD .skip
noncomputable def az.lh61 (F:Nat) (cQ:Sl→Int→Hp→OA) (ks:List Nat) (n:Nat) (tm:Tm) (H:Hp):OA:=match ks,tm 3,tm 4,tm 5 with
 | [],(.int .i64 dE),(.sl fO),(.int .i64 da)=>az.l61 F cQ n dE fO da H
 | _,_,_,_=>none
theorem az.lh61_inv {F:Nat} {cQ:Sl→Int→Hp→OA} {ks:List Nat} {n:Nat} {tm:Tm} {H:Hp} {r:AV×Hp} (h:az.lh61 F cQ ks n tm H = some r):∃ dE:Int,∃ fO:Sl,∃ da:Int,ks = []∧tm 3 = (.int .i64 dE)∧tm 4 = (.sl fO)∧tm 5 = (.int .i64 da)∧az.l61 F cQ n dE fO da H = some r:=by
 unfold az.lh61 at h
 split at h
 ·exact ⟨_,_,_,rfl,by assumption,by assumption,by assumption,h⟩
 ·cases h
noncomputable def az.lh (F:Nat) (cQ:Sl→Int→Hp→OA) (p:Nat) (ks:List Nat) (n:Nat) (tm:Tm) (H:Hp):OA:=bif p.beq 61 then az.lh61 F cQ ks n tm H else (none)
def az.pn:Nat→List Nat:=fun i=>(([]:List (Nat×List Nat)).lookup i).getD []
def az.tb:Nat→List (List Nat):=fun i=>(([]:List (Nat×List (List Nat))).lookup i).getD []
noncomputable def az.mk (g:Sl→Int→Hp→OA) (args:List AV) (H:Hp):OA:=match args with
 | [(.agg [(.sl aa),(.int .i64 ab)])]=>g aa ab H
 | _=>none
noncomputable def az.cs (F:Nat) (cQ:Sl→Int→Hp→OA):List (FuncId×(List AV→Hp→OA)):=[(122,af.mk cQ)]
theorem az.loops (F:Nat) (cQ:Sl→Int→Hp→OA):LoopsOk tabs (mkOrc (az.cs F cQ)) az.pn (az.lh F cQ) F [] 1 az.code (fun tm H=>aresults tabs.ty H tm Try.f97.results.toList fun v=>some (v,H)) (fun _ _ _=>none) (fun tm H=>aresults tabs.ty H tm Try.f97.results.toList fun v=>some (v,H)):=by
 refine LoopsOk.seq ?_ ?_
 ·exact loops_none (by kernel_rfl)
 ·refine LoopsOk.seq ?_ ?_
  ·exact loops_none (by kernel_rfl)
  ·refine LoopsOk.seq ?_ ?_
   ·exact loops_none (by kernel_rfl)
   ·refine LoopsOk.seq ?_ ?_
    ·refine LoopsOk.seq ?_ ?_
     ·exact loops_none (by kernel_rfl)
     ·refine LoopsOk.block ?_
      refine LoopsOk.loop (fun tm H=>?_) (fun k61 tm H r h0=>?_) (fun k61=>?_)
      ·refine none_of fun r h0=>?_
       obtain ⟨dE,fO,da,hks,e3,e4,e5,h⟩:=az.lh61_inv (show az.lh61 F cQ [] 0 tm H = some r from h0)
       cases h
      ·obtain ⟨dE,fO,da,hks,e3,e4,e5,h⟩:=az.lh61_inv (show az.lh61 F cQ [] (k61 + 1) tm H = some r from h0)
       have q0:(Tm.put tm 3 (.int .i64 dE)) = tm:=by exact Tm.put_same e3
       have q1:(Tm.put (Tm.put tm 3 (.int .i64 dE)) 4 (.sl fO)) = tm:=by rw [q0]; exact Tm.put_same e4
       have q2:(Tm.put (Tm.put (Tm.put tm 3 (.int .i64 dE)) 4 (.sl fO)) 5 (.int .i64 da)) = tm:=by rw [q1]; exact Tm.put_same e5
       rw [← q2]
       exact Eq.trans (by kernel_rfl) h
      ·exact loops_none (by kernel_rfl)
    ·exact loops_none (by kernel_rfl)
theorem az.eqX (F:Nat) (cQ:Sl→Int→Hp→OA) (aa:Sl) (ab:Int) (H:Hp):aCode tabs (mkOrc (az.cs F cQ)) az.pn (az.lh F cQ) F [] 1 az.code (argTm [(.agg [(.sl aa),(.int .i64 ab)])]) H (fun tm H=>aresults tabs.ty H tm Try.f97.results.toList fun v=>some (v,H)) (fun _ _ _=>none) (fun tm H=>aresults tabs.ty H tm Try.f97.results.toList fun v=>some (v,H)) = az.twX F cQ aa ab H:=by kernel_rfl
theorem az.cs_ok (F:Nat):∀ p ∈ az.cs F (af.tw F),∀ args H v H',p.2 args H = some (v,H')→Go.AE.T Try.prog p.1 args H v H':=by
 intro p hp
 simp only [az.cs,List.mem_cons,List.not_mem_nil,or_false] at hp
 subst hp
 exact fun args H v H' h=>af.mk_T h
theorem az.ok:codeOk az.pn Try.f97.ntmps az.tb az.code = true:=by kernel_rfl
theorem az.T {F:Nat} {aa:Sl} {ab:Int} {H:Hp} {v:AV} {H':Hp} (h:az.tw F aa ab H = some (v,H')):Go.AE.T Try.prog 97 [(.agg [(.sl aa),(.int .i64 ab)])] H v H':=
 Go.AE.T.of (Y:=tabs) (C:=mkOrc (az.cs F (af.tw F))) (PN:=az.pn) (LH:=az.lh F (af.tw F)) (F:=F) (TB:=az.tb) (fn:=Try.f97) (code:=az.code) mixed tabs_ok (mkOrc_ok (az.cs_ok F)) Try.func97 (by kernel_rfl) (by kernel_rfl) az.ok (Nat.le_of_ble_eq_true (by kernel_rfl)) (az.loops F (af.tw F)) (Eq.trans (az.eqX F (af.tw F) aa ab H) h)
theorem az.mk_T {F:Nat} {args:List AV} {H:Hp} {v:AV} {H':Hp} (h:az.mk (az.tw F) args H = some (v,H')):Go.AE.T Try.prog 97 args H v H':=by
 unfold az.mk at h
 split at h
 ·exact az.T h
 ·cases h
noncomputable def bp.twX (F:Nat) (bL:Int→Int→Int→Hp→OA) (gz:Sl→Int→Hp→OA) (gA:Sl→Int→Hp→OA) (gB:Sl→Int→Hp→OA) (aa:Sl) (ab:Int) (H:Hp):OA:=(Hp.new H [(.sl aa),(.int .i64 ab)]).bind fun H3=>(Hp.ldSl H3 H.length 0).bind fun s4=>(bif (decide ((s4.n:Int) > 10)) then (some ((.bool false),H3)) else ((Hp.ldI H3 .i64 H.length 1).bind fun n5=>(bL n5 0 8 H3).bind fun r6=>((r6.1).asB).bind fun b7=>(bif (!b7) then (some ((.bool false),r6.2)) else ((Hp.ldSl r6.2 H.length 0).bind fun s8=>(Hp.ldI r6.2 .i64 H.length (0 + 1)).bind fun n9=>(gz s8 n9 r6.2).bind fun r10=>((r10.1).asB).bind fun b11=>(bif (!b11) then (some ((.bool false),r10.2)) else ((Hp.ldSl r10.2 H.length 0).bind fun s12=>(Hp.ldI r10.2 .i64 H.length (0 + 1)).bind fun n13=>(gA s12 n13 r10.2).bind fun r14=>((r14.1).asSl).bind fun s15=>(if Cons r10.2 r14.2 then ((Hp.ldSl r14.2 H.length 0).bind fun s16=>(Hp.ldSl r14.2 H.length 0).bind fun s17=>(Hp.ldI r14.2 .i64 H.length (0 + 1)).bind fun n18=>(gB s17 n18 r14.2).bind fun r19=>((r19.1).asI .i64).bind fun n20=>(if Cons r14.2 r19.2 then (some ((.bool ((s15.n:Int) == (IntKind.i64.wrap ((s16.n:Int) + (IntKind.i64.wrap (2 * n20)))))),r19.2)) else none)) else none)))))))
noncomputable def bp.tw (F:Nat) (aa:Sl) (ab:Int) (H:Hp):OA:=bp.twX F (bb.tw F) (ao.tw F) (ak.tw F) (az.tw F) aa ab H
noncomputable def bp.code:Go.Code:=(Try.f50.body).getD .skip
noncomputable def bp.lh (F:Nat) (bL:Int→Int→Int→Hp→OA) (gz:Sl→Int→Hp→OA) (gA:Sl→Int→Hp→OA) (gB:Sl→Int→Hp→OA) (p:Nat) (ks:List Nat) (n:Nat) (tm:Tm) (H:Hp):OA:=none
def bp.pn:Nat→List Nat:=fun i=>(([(3,[])]:List (Nat×List Nat)).lookup i).getD []
def bp.tb:Nat→List (List Nat):=fun i=>(([(3,[[],[0],[0,1],[],[3],[3,4],[],[0,1,6],[0,1,6,7],[0,1,3,4,5,6,7,8],[0,1,2,3,4,5,6,7,8,9],[0,1,2,3,4,5,6,7,8,9,10]])]:List (Nat×List (List Nat))).lookup i).getD []
noncomputable def bp.mk (g:Sl→Int→Hp→OA) (args:List AV) (H:Hp):OA:=match args with
 | [(.agg [(.sl aa),(.int .i64 ab)])]=>g aa ab H
 | _=>none
noncomputable def bp.cs (F:Nat) (bL:Int→Int→Int→Hp→OA) (gz:Sl→Int→Hp→OA) (gA:Sl→Int→Hp→OA) (gB:Sl→Int→Hp→OA):List (FuncId×(List AV→Hp→OA)):=[(65,bb.mk bL),(104,ao.mk gz),(105,ak.mk gA),(97,az.mk gB)]
theorem bp.loops (F:Nat) (bL:Int→Int→Int→Hp→OA) (gz:Sl→Int→Hp→OA) (gA:Sl→Int→Hp→OA) (gB:Sl→Int→Hp→OA):LoopsOk tabs (mkOrc (bp.cs F bL gz gA gB)) bp.pn (bp.lh F bL gz gA gB) F [] 1 bp.code (fun tm H=>aresults tabs.ty H tm Try.f50.results.toList fun v=>some (v,H)) (fun _ _ _=>none) (fun tm H=>aresults tabs.ty H tm Try.f50.results.toList fun v=>some (v,H)):=by
 exact loops_none (by kernel_rfl)
theorem bp.eqX (F:Nat) (bL:Int→Int→Int→Hp→OA) (gz:Sl→Int→Hp→OA) (gA:Sl→Int→Hp→OA) (gB:Sl→Int→Hp→OA) (aa:Sl) (ab:Int) (H:Hp):aCode tabs (mkOrc (bp.cs F bL gz gA gB)) bp.pn (bp.lh F bL gz gA gB) F [] 1 bp.code (argTm [(.agg [(.sl aa),(.int .i64 ab)])]) H (fun tm H=>aresults tabs.ty H tm Try.f50.results.toList fun v=>some (v,H)) (fun _ _ _=>none) (fun tm H=>aresults tabs.ty H tm Try.f50.results.toList fun v=>some (v,H)) = bp.twX F bL gz gA gB aa ab H:=by kernel_rfl
theorem bp.cs_ok (F:Nat):∀ p ∈ bp.cs F (bb.tw F) (ao.tw F) (ak.tw F) (az.tw F),∀ args H v H',p.2 args H = some (v,H')→Go.AE.T Try.prog p.1 args H v H':=by
 intro p hp
 simp only [bp.cs,List.mem_cons,List.not_mem_nil,or_false] at hp
 rcases hp with rfl | rfl | rfl | rfl
 ·exact fun args H v H' h=>bb.mk_T h
 ·exact fun args H v H' h=>ao.mk_T h
 ·exact fun args H v H' h=>ak.mk_T h
 ·exact fun args H v H' h=>az.mk_T h
theorem bp.ok:codeOk bp.pn Try.f50.ntmps bp.tb bp.code = true:=by kernel_rfl
theorem bp.T {F:Nat} {aa:Sl} {ab:Int} {H:Hp} {v:AV} {H':Hp} (h:bp.tw F aa ab H = some (v,H')):Go.AE.T Try.prog 50 [(.agg [(.sl aa),(.int .i64 ab)])] H v H':=
 Go.AE.T.of (Y:=tabs) (C:=mkOrc (bp.cs F (bb.tw F) (ao.tw F) (ak.tw F) (az.tw F))) (PN:=bp.pn) (LH:=bp.lh F (bb.tw F) (ao.tw F) (ak.tw F) (az.tw F)) (F:=F) (TB:=bp.tb) (fn:=Try.f50) (code:=bp.code) mixed tabs_ok (mkOrc_ok (bp.cs_ok F)) Try.func50 (by kernel_rfl) (by kernel_rfl) bp.ok (Nat.le_of_ble_eq_true (by kernel_rfl)) (bp.loops F (bb.tw F) (ao.tw F) (ak.tw F) (az.tw F)) (Eq.trans (bp.eqX F (bb.tw F) (ao.tw F) (ak.tw F) (az.tw F) aa ab H) h)
theorem bp.mk_T {F:Nat} {args:List AV} {H:Hp} {v:AV} {H':Hp} (h:bp.mk (bp.tw F) args H = some (v,H')):Go.AE.T Try.prog 50 args H v H':=by
 unfold bp.mk at h
 split at h
 ·exact bp.T h
 ·cases h
noncomputable def ae.j6 (F:Nat) (nu:Nat) (yQ:Nat) (yR:Sl) (jS:Int) (H211:Hp):OA:=(Hp.ldI H211 .i64 nu (yQ + 1)).bind fun n212=>some ((.tup [(.sl yR),(.int .i64 (IntKind.i64.wrap (jS + n212)))]),H211)
noncomputable def ae.j7 (F:Nat) (C509_:Nat→Nat→Sl→Sl→Int→Int→Hp→OA) (nv:Nat) (yS:Nat) (yT:Sl) (yU:Sl) (jT:Int) (jU:Int) (H234:Hp):OA:=C509_ nv yS yT yU jT (IntKind.i64.wrap (jU + 1)) H234
noncomputable def ae.l509 (F:Nat) :Nat→Nat→Nat→Sl→Sl→Int→Int→Hp→OA
 | 0,_,_,_,_,_,_,_=>none
 | tD + 1,ec,fw,fi,fF,cV,cR,H166=>(bif (decide (cR < (fi.n:Int))) then ((Sl.idx fi cR 1).bind fun p213=>(Hp.ldI H166 .i64 p213.1 p213.2).bind fun n214=>(bif (n214 == cR) then ((Hp.new H166 [(.int .i64 cV)]).bind fun H215=>(Sl.row H215 (⟨some (H166.length,0),1,.ex 1⟩:Sl) 1).bind fun xs217=>(Hp.app H215 1 8 fF (⟨some (H166.length,0),1,.ex 1⟩:Sl).n xs217).bind fun a216=>ae.j7 F (ae.l509 F tD) ec fw fi a216.1 (IntKind.i64.wrap (cV + 1)) cR a216.2) else ((Sl.idx fi cR 1).bind fun p235=>(Hp.ldI H166 .i64 p235.1 p235.2).bind fun n236=>(Sl.idx fF n236 1).bind fun p237=>(Hp.ldI H166 .i64 p237.1 p237.2).bind fun n238=>(Hp.new H166 [(.int .i64 n238)]).bind fun H239=>(Sl.row H239 (⟨some (H166.length,0),1,.ex 1⟩:Sl) 1).bind fun xs241=>(Hp.app H239 1 8 fF (⟨some (H166.length,0),1,.ex 1⟩:Sl).n xs241).bind fun a240=>ae.j7 F (ae.l509 F tD) ec fw fi a240.1 cV cR a240.2))) else (ae.j6 F ec fw fF cV H166))
termination_by structural n=>n
noncomputable def ae.j8 (F:Nat) (nw:Nat) (yV:Nat) (yW:Sl) (H150:Hp):OA:=(Hp.new H150 []).bind fun H151=>ae.l509 F F nw yV yW (⟨some (H150.length,0),0,.ex 0⟩:Sl) 0 0 H151
noncomputable def ae.j10 (F:Nat) (C61_:Nat→Nat→Sl→Int→Hp→OA) (nx:Nat) (yX:Nat) (yY:Sl) (jV:Int) (H320:Hp):OA:=C61_ nx yX yY (IntKind.i64.wrap (jV + 1)) H320
noncomputable def ae.j11 (F:Nat) (C61_:Nat→Nat→Sl→Int→Hp→OA) (ny:Nat) (yZ:Nat) (y_:Sl) (jW:Int) (H304:Hp):OA:=ae.j10 F C61_ ny yZ y_ jW H304
noncomputable def ae.j12 (F:Nat) (C1963_:Nat→Nat→Sl→Int→Int→Int→Int→Hp→OA) (nz:Nat) (za:Nat) (zb:Sl) (jX:Int) (jY:Int) (jZ:Int) (j_:Int) (H341:Hp):OA:=C1963_ nz za zb jX jY jZ (IntKind.i64.wrap (j_ + 1)) H341
noncomputable def ae.l1963 (F:Nat) (C61_:Nat→Nat→Sl→Int→Hp→OA):Nat→Nat→Nat→Sl→Int→Int→Int→Int→Hp→OA
 | 0,_,_,_,_,_,_,_,_=>none
 | tE + 1,dZ,fj,eL,dm,cz,cL,db,H267=>(bif (decide (db < (eL.n:Int))) then ((Sl.idx eL db 1).bind fun p321=>(Hp.ldI H267 .i64 p321.1 p321.2).bind fun n322=>(bif (n322 == (if cL > cz then cL else cz)) then ((Sl.idx eL db 1).bind fun p323=>(Hp.st H267 p323.1 p323.2 (.int .i64 (if cL < cz then cL else cz))).bind fun H324=>ae.j12 F (ae.l1963 F C61_ tE) dZ fj eL dm cz cL db H324) else (ae.j12 F (ae.l1963 F C61_ tE) dZ fj eL dm cz cL db H267))) else (ae.j11 F C61_ dZ fj eL dm H267))
termination_by structural n=>n
noncomputable def ae.l61 (F:Nat) :Nat→Nat→Nat→Sl→Int→Hp→OA
 | 0,_,_,_,_,_=>none
 | bg + 1,ed,fx,fP,dG,H38=>(Hp.ldSl H38 ed fx).bind fun s242=>(bif (decide (dG < (s242.n:Int))) then ((Hp.ldSl H38 ed fx).bind fun s243=>(Sl.idx s243 dG 5).bind fun p244=>(Hp.ldI H38 .i64 p244.1 (p244.2 + 1)).bind fun n245=>(Sl.idx fP n245 1).bind fun p246=>(Hp.ldI H38 .i64 p246.1 p246.2).bind fun n247=>(Hp.ldSl H38 ed fx).bind fun s248=>(Sl.idx s248 dG 5).bind fun p249=>(Hp.ldI H38 .i64 p249.1 (p249.2 + 3)).bind fun n250=>(Sl.idx fP n250 1).bind fun p251=>(Hp.ldI H38 .i64 p251.1 p251.2).bind fun n252=>ae.l1963 F (ae.l61 F bg) F ed fx fP dG n247 n252 0 H38) else (ae.j8 F ed fx fP H38))
termination_by structural n=>n
noncomputable def ae.j13 (F:Nat) (jP:Nat) (zc:Nat) (zd:Sl) (H27:Hp):OA:=ae.l61 F F jP zc zd 0 H27
noncomputable def ae.l29 (F:Nat) :Nat→Nat→Nat→Sl→Int→Hp→OA
 | 0,_,_,_,_,_=>none
 | ft + 1,ca,bP,cj,dH,H13=>(Hp.ldSl H13 ca bP).bind fun s342=>(bif (decide (dH < (IntKind.i64.wrap (2 * (s342.n:Int))))) then ((Hp.new H13 [(.int .i64 dH)]).bind fun H343=>(Sl.row H343 (⟨some (H13.length,0),1,.ex 1⟩:Sl) 1).bind fun xs345=>(Hp.app H343 1 8 cj (⟨some (H13.length,0),1,.ex 1⟩:Sl).n xs345).bind fun a344=>ae.l29 F ft ca bP a344.1 (IntKind.i64.wrap (dH + 1)) a344.2) else (ae.j13 F ca bP cj H13))
termination_by structural n=>n
noncomputable def ae.twX (F:Nat) (aa:Sl) (ab:Int) (H:Hp):OA:=(Hp.new H [(.sl aa),(.int .i64 ab)]).bind fun H3=>(Hp.new H3 []).bind fun H4=>ae.l29 F F H.length 0 (⟨some (H3.length,0),0,.ex 0⟩:Sl) 0 H4
noncomputable def ae.tw (F:Nat) (aa:Sl) (ab:Int) (H:Hp):OA:=ae.twX F aa ab H
noncomputable def ae.code:Go.Code:=(Try.f59.body).getD .skip
noncomputable def ae.lh29 (F:Nat) (ks:List Nat) (n:Nat) (tm:Tm) (H:Hp):OA:=match ks,tm 1,tm 4,tm 5 with
 | [],(.ptr ca bP),(.sl cj),(.int .i64 dH)=>ae.l29 F n ca bP cj dH H
 | _,_,_,_=>none
theorem ae.lh29_inv {F:Nat} {ks:List Nat} {n:Nat} {tm:Tm} {H:Hp} {r:AV×Hp} (h:ae.lh29 F ks n tm H = some r):∃ ca:Nat,∃ bP:Nat,∃ cj:Sl,∃ dH:Int,ks = []∧tm 1 = (.ptr ca bP)∧tm 4 = (.sl cj)∧tm 5 = (.int .i64 dH)∧ae.l29 F n ca bP cj dH H = some r:=by
 unfold ae.lh29 at h
 split at h
 ·exact ⟨_,_,_,_,rfl,by assumption,by assumption,by assumption,h⟩
 ·cases h
noncomputable def ae.lh61 (F:Nat) (ks:List Nat) (n:Nat) (tm:Tm) (H:Hp):OA:=match ks,tm 1,tm 4,tm 6 with
 | [],(.ptr ed fx),(.sl fP),(.int .i64 dG)=>ae.l61 F n ed fx fP dG H
 | _,_,_,_=>none
theorem ae.lh61_inv {F:Nat} {ks:List Nat} {n:Nat} {tm:Tm} {H:Hp} {r:AV×Hp} (h:ae.lh61 F ks n tm H = some r):∃ ed:Nat,∃ fx:Nat,∃ fP:Sl,∃ dG:Int,ks = []∧tm 1 = (.ptr ed fx)∧tm 4 = (.sl fP)∧tm 6 = (.int .i64 dG)∧ae.l61 F n ed fx fP dG H = some r:=by
 unfold ae.lh61 at h
 split at h
 ·exact ⟨_,_,_,_,rfl,by assumption,by assumption,by assumption,h⟩
 ·cases h
noncomputable def ae.lh509 (F:Nat) (ks:List Nat) (n:Nat) (tm:Tm) (H:Hp):OA:=match ks,tm 1,tm 4,tm 10,tm 11,tm 12 with
 | [],(.ptr ec fw),(.sl fi),(.sl fF),(.int .i64 cV),(.int .i64 cR)=>ae.l509 F n ec fw fi fF cV cR H
 | _,_,_,_,_,_=>none
theorem ae.lh509_inv {F:Nat} {ks:List Nat} {n:Nat} {tm:Tm} {H:Hp} {r:AV×Hp} (h:ae.lh509 F ks n tm H = some r):∃ ec:Nat,∃ fw:Nat,∃ fi:Sl,∃ fF:Sl,∃ cV:Int,∃ cR:Int,ks = []∧tm 1 = (.ptr ec fw)∧tm 4 = (.sl fi)∧tm 10 = (.sl fF)∧tm 11 = (.int .i64 cV)∧tm 12 = (.int .i64 cR)∧ae.l509 F n ec fw fi fF cV cR H = some r:=by
 unfold ae.lh509 at h
 split at h
 ·exact ⟨_,_,_,_,_,_,rfl,by assumption,by assumption,by assumption,by assumption,by assumption,h⟩
 ·cases h
noncomputable def ae.lh1963 (F:Nat) (ks:List Nat) (n:Nat) (tm:Tm) (H:Hp):OA:=match ks,tm 1,tm 4,tm 6,tm 7,tm 8,tm 9 with
 | [bg],(.ptr dZ fj),(.sl eL),(.int .i64 dm),(.int .i64 cz),(.int .i64 cL),(.int .i64 db)=>ae.l1963 F (ae.l61 F bg) n dZ fj eL dm cz cL db H
 | _,_,_,_,_,_,_=>none
theorem ae.lh1963_inv {F:Nat} {ks:List Nat} {n:Nat} {tm:Tm} {H:Hp} {r:AV×Hp} (h:ae.lh1963 F ks n tm H = some r):∃ bg:Nat,∃ dZ:Nat,∃ fj:Nat,∃ eL:Sl,∃ dm:Int,∃ cz:Int,∃ cL:Int,∃ db:Int,ks = [bg]∧tm 1 = (.ptr dZ fj)∧tm 4 = (.sl eL)∧tm 6 = (.int .i64 dm)∧tm 7 = (.int .i64 cz)∧tm 8 = (.int .i64 cL)∧tm 9 = (.int .i64 db)∧ae.l1963 F (ae.l61 F bg) n dZ fj eL dm cz cL db H = some r:=by
 unfold ae.lh1963 at h
 split at h
 ·exact ⟨_,_,_,_,_,_,_,_,rfl,by assumption,by assumption,by assumption,by assumption,by assumption,by assumption,h⟩
 ·cases h
noncomputable def ae.lh (F:Nat) (p:Nat) (ks:List Nat) (n:Nat) (tm:Tm) (H:Hp):OA:=bif p.beq 1963 then ae.lh1963 F ks n tm H else (bif p.beq 509 then ae.lh509 F ks n tm H else (bif p.beq 61 then ae.lh61 F ks n tm H else (bif p.beq 29 then ae.lh29 F ks n tm H else (none))))
def ae.pn:Nat→List Nat:=fun i=>(([(9,[]),(24,[])]:List (Nat×List Nat)).lookup i).getD []
def ae.tb:Nat→List (List Nat):=fun i=>(([(9,[[],[],[1],[],[1,2,3],[1,2,3,4],[1,2,3,4,5],[0,1,2,3,4,5,6],[0,1,2,3,4,5,6,7],[],[],[10],[],[10,11,12],[10,11,12,13],[10,11,12,13,14],[9,10,11,12,13,14,15],[9,10,11,12,13,14,15,16],[0,1,2,3,4,5,6,7,8],[0,1,2,3,4,5,6,7,8,9,10,11,12,13,14,15,16,17,18]]),(24,[[],[],[],[2],[1,2,3],[0],[0,1,2,3,4,5]])]:List (Nat×List (List Nat))).lookup i).getD []
noncomputable def ae.mk (g:Sl→Int→Hp→OA) (args:List AV) (H:Hp):OA:=match args with
 | [(.agg [(.sl aa),(.int .i64 ab)])]=>g aa ab H
 | _=>none
noncomputable def ae.cs (F:Nat):List (FuncId×(List AV→Hp→OA)):=[]
theorem ae.loops (F:Nat):LoopsOk tabs (mkOrc (ae.cs F)) ae.pn (ae.lh F) F [] 1 ae.code (fun tm H=>aresults tabs.ty H tm Try.f59.results.toList fun v=>some (v,H)) (fun _ _ _=>none) (fun tm H=>aresults tabs.ty H tm Try.f59.results.toList fun v=>some (v,H)):=by
 refine LoopsOk.seq ?_ ?_
 ·exact loops_none (by kernel_rfl)
 ·refine LoopsOk.seq ?_ ?_
  ·exact loops_none (by kernel_rfl)
  ·refine LoopsOk.seq ?_ ?_
   ·refine LoopsOk.seq ?_ ?_
    ·exact loops_none (by kernel_rfl)
    ·refine LoopsOk.block ?_
     refine LoopsOk.loop (fun tm H=>?_) (fun k29 tm H r h0=>?_) (fun k29=>?_)
     ·refine none_of fun r h0=>?_
      obtain ⟨ca,bP,cj,dH,hks,e1,e4,e5,h⟩:=ae.lh29_inv (show ae.lh29 F [] 0 tm H = some r from h0)
      cases h
     ·obtain ⟨ca,bP,cj,dH,hks,e1,e4,e5,h⟩:=ae.lh29_inv (show ae.lh29 F [] (k29 + 1) tm H = some r from h0)
      have q0:(Tm.put tm 1 (.ptr ca bP)) = tm:=by exact Tm.put_same e1
      have q1:(Tm.put (Tm.put tm 1 (.ptr ca bP)) 4 (.sl cj)) = tm:=by rw [q0]; exact Tm.put_same e4
      have q2:(Tm.put (Tm.put (Tm.put tm 1 (.ptr ca bP)) 4 (.sl cj)) 5 (.int .i64 dH)) = tm:=by rw [q1]; exact Tm.put_same e5
      rw [← q2]
      exact Eq.trans (by kernel_rfl) h
     ·exact loops_none (by kernel_rfl)
   ·refine LoopsOk.seq ?_ ?_
    ·refine LoopsOk.seq ?_ ?_
     ·exact loops_none (by kernel_rfl)
     ·refine LoopsOk.block ?_
      refine LoopsOk.loop (fun tm H=>?_) (fun k61 tm H r h0=>?_) (fun k61=>?_)
      ·refine none_of fun r h0=>?_
       obtain ⟨ed,fx,fP,dG,hks,e1,e4,e6,h⟩:=ae.lh61_inv (show ae.lh61 F [] 0 tm H = some r from h0)
       cases h
      ·obtain ⟨ed,fx,fP,dG,hks,e1,e4,e6,h⟩:=ae.lh61_inv (show ae.lh61 F [] (k61 + 1) tm H = some r from h0)
       have q0:(Tm.put tm 1 (.ptr ed fx)) = tm:=by exact Tm.put_same e1
       have q1:(Tm.put (Tm.put tm 1 (.ptr ed fx)) 4 (.sl fP)) = tm:=by rw [q0]; exact Tm.put_same e4
       have q2:(Tm.put (Tm.put (Tm.put tm 1 (.ptr ed fx)) 4 (.sl fP)) 6 (.int .i64 dG)) = tm:=by rw [q1]; exact Tm.put_same e6
       rw [← q2]
       exact Eq.trans (by kernel_rfl) h
      ·refine LoopsOk.seq ?_ ?_
       ·exact loops_none (by kernel_rfl)
       ·refine LoopsOk.seq ?_ ?_
        ·refine LoopsOk.block ?_
         refine LoopsOk.seq ?_ ?_
         ·exact loops_none (by kernel_rfl)
         ·refine LoopsOk.seq ?_ ?_
          ·exact loops_none (by kernel_rfl)
          ·refine LoopsOk.block ?_
           refine LoopsOk.loop (fun tm H=>?_) (fun k1963 tm H r h0=>?_) (fun k1963=>?_)
           ·refine none_of fun r h0=>?_
            obtain ⟨bg,dZ,fj,eL,dm,cz,cL,db,hks,e1,e4,e6,e7,e8,e9,h⟩:=ae.lh1963_inv (show ae.lh1963 F [k61] 0 tm H = some r from h0)
            cases h
           ·obtain ⟨bg,dZ,fj,eL,dm,cz,cL,db,hks,e1,e4,e6,e7,e8,e9,h⟩:=ae.lh1963_inv (show ae.lh1963 F [k61] (k1963 + 1) tm H = some r from h0)
            obtain rfl:bg = k61:=by simpa [eq_comm] using hks
            have q0:(Tm.put tm 1 (.ptr dZ fj)) = tm:=by exact Tm.put_same e1
            have q1:(Tm.put (Tm.put tm 1 (.ptr dZ fj)) 4 (.sl eL)) = tm:=by rw [q0]; exact Tm.put_same e4
            have q2:(Tm.put (Tm.put (Tm.put tm 1 (.ptr dZ fj)) 4 (.sl eL)) 6 (.int .i64 dm)) = tm:=by rw [q1]; exact Tm.put_same e6
            have q3:(Tm.put (Tm.put (Tm.put (Tm.put tm 1 (.ptr dZ fj)) 4 (.sl eL)) 6 (.int .i64 dm)) 7 (.int .i64 cz)) = tm:=by rw [q2]; exact Tm.put_same e7
            have q4:(Tm.put (Tm.put (Tm.put (Tm.put (Tm.put tm 1 (.ptr dZ fj)) 4 (.sl eL)) 6 (.int .i64 dm)) 7 (.int .i64 cz)) 8 (.int .i64 cL)) = tm:=by rw [q3]; exact Tm.put_same e8
            have q5:(Tm.put (Tm.put (Tm.put (Tm.put (Tm.put (Tm.put tm 1 (.ptr dZ fj)) 4 (.sl eL)) 6 (.int .i64 dm)) 7 (.int .i64 cz)) 8 (.int .i64 cL)) 9 (.int .i64 db)) = tm:=by rw [q4]; exact Tm.put_same e9
            rw [← q5]
            exact Eq.trans (by kernel_rfl) h
           ·exact loops_none (by kernel_rfl)
        ·exact loops_none (by kernel_rfl)
    ·refine LoopsOk.seq ?_ ?_
     ·exact loops_none (by kernel_rfl)
     ·refine LoopsOk.seq ?_ ?_
      ·exact loops_none (by kernel_rfl)
      ·refine LoopsOk.seq ?_ ?_
       ·refine LoopsOk.seq ?_ ?_
        ·exact loops_none (by kernel_rfl)
        ·refine LoopsOk.block ?_
         refine LoopsOk.loop (fun tm H=>?_) (fun k509 tm H r h0=>?_) (fun k509=>?_)
         ·refine none_of fun r h0=>?_
          obtain ⟨ec,fw,fi,fF,cV,cR,hks,e1,e4,e10,e11,e12,h⟩:=ae.lh509_inv (show ae.lh509 F [] 0 tm H = some r from h0)
          cases h
         ·obtain ⟨ec,fw,fi,fF,cV,cR,hks,e1,e4,e10,e11,e12,h⟩:=ae.lh509_inv (show ae.lh509 F [] (k509 + 1) tm H = some r from h0)
          have q0:(Tm.put tm 1 (.ptr ec fw)) = tm:=by exact Tm.put_same e1
          have q1:(Tm.put (Tm.put tm 1 (.ptr ec fw)) 4 (.sl fi)) = tm:=by rw [q0]; exact Tm.put_same e4
          have q2:(Tm.put (Tm.put (Tm.put tm 1 (.ptr ec fw)) 4 (.sl fi)) 10 (.sl fF)) = tm:=by rw [q1]; exact Tm.put_same e10
          have q3:(Tm.put (Tm.put (Tm.put (Tm.put tm 1 (.ptr ec fw)) 4 (.sl fi)) 10 (.sl fF)) 11 (.int .i64 cV)) = tm:=by rw [q2]; exact Tm.put_same e11
          have q4:(Tm.put (Tm.put (Tm.put (Tm.put (Tm.put tm 1 (.ptr ec fw)) 4 (.sl fi)) 10 (.sl fF)) 11 (.int .i64 cV)) 12 (.int .i64 cR)) = tm:=by rw [q3]; exact Tm.put_same e12
          rw [← q4]
          exact Eq.trans (by kernel_rfl) h
         ·exact loops_none (by kernel_rfl)
       ·exact loops_none (by kernel_rfl)
theorem ae.eqX (F:Nat) (aa:Sl) (ab:Int) (H:Hp):aCode tabs (mkOrc (ae.cs F)) ae.pn (ae.lh F) F [] 1 ae.code (argTm [(.agg [(.sl aa),(.int .i64 ab)])]) H (fun tm H=>aresults tabs.ty H tm Try.f59.results.toList fun v=>some (v,H)) (fun _ _ _=>none) (fun tm H=>aresults tabs.ty H tm Try.f59.results.toList fun v=>some (v,H)) = ae.twX F aa ab H:=by kernel_rfl
theorem ae.cs_ok (F:Nat):∀ p ∈ ae.cs F,∀ args H v H',p.2 args H = some (v,H')→Go.AE.T Try.prog p.1 args H v H':=by
 intro p hp
 exact absurd (show p ∈ [] from hp) List.not_mem_nil
theorem ae.ok:codeOk ae.pn Try.f59.ntmps ae.tb ae.code = true:=by kernel_rfl
theorem ae.T {F:Nat} {aa:Sl} {ab:Int} {H:Hp} {v:AV} {H':Hp} (h:ae.tw F aa ab H = some (v,H')):Go.AE.T Try.prog 59 [(.agg [(.sl aa),(.int .i64 ab)])] H v H':=
 Go.AE.T.of (Y:=tabs) (C:=mkOrc (ae.cs F)) (PN:=ae.pn) (LH:=ae.lh F) (F:=F) (TB:=ae.tb) (fn:=Try.f59) (code:=ae.code) mixed tabs_ok (mkOrc_ok (ae.cs_ok F)) Try.func59 (by kernel_rfl) (by kernel_rfl) ae.ok (Nat.le_of_ble_eq_true (by kernel_rfl)) (ae.loops F) (Eq.trans (ae.eqX F aa ab H) h)
theorem ae.mk_T {F:Nat} {args:List AV} {H:Hp} {v:AV} {H':Hp} (h:ae.mk (ae.tw F) args H = some (v,H')):Go.AE.T Try.prog 59 args H v H':=by
 unfold ae.mk at h
 split at h
 ·exact ae.T h
 ·cases h
noncomputable def bB.twX (F:Nat) (aa:Int) (ad:Int) (H:Hp):OA:=(Hp.new H [.int .i64 0,.int .i64 0,.sl ⟨none,0,.ex 0⟩]).bind fun H3=>(Hp.mk H3 [.int .i64 0] 8 (IntKind.i64.wrap (aa * ad)) (IntKind.i64.wrap (aa * ad))).bind fun m4=>(Hp.st m4.2 H.length 0 (.int .i64 aa)).bind fun H5=>(Hp.st H5 H.length (0 + 1) (.int .i64 ad)).bind fun H6=>(Hp.st H6 H.length (0 + 1 + 1) (.sl m4.1)).bind fun H7=>(Hp.ldI H7 .i64 H.length 0).bind fun n8=>(Hp.ldI H7 .i64 H.length (0 + 1)).bind fun n9=>(Hp.ldSl H7 H.length (0 + 2)).bind fun s10=>some ((.agg [(.int .i64 n8),(.int .i64 n9),(.sl s10)]),H7)
noncomputable def bB.tw (F:Nat) (aa:Int) (ad:Int) (H:Hp):OA:=bB.twX F aa ad H
noncomputable def bB.code:Go.Code:=(Try.f130.body).getD .skip
noncomputable def bB.lh (F:Nat) (p:Nat) (ks:List Nat) (n:Nat) (tm:Tm) (H:Hp):OA:=none
def bB.pn:Nat→List Nat:=fun i=>(([]:List (Nat×List Nat)).lookup i).getD []
def bB.tb:Nat→List (List Nat):=fun i=>(([]:List (Nat×List (List Nat))).lookup i).getD []
noncomputable def bB.mk (g:Int→Int→Hp→OA) (args:List AV) (H:Hp):OA:=match args with
 | [(.int .i64 aa),(.int .i64 ad)]=>g aa ad H
 | _=>none
noncomputable def bB.cs (F:Nat):List (FuncId×(List AV→Hp→OA)):=[]
theorem bB.loops (F:Nat):LoopsOk tabs (mkOrc (bB.cs F)) bB.pn (bB.lh F) F [] 1 bB.code (fun tm H=>aresults tabs.ty H tm Try.f130.results.toList fun v=>some (v,H)) (fun _ _ _=>none) (fun tm H=>aresults tabs.ty H tm Try.f130.results.toList fun v=>some (v,H)):=by
 exact loops_none (by kernel_rfl)
theorem bB.eqX (F:Nat) (aa:Int) (ad:Int) (H:Hp):aCode tabs (mkOrc (bB.cs F)) bB.pn (bB.lh F) F [] 1 bB.code (argTm [(.int .i64 aa),(.int .i64 ad)]) H (fun tm H=>aresults tabs.ty H tm Try.f130.results.toList fun v=>some (v,H)) (fun _ _ _=>none) (fun tm H=>aresults tabs.ty H tm Try.f130.results.toList fun v=>some (v,H)) = bB.twX F aa ad H:=by kernel_rfl
theorem bB.cs_ok (F:Nat):∀ p ∈ bB.cs F,∀ args H v H',p.2 args H = some (v,H')→Go.AE.T Try.prog p.1 args H v H':=by
 intro p hp
 exact absurd (show p ∈ [] from hp) List.not_mem_nil
theorem bB.ok:codeOk bB.pn Try.f130.ntmps bB.tb bB.code = true:=by kernel_rfl
theorem bB.T {F:Nat} {aa:Int} {ad:Int} {H:Hp} {v:AV} {H':Hp} (h:bB.tw F aa ad H = some (v,H')):Go.AE.T Try.prog 130 [(.int .i64 aa),(.int .i64 ad)] H v H':=
 Go.AE.T.of (Y:=tabs) (C:=mkOrc (bB.cs F)) (PN:=bB.pn) (LH:=bB.lh F) (F:=F) (TB:=bB.tb) (fn:=Try.f130) (code:=bB.code) mixed tabs_ok (mkOrc_ok (bB.cs_ok F)) Try.func130 (by kernel_rfl) (by kernel_rfl) bB.ok (Nat.le_of_ble_eq_true (by kernel_rfl)) (bB.loops F) (Eq.trans (bB.eqX F aa ad H) h)
theorem bB.mk_T {F:Nat} {args:List AV} {H:Hp} {v:AV} {H':Hp} (h:bB.mk (bB.tw F) args H = some (v,H')):Go.AE.T Try.prog 130 args H v H':=by
 unfold bB.mk at h
 split at h
 ·exact bB.T h
 ·cases h
noncomputable def aK.l61 (F:Nat) (dI:Sl→Int→Hp→OA) (dJ:Int→Int→Hp→OA) :Nat→Nat→Nat→Nat→Nat→Sl→Int→Nat→Nat→Int→Hp→OA
 | 0,_,_,_,_,_,_,_,_,_,_=>none
 | bg + 1,bV,cn,dc,el,fy,cr,bM,ee,co,H37=>(Hp.ldI H37 .i64 bM ee).bind fun n88=>(bif (decide (co < n88)) then ((Hp.ldSl H37 bV cn).bind fun s89=>(Sl.idx s89 co 5).bind fun p90=>(Hp.ldI H37 .i64 p90.1 p90.2).bind fun n91=>(Hp.ldI H37 .i64 p90.1 (p90.2 + 1)).bind fun n92=>(Hp.ldI H37 .i64 p90.1 (p90.2 + 2)).bind fun n93=>(Hp.ldI H37 .i64 p90.1 (p90.2 + 3)).bind fun n94=>(Hp.ldI H37 .i64 p90.1 (p90.2 + 4)).bind fun n95=>(Hp.new H37 [.int .i64 0,.int .i64 0,.int .i64 0,.int .i64 0,.int .i64 0]).bind fun H96=>(Hp.st H96 H37.length 0 (.int .i64 n91)).bind fun H97=>(Hp.st H97 H37.length (0 + 1) (.int .i64 n92)).bind fun H98=>(Hp.st H98 H37.length (0 + 1 + 1) (.int .i64 n93)).bind fun H99=>(Hp.st H99 H37.length (0 + 1 + 1 + 1) (.int .i64 n94)).bind fun H100=>(Hp.st H100 H37.length (0 + 1 + 1 + 1 + 1) (.int .i64 n95)).bind fun H101=>(Hp.ldI H101 .i64 H37.length 0).bind fun n102=>(Sl.idx fy n102 1).bind fun p103=>(Hp.ldI H101 .i64 p103.1 p103.2).bind fun n104=>(Hp.ldI H101 .i64 H37.length 2).bind fun n105=>(Sl.idx fy n105 1).bind fun p106=>(Hp.ldI H101 .i64 p106.1 p106.2).bind fun n107=>(Hp.ldI H101 .i64 H37.length 1).bind fun n108=>(Sl.idx fy n108 1).bind fun p109=>(Hp.ldI H101 .i64 p109.1 p109.2).bind fun n110=>(Hp.ldSl H101 bM (ee + 2)).bind fun s111=>(Hp.ldSl H101 bM (ee + 2)).bind fun s112=>(Sl.idx s112 (IntKind.i64.wrap ((IntKind.i64.wrap (co * cr)) + n104)) 1).bind fun p113=>(Hp.ldI H101 .i64 p113.1 p113.2).bind fun n114=>(Sl.idx s111 (IntKind.i64.wrap ((IntKind.i64.wrap (co * cr)) + n104)) 1).bind fun p115=>(Hp.st H101 p115.1 p115.2 (.int .i64 (IntKind.i64.wrap (n114 - 1)))).bind fun H116=>(Hp.ldSl H116 bM (ee + 2)).bind fun s117=>(Hp.ldSl H116 bM (ee + 2)).bind fun s118=>(Sl.idx s118 (IntKind.i64.wrap ((IntKind.i64.wrap (co * cr)) + n107)) 1).bind fun p119=>(Hp.ldI H116 .i64 p119.1 p119.2).bind fun n120=>(Sl.idx s117 (IntKind.i64.wrap ((IntKind.i64.wrap (co * cr)) + n107)) 1).bind fun p121=>(Hp.st H116 p121.1 p121.2 (.int .i64 (IntKind.i64.wrap (n120 - 1)))).bind fun H122=>(Hp.ldSl H122 bM (ee + 2)).bind fun s123=>(Hp.ldSl H122 bM (ee + 2)).bind fun s124=>(Sl.idx s124 (IntKind.i64.wrap ((IntKind.i64.wrap (co * cr)) + n110)) 1).bind fun p125=>(Hp.ldI H122 .i64 p125.1 p125.2).bind fun n126=>(Sl.idx s123 (IntKind.i64.wrap ((IntKind.i64.wrap (co * cr)) + n110)) 1).bind fun p127=>(Hp.st H122 p127.1 p127.2 (.int .i64 (IntKind.i64.wrap (n126 + 2)))).bind fun H128=>aK.l61 F dI dJ bg bV cn dc el fy cr bM ee (IntKind.i64.wrap (co + 1)) H128) else ((Hp.ldI H37 .i64 bM ee).bind fun n129=>(Hp.ldI H37 .i64 bM (ee + 1)).bind fun n130=>(Hp.ldSl H37 bM (ee + 2)).bind fun s131=>(Hp.st H37 dc el (.int .i64 n129)).bind fun H132=>(Hp.st H132 dc (el + 1) (.int .i64 n130)).bind fun H133=>(Hp.st H133 dc (el + 1 + 1) (.sl s131)).bind fun H134=>(Hp.ldI H134 .i64 dc el).bind fun n135=>(Hp.ldI H134 .i64 dc (el + 1)).bind fun n136=>(Hp.ldSl H134 dc (el + 2)).bind fun s137=>some ((.agg [(.int .i64 n135),(.int .i64 n136),(.sl s137)]),H134)))
termination_by structural n=>n
noncomputable def aK.twX (F:Nat) (dI:Sl→Int→Hp→OA) (dJ:Int→Int→Hp→OA) (aa:Sl) (ab:Int) (H:Hp):OA:=(Hp.new H [(.sl aa),(.int .i64 ab)]).bind fun H3=>(Hp.new H3 [.int .i64 0,.int .i64 0,.sl ⟨none,0,.ex 0⟩]).bind fun H4=>(Hp.ldSl H4 H.length 0).bind fun s5=>(Hp.ldI H4 .i64 H.length (0 + 1)).bind fun n6=>(dI s5 n6 H4).bind fun r7=>((r7.1).asTup 2).bind fun l8=>(l8[0]?).bind fun v9=>((v9).asSl).bind fun s10=>(l8[1]?).bind fun v11=>((v11).asI .i64).bind fun n12=>(Hp.ldSl r7.2 H.length 0).bind fun s13=>(dJ (s13.n:Int) n12 r7.2).bind fun r14=>((r14.1).asAgg 3).bind fun l15=>(l15[0]?).bind fun v16=>((v16).asI .i64).bind fun n17=>(l15[1]?).bind fun v18=>((v18).asI .i64).bind fun n19=>(l15[2]?).bind fun v20=>((v20).asSl).bind fun s21=>(Hp.new r14.2 [.int .i64 0,.int .i64 0,.sl ⟨none,0,.ex 0⟩]).bind fun H22=>(Hp.st H22 r14.2.length 0 (.int .i64 n17)).bind fun H23=>(Hp.st H23 r14.2.length (0 + 1) (.int .i64 n19)).bind fun H24=>(Hp.st H24 r14.2.length (0 + 1 + 1) (.sl s21)).bind fun H25=>aK.l61 F dI dJ F H.length 0 H3.length 0 s10 n12 r14.2.length 0 0 H25
noncomputable def aK.tw (F:Nat) (aa:Sl) (ab:Int) (H:Hp):OA:=aK.twX F (ae.tw F) (bB.tw F) aa ab H
noncomputable def aK.code:Go.Code:=(Try.f76.body).getD .skip
noncomputable def aK.lh61 (F:Nat) (dI:Sl→Int→Hp→OA) (dJ:Int→Int→Hp→OA) (ks:List Nat) (n:Nat) (tm:Tm) (H:Hp):OA:=match ks,tm 1,tm 2,tm 3,tm 4,tm 5,tm 6 with
 | [],(.ptr bV cn),(.ptr dc el),(.sl fy),(.int .i64 cr),(.ptr bM ee),(.int .i64 co)=>aK.l61 F dI dJ n bV cn dc el fy cr bM ee co H
 | _,_,_,_,_,_,_=>none
theorem aK.lh61_inv {F:Nat} {dI:Sl→Int→Hp→OA} {dJ:Int→Int→Hp→OA} {ks:List Nat} {n:Nat} {tm:Tm} {H:Hp} {r:AV×Hp} (h:aK.lh61 F dI dJ ks n tm H = some r):∃ bV:Nat,∃ cn:Nat,∃ dc:Nat,∃ el:Nat,∃ fy:Sl,∃ cr:Int,∃ bM:Nat,∃ ee:Nat,∃ co:Int,ks = []∧tm 1 = (.ptr bV cn)∧tm 2 = (.ptr dc el)∧tm 3 = (.sl fy)∧tm 4 = (.int .i64 cr)∧tm 5 = (.ptr bM ee)∧tm 6 = (.int .i64 co)∧aK.l61 F dI dJ n bV cn dc el fy cr bM ee co H = some r:=by
 unfold aK.lh61 at h
 split at h
 ·exact ⟨_,_,_,_,_,_,_,_,_,rfl,by assumption,by assumption,by assumption,by assumption,by assumption,by assumption,h⟩
 ·cases h
noncomputable def aK.lh (F:Nat) (dI:Sl→Int→Hp→OA) (dJ:Int→Int→Hp→OA) (p:Nat) (ks:List Nat) (n:Nat) (tm:Tm) (H:Hp):OA:=bif p.beq 61 then aK.lh61 F dI dJ ks n tm H else (none)
def aK.pn:Nat→List Nat:=fun i=>(([(7,[]),(8,[10]),(9,[10]),(10,[10])]:List (Nat×List Nat)).lookup i).getD []
def aK.tb:Nat→List (List Nat):=fun i=>(([(7,[[],[],[0,1],[],[],[4],[3,4,5],[3,4,5,6],[0,1,2,3,4,5,6,7],[],[],[9,10],[],[],[13],[12,13,14],[12,13,14,15],[9,10,11,12,13,14,15,16],[],[],[18,19],[],[],[22],[21,22,23],[21,22,23,24],[18,19,20,21,22,23,24,25],[0,1,2,3,4,5,6,7,8],[0,1,2,3,4,5,6,7,8,9,10,11,12,13,14,15,16,17,27],[0,1,2,3,4,5,6,7,8,9,10,11,12,13,14,15,16,17,18,19,20,21,22,23,24,25,26,27,28]]),(8,[[],[0],[],[],[3],[],[3,4,5],[3,4,5,6],[3,4,5,6,7],[0,1,2,3,4,5,6,7,8],[0,1,2,3,4,5,6,7,8,9]]),(9,[[],[0],[],[],[3],[],[3,4,5],[3,4,5,6],[3,4,5,6,7],[0,1,2,3,4,5,6,7,8],[0,1,2,3,4,5,6,7,8,9]]),(10,[[],[0],[],[],[3],[],[3,4,5],[3,4,5,6],[3,4,5,6,7],[0,1,2,3,4,5,6,7,8],[0,1,2,3,4,5,6,7,8,9]])]:List (Nat×List (List Nat))).lookup i).getD []
noncomputable def aK.mk (g:Sl→Int→Hp→OA) (args:List AV) (H:Hp):OA:=match args with
 | [(.agg [(.sl aa),(.int .i64 ab)])]=>g aa ab H
 | _=>none
noncomputable def aK.cs (F:Nat) (dI:Sl→Int→Hp→OA) (dJ:Int→Int→Hp→OA):List (FuncId×(List AV→Hp→OA)):=[(59,ae.mk dI),(130,bB.mk dJ)]
theorem aK.loops (F:Nat) (dI:Sl→Int→Hp→OA) (dJ:Int→Int→Hp→OA):LoopsOk tabs (mkOrc (aK.cs F dI dJ)) aK.pn (aK.lh F dI dJ) F [] 1 aK.code (fun tm H=>aresults tabs.ty H tm Try.f76.results.toList fun v=>some (v,H)) (fun _ _ _=>none) (fun tm H=>aresults tabs.ty H tm Try.f76.results.toList fun v=>some (v,H)):=by
 refine LoopsOk.seq ?_ ?_
 ·exact loops_none (by kernel_rfl)
 ·refine LoopsOk.seq ?_ ?_
  ·exact loops_none (by kernel_rfl)
  ·refine LoopsOk.seq ?_ ?_
   ·exact loops_none (by kernel_rfl)
   ·refine LoopsOk.seq ?_ ?_
    ·refine LoopsOk.seq ?_ ?_
     ·exact loops_none (by kernel_rfl)
     ·refine LoopsOk.block ?_
      refine LoopsOk.loop (fun tm H=>?_) (fun k61 tm H r h0=>?_) (fun k61=>?_)
      ·refine none_of fun r h0=>?_
       obtain ⟨bV,cn,dc,el,fy,cr,bM,ee,co,hks,e1,e2,e3,e4,e5,e6,h⟩:=aK.lh61_inv (show aK.lh61 F dI dJ [] 0 tm H = some r from h0)
       cases h
      ·obtain ⟨bV,cn,dc,el,fy,cr,bM,ee,co,hks,e1,e2,e3,e4,e5,e6,h⟩:=aK.lh61_inv (show aK.lh61 F dI dJ [] (k61 + 1) tm H = some r from h0)
       have q0:(Tm.put tm 1 (.ptr bV cn)) = tm:=by exact Tm.put_same e1
       have q1:(Tm.put (Tm.put tm 1 (.ptr bV cn)) 2 (.ptr dc el)) = tm:=by rw [q0]; exact Tm.put_same e2
       have q2:(Tm.put (Tm.put (Tm.put tm 1 (.ptr bV cn)) 2 (.ptr dc el)) 3 (.sl fy)) = tm:=by rw [q1]; exact Tm.put_same e3
       have q3:(Tm.put (Tm.put (Tm.put (Tm.put tm 1 (.ptr bV cn)) 2 (.ptr dc el)) 3 (.sl fy)) 4 (.int .i64 cr)) = tm:=by rw [q2]; exact Tm.put_same e4
       have q4:(Tm.put (Tm.put (Tm.put (Tm.put (Tm.put tm 1 (.ptr bV cn)) 2 (.ptr dc el)) 3 (.sl fy)) 4 (.int .i64 cr)) 5 (.ptr bM ee)) = tm:=by rw [q3]; exact Tm.put_same e5
       have q5:(Tm.put (Tm.put (Tm.put (Tm.put (Tm.put (Tm.put tm 1 (.ptr bV cn)) 2 (.ptr dc el)) 3 (.sl fy)) 4 (.int .i64 cr)) 5 (.ptr bM ee)) 6 (.int .i64 co)) = tm:=by rw [q4]; exact Tm.put_same e6
       rw [← q5]
       exact Eq.trans (by kernel_rfl) h
      ·exact loops_none (by kernel_rfl)
    ·exact loops_none (by kernel_rfl)
theorem aK.eqX (F:Nat) (dI:Sl→Int→Hp→OA) (dJ:Int→Int→Hp→OA) (aa:Sl) (ab:Int) (H:Hp):aCode tabs (mkOrc (aK.cs F dI dJ)) aK.pn (aK.lh F dI dJ) F [] 1 aK.code (argTm [(.agg [(.sl aa),(.int .i64 ab)])]) H (fun tm H=>aresults tabs.ty H tm Try.f76.results.toList fun v=>some (v,H)) (fun _ _ _=>none) (fun tm H=>aresults tabs.ty H tm Try.f76.results.toList fun v=>some (v,H)) = aK.twX F dI dJ aa ab H:=by kernel_rfl
theorem aK.cs_ok (F:Nat):∀ p ∈ aK.cs F (ae.tw F) (bB.tw F),∀ args H v H',p.2 args H = some (v,H')→Go.AE.T Try.prog p.1 args H v H':=by
 intro p hp
 simp only [aK.cs,List.mem_cons,List.not_mem_nil,or_false] at hp
 rcases hp with rfl | rfl
 ·exact fun args H v H' h=>ae.mk_T h
 ·exact fun args H v H' h=>bB.mk_T h
theorem aK.ok:codeOk aK.pn Try.f76.ntmps aK.tb aK.code = true:=by kernel_rfl
theorem aK.T {F:Nat} {aa:Sl} {ab:Int} {H:Hp} {v:AV} {H':Hp} (h:aK.tw F aa ab H = some (v,H')):Go.AE.T Try.prog 76 [(.agg [(.sl aa),(.int .i64 ab)])] H v H':=
 Go.AE.T.of (Y:=tabs) (C:=mkOrc (aK.cs F (ae.tw F) (bB.tw F))) (PN:=aK.pn) (LH:=aK.lh F (ae.tw F) (bB.tw F)) (F:=F) (TB:=aK.tb) (fn:=Try.f76) (code:=aK.code) mixed tabs_ok (mkOrc_ok (aK.cs_ok F)) Try.func76 (by kernel_rfl) (by kernel_rfl) aK.ok (Nat.le_of_ble_eq_true (by kernel_rfl)) (aK.loops F (ae.tw F) (bB.tw F)) (Eq.trans (aK.eqX F (ae.tw F) (bB.tw F) aa ab H) h)
theorem aK.mk_T {F:Nat} {args:List AV} {H:Hp} {v:AV} {H':Hp} (h:aK.mk (aK.tw F) args H = some (v,H')):Go.AE.T Try.prog 76 args H v H':=by
 unfold aK.mk at h
 split at h
 ·exact aK.T h
 ·cases h
noncomputable def bu.twX (F:Nat) (gC:Sl→Int→Hp→OA) (gD:Sl→Int→Hp→OA) (aa:Sl) (ab:Int) (H:Hp):OA:=(Hp.new H [(.sl aa),(.int .i64 ab)]).bind fun H3=>(Hp.new H3 [.int .i64 0,.int .i64 0,.sl ⟨none,0,.ex 0⟩]).bind fun H4=>(Hp.ldSl H4 H.length 0).bind fun s5=>(Hp.ldI H4 .i64 H.length (0 + 1)).bind fun n6=>(gC s5 n6 H4).bind fun r7=>((r7.1).asB).bind fun b8=>(bif (!b8) then ((Hp.st r7.2 H3.length 0 (.int .i64 0)).bind fun H9=>(Hp.st H9 H3.length (0 + 1) (.int .i64 0)).bind fun H10=>(Hp.st H10 H3.length (0 + 1 + 1) (.sl (⟨none,0,.ex 0⟩:Sl))).bind fun H11=>(Hp.ldI H11 .i64 H3.length 0).bind fun n12=>(Hp.ldI H11 .i64 H3.length (0 + 1)).bind fun n13=>(Hp.ldSl H11 H3.length (0 + 2)).bind fun s14=>some ((.tup [(.agg [(.int .i64 n12),(.int .i64 n13),(.sl s14)]),(.bool false)]),H11)) else ((Hp.ldSl r7.2 H.length 0).bind fun s15=>(Hp.ldI r7.2 .i64 H.length (0 + 1)).bind fun n16=>(gD s15 n16 r7.2).bind fun r17=>((r17.1).asAgg 3).bind fun l18=>(l18[0]?).bind fun v19=>((v19).asI .i64).bind fun n20=>(l18[1]?).bind fun v21=>((v21).asI .i64).bind fun n22=>(l18[2]?).bind fun v23=>((v23).asSl).bind fun s24=>(Hp.st r17.2 H3.length 0 (.int .i64 n20)).bind fun H25=>(Hp.st H25 H3.length (0 + 1) (.int .i64 n22)).bind fun H26=>(Hp.st H26 H3.length (0 + 1 + 1) (.sl s24)).bind fun H27=>(Hp.ldI H27 .i64 H3.length 0).bind fun n28=>(Hp.ldI H27 .i64 H3.length (0 + 1)).bind fun n29=>(Hp.ldSl H27 H3.length (0 + 2)).bind fun s30=>some ((.tup [(.agg [(.int .i64 n28),(.int .i64 n29),(.sl s30)]),(.bool true)]),H27)))
noncomputable def bu.tw (F:Nat) (aa:Sl) (ab:Int) (H:Hp):OA:=bu.twX F (bp.tw F) (aK.tw F) aa ab H
noncomputable def bu.code:Go.Code:=(Try.f33.body).getD .skip
noncomputable def bu.lh (F:Nat) (gC:Sl→Int→Hp→OA) (gD:Sl→Int→Hp→OA) (p:Nat) (ks:List Nat) (n:Nat) (tm:Tm) (H:Hp):OA:=none
def bu.pn:Nat→List Nat:=fun i=>(([]:List (Nat×List Nat)).lookup i).getD []
def bu.tb:Nat→List (List Nat):=fun i=>(([]:List (Nat×List (List Nat))).lookup i).getD []
noncomputable def bu.mk (g:Sl→Int→Hp→OA) (args:List AV) (H:Hp):OA:=match args with
 | [(.agg [(.sl aa),(.int .i64 ab)])]=>g aa ab H
 | _=>none
noncomputable def bu.cs (F:Nat) (gC:Sl→Int→Hp→OA) (gD:Sl→Int→Hp→OA):List (FuncId×(List AV→Hp→OA)):=[(50,bp.mk gC),(76,aK.mk gD)]
theorem bu.loops (F:Nat) (gC:Sl→Int→Hp→OA) (gD:Sl→Int→Hp→OA):LoopsOk tabs (mkOrc (bu.cs F gC gD)) bu.pn (bu.lh F gC gD) F [] 1 bu.code (fun tm H=>aresults tabs.ty H tm Try.f33.results.toList fun v=>some (v,H)) (fun _ _ _=>none) (fun tm H=>aresults tabs.ty H tm Try.f33.results.toList fun v=>some (v,H)):=by
 exact loops_none (by kernel_rfl)
theorem bu.eqX (F:Nat) (gC:Sl→Int→Hp→OA) (gD:Sl→Int→Hp→OA) (aa:Sl) (ab:Int) (H:Hp):aCode tabs (mkOrc (bu.cs F gC gD)) bu.pn (bu.lh F gC gD) F [] 1 bu.code (argTm [(.agg [(.sl aa),(.int .i64 ab)])]) H (fun tm H=>aresults tabs.ty H tm Try.f33.results.toList fun v=>some (v,H)) (fun _ _ _=>none) (fun tm H=>aresults tabs.ty H tm Try.f33.results.toList fun v=>some (v,H)) = bu.twX F gC gD aa ab H:=by kernel_rfl
theorem bu.cs_ok (F:Nat):∀ p ∈ bu.cs F (bp.tw F) (aK.tw F),∀ args H v H',p.2 args H = some (v,H')→Go.AE.T Try.prog p.1 args H v H':=by
 intro p hp
 simp only [bu.cs,List.mem_cons,List.not_mem_nil,or_false] at hp
 rcases hp with rfl | rfl
 ·exact fun args H v H' h=>bp.mk_T h
 ·exact fun args H v H' h=>aK.mk_T h
theorem bu.ok:codeOk bu.pn Try.f33.ntmps bu.tb bu.code = true:=by kernel_rfl
theorem bu.T {F:Nat} {aa:Sl} {ab:Int} {H:Hp} {v:AV} {H':Hp} (h:bu.tw F aa ab H = some (v,H')):Go.AE.T Try.prog 33 [(.agg [(.sl aa),(.int .i64 ab)])] H v H':=
 Go.AE.T.of (Y:=tabs) (C:=mkOrc (bu.cs F (bp.tw F) (aK.tw F))) (PN:=bu.pn) (LH:=bu.lh F (bp.tw F) (aK.tw F)) (F:=F) (TB:=bu.tb) (fn:=Try.f33) (code:=bu.code) mixed tabs_ok (mkOrc_ok (bu.cs_ok F)) Try.func33 (by kernel_rfl) (by kernel_rfl) bu.ok (Nat.le_of_ble_eq_true (by kernel_rfl)) (bu.loops F (bp.tw F) (aK.tw F)) (Eq.trans (bu.eqX F (bp.tw F) (aK.tw F) aa ab H) h)
theorem bu.mk_T {F:Nat} {args:List AV} {H:Hp} {v:AV} {H':Hp} (h:bu.mk (bu.tw F) args H = some (v,H')):Go.AE.T Try.prog 33 args H v H':=by
 unfold bu.mk at h
 split at h
 ·exact bu.T h
 ·cases h
noncomputable def aE.twX (F:Nat) (aa:Sl) (H:Hp):OA:=some ((.int .i64 (aa.n:Int)),H)
noncomputable def aE.tw (F:Nat) (aa:Sl) (H:Hp):OA:=aE.twX F aa H
noncomputable def aE.code:Go.Code:=(Try.f117.body).getD .skip
noncomputable def aE.lh (F:Nat) (p:Nat) (ks:List Nat) (n:Nat) (tm:Tm) (H:Hp):OA:=none
def aE.pn:Nat→List Nat:=fun i=>(([]:List (Nat×List Nat)).lookup i).getD []
def aE.tb:Nat→List (List Nat):=fun i=>(([]:List (Nat×List (List Nat))).lookup i).getD []
noncomputable def aE.mk (g:Sl→Hp→OA) (args:List AV) (H:Hp):OA:=match args with
 | [(.sl aa)]=>g aa H
 | _=>none
noncomputable def aE.cs (F:Nat):List (FuncId×(List AV→Hp→OA)):=[]
theorem aE.loops (F:Nat):LoopsOk tabs (mkOrc (aE.cs F)) aE.pn (aE.lh F) F [] 1 aE.code (fun tm H=>aresults tabs.ty H tm Try.f117.results.toList fun v=>some (v,H)) (fun _ _ _=>none) (fun tm H=>aresults tabs.ty H tm Try.f117.results.toList fun v=>some (v,H)):=by
 exact loops_none (by kernel_rfl)
theorem aE.eqX (F:Nat) (aa:Sl) (H:Hp):aCode tabs (mkOrc (aE.cs F)) aE.pn (aE.lh F) F [] 1 aE.code (argTm [(.sl aa)]) H (fun tm H=>aresults tabs.ty H tm Try.f117.results.toList fun v=>some (v,H)) (fun _ _ _=>none) (fun tm H=>aresults tabs.ty H tm Try.f117.results.toList fun v=>some (v,H)) = aE.twX F aa H:=by kernel_rfl
theorem aE.cs_ok (F:Nat):∀ p ∈ aE.cs F,∀ args H v H',p.2 args H = some (v,H')→Go.AE.T Try.prog p.1 args H v H':=by
 intro p hp
 exact absurd (show p ∈ [] from hp) List.not_mem_nil
theorem aE.ok:codeOk aE.pn Try.f117.ntmps aE.tb aE.code = true:=by kernel_rfl
theorem aE.T {F:Nat} {aa:Sl} {H:Hp} {v:AV} {H':Hp} (h:aE.tw F aa H = some (v,H')):Go.AE.T Try.prog 117 [(.sl aa)] H v H':=
 Go.AE.T.of (Y:=tabs) (C:=mkOrc (aE.cs F)) (PN:=aE.pn) (LH:=aE.lh F) (F:=F) (TB:=aE.tb) (fn:=Try.f117) (code:=aE.code) mixed tabs_ok (mkOrc_ok (aE.cs_ok F)) Try.func117 (by kernel_rfl) (by kernel_rfl) aE.ok (Nat.le_of_ble_eq_true (by kernel_rfl)) (aE.loops F) (Eq.trans (aE.eqX F aa H) h)
theorem aE.mk_T {F:Nat} {args:List AV} {H:Hp} {v:AV} {H':Hp} (h:aE.mk (aE.tw F) args H = some (v,H')):Go.AE.T Try.prog 117 args H v H':=by
 unfold aE.mk at h
 split at h
 ·exact aE.T h
 ·cases h
noncomputable def bf.twX (F:Nat) (aa:Int) (ad:Int) (bK:Int) (H:Hp):OA:=(bif (decide (ad ≤ aa)) then (some ((.bool (decide (aa ≤ bK))),H)) else (some ((.bool false),H)))
noncomputable def bf.tw (F:Nat) (aa:Int) (ad:Int) (bK:Int) (H:Hp):OA:=bf.twX F aa ad bK H
noncomputable def bf.code:Go.Code:=(Try.f81.body).getD .skip
noncomputable def bf.lh (F:Nat) (p:Nat) (ks:List Nat) (n:Nat) (tm:Tm) (H:Hp):OA:=none
def bf.pn:Nat→List Nat:=fun i=>(([]:List (Nat×List Nat)).lookup i).getD []
def bf.tb:Nat→List (List Nat):=fun i=>(([]:List (Nat×List (List Nat))).lookup i).getD []
noncomputable def bf.mk (g:Int→Int→Int→Hp→OA) (args:List AV) (H:Hp):OA:=match args with
 | [(.int .i64 aa),(.int .i64 ad),(.int .i64 bK)]=>g aa ad bK H
 | _=>none
noncomputable def bf.cs (F:Nat):List (FuncId×(List AV→Hp→OA)):=[]
theorem bf.loops (F:Nat):LoopsOk tabs (mkOrc (bf.cs F)) bf.pn (bf.lh F) F [] 1 bf.code (fun tm H=>aresults tabs.ty H tm Try.f81.results.toList fun v=>some (v,H)) (fun _ _ _=>none) (fun tm H=>aresults tabs.ty H tm Try.f81.results.toList fun v=>some (v,H)):=by
 exact loops_none (by kernel_rfl)
theorem bf.eqX (F:Nat) (aa:Int) (ad:Int) (bK:Int) (H:Hp):aCode tabs (mkOrc (bf.cs F)) bf.pn (bf.lh F) F [] 1 bf.code (argTm [(.int .i64 aa),(.int .i64 ad),(.int .i64 bK)]) H (fun tm H=>aresults tabs.ty H tm Try.f81.results.toList fun v=>some (v,H)) (fun _ _ _=>none) (fun tm H=>aresults tabs.ty H tm Try.f81.results.toList fun v=>some (v,H)) = bf.twX F aa ad bK H:=by kernel_rfl
theorem bf.cs_ok (F:Nat):∀ p ∈ bf.cs F,∀ args H v H',p.2 args H = some (v,H')→Go.AE.T Try.prog p.1 args H v H':=by
 intro p hp
 exact absurd (show p ∈ [] from hp) List.not_mem_nil
theorem bf.ok:codeOk bf.pn Try.f81.ntmps bf.tb bf.code = true:=by kernel_rfl
theorem bf.T {F:Nat} {aa:Int} {ad:Int} {bK:Int} {H:Hp} {v:AV} {H':Hp} (h:bf.tw F aa ad bK H = some (v,H')):Go.AE.T Try.prog 81 [(.int .i64 aa),(.int .i64 ad),(.int .i64 bK)] H v H':=
 Go.AE.T.of (Y:=tabs) (C:=mkOrc (bf.cs F)) (PN:=bf.pn) (LH:=bf.lh F) (F:=F) (TB:=bf.tb) (fn:=Try.f81) (code:=bf.code) mixed tabs_ok (mkOrc_ok (bf.cs_ok F)) Try.func81 (by kernel_rfl) (by kernel_rfl) bf.ok (Nat.le_of_ble_eq_true (by kernel_rfl)) (bf.loops F) (Eq.trans (bf.eqX F aa ad bK H) h)
theorem bf.mk_T {F:Nat} {args:List AV} {H:Hp} {v:AV} {H':Hp} (h:bf.mk (bf.tw F) args H = some (v,H')):Go.AE.T Try.prog 81 args H v H':=by
 unfold bf.mk at h
 split at h
 ·exact bf.T h
 ·cases h
noncomputable def bC.twX (F:Nat) (aa:Int) (ab:Int) (ai:Int) (ay:Int) (aw:Int) (H:Hp):OA:=(Hp.new H [(.int .i64 aa),(.int .i64 ab),(.int .i64 ai),(.int .i64 ay),(.int .i64 aw)]).bind fun H6=>(Hp.ldI H6 .i64 H.length 4).bind fun n7=>(bif (n7 != 1) then ((Hp.ldI H6 .i64 H.length 4).bind fun n8=>some ((.bool (n8 != (-1))),H6)) else (some ((.bool false),H6)))
noncomputable def bC.tw (F:Nat) (aa:Int) (ab:Int) (ai:Int) (ay:Int) (aw:Int) (H:Hp):OA:=bC.twX F aa ab ai ay aw H
noncomputable def bC.code:Go.Code:=(Try.f124.body).getD .skip
noncomputable def bC.lh (F:Nat) (p:Nat) (ks:List Nat) (n:Nat) (tm:Tm) (H:Hp):OA:=none
def bC.pn:Nat→List Nat:=fun i=>(([]:List (Nat×List Nat)).lookup i).getD []
def bC.tb:Nat→List (List Nat):=fun i=>(([]:List (Nat×List (List Nat))).lookup i).getD []
noncomputable def bC.mk (g:Int→Int→Int→Int→Int→Hp→OA) (args:List AV) (H:Hp):OA:=match args with
 | [(.agg [(.int .i64 aa),(.int .i64 ab),(.int .i64 ai),(.int .i64 ay),(.int .i64 aw)])]=>g aa ab ai ay aw H
 | _=>none
noncomputable def bC.cs (F:Nat):List (FuncId×(List AV→Hp→OA)):=[]
theorem bC.loops (F:Nat):LoopsOk tabs (mkOrc (bC.cs F)) bC.pn (bC.lh F) F [] 1 bC.code (fun tm H=>aresults tabs.ty H tm Try.f124.results.toList fun v=>some (v,H)) (fun _ _ _=>none) (fun tm H=>aresults tabs.ty H tm Try.f124.results.toList fun v=>some (v,H)):=by
 exact loops_none (by kernel_rfl)
theorem bC.eqX (F:Nat) (aa:Int) (ab:Int) (ai:Int) (ay:Int) (aw:Int) (H:Hp):aCode tabs (mkOrc (bC.cs F)) bC.pn (bC.lh F) F [] 1 bC.code (argTm [(.agg [(.int .i64 aa),(.int .i64 ab),(.int .i64 ai),(.int .i64 ay),(.int .i64 aw)])]) H (fun tm H=>aresults tabs.ty H tm Try.f124.results.toList fun v=>some (v,H)) (fun _ _ _=>none) (fun tm H=>aresults tabs.ty H tm Try.f124.results.toList fun v=>some (v,H)) = bC.twX F aa ab ai ay aw H:=by kernel_rfl
theorem bC.cs_ok (F:Nat):∀ p ∈ bC.cs F,∀ args H v H',p.2 args H = some (v,H')→Go.AE.T Try.prog p.1 args H v H':=by
 intro p hp
 exact absurd (show p ∈ [] from hp) List.not_mem_nil
theorem bC.ok:codeOk bC.pn Try.f124.ntmps bC.tb bC.code = true:=by kernel_rfl
theorem bC.T {F:Nat} {aa:Int} {ab:Int} {ai:Int} {ay:Int} {aw:Int} {H:Hp} {v:AV} {H':Hp} (h:bC.tw F aa ab ai ay aw H = some (v,H')):Go.AE.T Try.prog 124 [(.agg [(.int .i64 aa),(.int .i64 ab),(.int .i64 ai),(.int .i64 ay),(.int .i64 aw)])] H v H':=
 Go.AE.T.of (Y:=tabs) (C:=mkOrc (bC.cs F)) (PN:=bC.pn) (LH:=bC.lh F) (F:=F) (TB:=bC.tb) (fn:=Try.f124) (code:=bC.code) mixed tabs_ok (mkOrc_ok (bC.cs_ok F)) Try.func124 (by kernel_rfl) (by kernel_rfl) bC.ok (Nat.le_of_ble_eq_true (by kernel_rfl)) (bC.loops F) (Eq.trans (bC.eqX F aa ab ai ay aw H) h)
theorem bC.mk_T {F:Nat} {args:List AV} {H:Hp} {v:AV} {H':Hp} (h:bC.mk (bC.tw F) args H = some (v,H')):Go.AE.T Try.prog 124 args H v H':=by
 unfold bC.mk at h
 split at h
 ·exact bC.T h
 ·cases h
noncomputable def aL.l13 (F:Nat) (dK:Int→Int→Int→Int→Int→Hp→OA) :Nat→Sl→Int→Int→Hp→OA
 | 0,_,_,_,_=>none
 | eW + 1,fQ,eo,dL,H6=>(bif (decide (dL < eo)) then ((Sl.idx fQ dL 5).bind fun p15=>(Hp.ldI H6 .i64 p15.1 p15.2).bind fun n16=>(Hp.ldI H6 .i64 p15.1 (p15.2 + 1)).bind fun n17=>(Hp.ldI H6 .i64 p15.1 (p15.2 + 2)).bind fun n18=>(Hp.ldI H6 .i64 p15.1 (p15.2 + 3)).bind fun n19=>(Hp.ldI H6 .i64 p15.1 (p15.2 + 4)).bind fun n20=>(dK n16 n17 n18 n19 n20 H6).bind fun r21=>((r21.1).asB).bind fun b22=>(bif b22 then (some ((.int .i64 dL),r21.2)) else (aL.l13 F dK eW fQ eo (IntKind.i64.wrap (dL + 1)) r21.2))) else (some ((.int .i64 (-1)),H6)))
termination_by structural n=>n
noncomputable def aL.twX (F:Nat) (dK:Int→Int→Int→Int→Int→Hp→OA) (aa:Sl) (H:Hp):OA:=aL.l13 F dK F aa (aa.n:Int) 0 H
noncomputable def aL.tw (F:Nat) (aa:Sl) (H:Hp):OA:=aL.twX F (bC.tw F) aa H
noncomputable def aL.code:Go.Code:=(Try.f153.body).getD .skip
noncomputable def aL.lh13 (F:Nat) (dK:Int→Int→Int→Int→Int→Hp→OA) (ks:List Nat) (n:Nat) (tm:Tm) (H:Hp):OA:=match ks,tm 0,tm 1,tm 7,tm 8 with
 | [],(.sl fQ),(.fn 124 []),(.int .i64 eo),(.int .i64 dL)=>aL.l13 F dK n fQ eo dL H
 | _,_,_,_,_=>none
theorem aL.lh13_inv {F:Nat} {dK:Int→Int→Int→Int→Int→Hp→OA} {ks:List Nat} {n:Nat} {tm:Tm} {H:Hp} {r:AV×Hp} (h:aL.lh13 F dK ks n tm H = some r):∃ fQ:Sl,∃ eo:Int,∃ dL:Int,ks = []∧tm 0 = (.sl fQ)∧tm 1 = (.fn 124 [])∧tm 7 = (.int .i64 eo)∧tm 8 = (.int .i64 dL)∧aL.l13 F dK n fQ eo dL H = some r:=by
 unfold aL.lh13 at h
 split at h
 ·exact ⟨_,_,_,rfl,by assumption,by assumption,by assumption,by assumption,h⟩
 ·cases h
noncomputable def aL.lh (F:Nat) (dK:Int→Int→Int→Int→Int→Hp→OA) (p:Nat) (ks:List Nat) (n:Nat) (tm:Tm) (H:Hp):OA:=bif p.beq 13 then aL.lh13 F dK ks n tm H else (none)
def aL.pn:Nat→List Nat:=fun i=>(([]:List (Nat×List Nat)).lookup i).getD []
def aL.tb:Nat→List (List Nat):=fun i=>(([]:List (Nat×List (List Nat))).lookup i).getD []
noncomputable def aL.mk (g:Sl→Hp→OA) (args:List AV) (H:Hp):OA:=match args with
 | [(.sl aa),(.fn 124 [])]=>g aa H
 | _=>none
noncomputable def aL.cs (F:Nat) (dK:Int→Int→Int→Int→Int→Hp→OA):List (FuncId×(List AV→Hp→OA)):=[(124,bC.mk dK)]
theorem aL.loops (F:Nat) (dK:Int→Int→Int→Int→Int→Hp→OA):LoopsOk tabs (mkOrc (aL.cs F dK)) aL.pn (aL.lh F dK) F [] 1 aL.code (fun tm H=>aresults tabs.ty H tm Try.f153.results.toList fun v=>some (v,H)) (fun _ _ _=>none) (fun tm H=>aresults tabs.ty H tm Try.f153.results.toList fun v=>some (v,H)):=by
 refine LoopsOk.seq ?_ ?_
 ·exact loops_none (by kernel_rfl)
 ·refine LoopsOk.seq ?_ ?_
  ·refine LoopsOk.seq ?_ ?_
   ·exact loops_none (by kernel_rfl)
   ·refine LoopsOk.block ?_
    refine LoopsOk.loop (fun tm H=>?_) (fun k13 tm H r h0=>?_) (fun k13=>?_)
    ·refine none_of fun r h0=>?_
     obtain ⟨fQ,eo,dL,hks,e0,e1,e7,e8,h⟩:=aL.lh13_inv (show aL.lh13 F dK [] 0 tm H = some r from h0)
     cases h
    ·obtain ⟨fQ,eo,dL,hks,e0,e1,e7,e8,h⟩:=aL.lh13_inv (show aL.lh13 F dK [] (k13 + 1) tm H = some r from h0)
     have q0:(Tm.put tm 0 (.sl fQ)) = tm:=by exact Tm.put_same e0
     have q1:(Tm.put (Tm.put tm 0 (.sl fQ)) 1 (.fn 124 [])) = tm:=by rw [q0]; exact Tm.put_same e1
     have q2:(Tm.put (Tm.put (Tm.put tm 0 (.sl fQ)) 1 (.fn 124 [])) 7 (.int .i64 eo)) = tm:=by rw [q1]; exact Tm.put_same e7
     have q3:(Tm.put (Tm.put (Tm.put (Tm.put tm 0 (.sl fQ)) 1 (.fn 124 [])) 7 (.int .i64 eo)) 8 (.int .i64 dL)) = tm:=by rw [q2]; exact Tm.put_same e8
     rw [← q3]
     exact Eq.trans (by kernel_rfl) h
    ·exact loops_none (by kernel_rfl)
  ·exact loops_none (by kernel_rfl)
theorem aL.eqX (F:Nat) (dK:Int→Int→Int→Int→Int→Hp→OA) (aa:Sl) (H:Hp):aCode tabs (mkOrc (aL.cs F dK)) aL.pn (aL.lh F dK) F [] 1 aL.code (argTm [(.sl aa),(.fn 124 [])]) H (fun tm H=>aresults tabs.ty H tm Try.f153.results.toList fun v=>some (v,H)) (fun _ _ _=>none) (fun tm H=>aresults tabs.ty H tm Try.f153.results.toList fun v=>some (v,H)) = aL.twX F dK aa H:=by kernel_rfl
theorem aL.cs_ok (F:Nat):∀ p ∈ aL.cs F (bC.tw F),∀ args H v H',p.2 args H = some (v,H')→Go.AE.T Try.prog p.1 args H v H':=by
 intro p hp
 simp only [aL.cs,List.mem_cons,List.not_mem_nil,or_false] at hp
 subst hp
 exact fun args H v H' h=>bC.mk_T h
theorem aL.ok:codeOk aL.pn Try.f153.ntmps aL.tb aL.code = true:=by kernel_rfl
theorem aL.T {F:Nat} {aa:Sl} {H:Hp} {v:AV} {H':Hp} (h:aL.tw F aa H = some (v,H')):Go.AE.T Try.prog 153 [(.sl aa),(.fn 124 [])] H v H':=
 Go.AE.T.of (Y:=tabs) (C:=mkOrc (aL.cs F (bC.tw F))) (PN:=aL.pn) (LH:=aL.lh F (bC.tw F)) (F:=F) (TB:=aL.tb) (fn:=Try.f153) (code:=aL.code) mixed tabs_ok (mkOrc_ok (aL.cs_ok F)) Try.func153 (by kernel_rfl) (by kernel_rfl) aL.ok (Nat.le_of_ble_eq_true (by kernel_rfl)) (aL.loops F (bC.tw F)) (Eq.trans (aL.eqX F (bC.tw F) aa H) h)
theorem aL.mk_T {F:Nat} {args:List AV} {H:Hp} {v:AV} {H':Hp} (h:aL.mk (aL.tw F) args H = some (v,H')):Go.AE.T Try.prog 153 args H v H':=by
 unfold aL.mk at h
 split at h
 ·exact aL.T h
 ·cases h
noncomputable def bv.twX (F:Nat) (gE:Sl→Hp→OA) (aa:Sl) (H:Hp):OA:=(gE aa H).bind fun r2=>((r2.1).asI .i64).bind fun n3=>some ((.bool (decide (n3 ≥ 0))),r2.2)
noncomputable def bv.tw (F:Nat) (aa:Sl) (H:Hp):OA:=bv.twX F (aL.tw F) aa H
noncomputable def bv.code:Go.Code:=(Try.f123.body).getD .skip
noncomputable def bv.lh (F:Nat) (gE:Sl→Hp→OA) (p:Nat) (ks:List Nat) (n:Nat) (tm:Tm) (H:Hp):OA:=none
def bv.pn:Nat→List Nat:=fun i=>(([]:List (Nat×List Nat)).lookup i).getD []
def bv.tb:Nat→List (List Nat):=fun i=>(([]:List (Nat×List (List Nat))).lookup i).getD []
noncomputable def bv.mk (g:Sl→Hp→OA) (args:List AV) (H:Hp):OA:=match args with
 | [(.sl aa),(.fn 124 [])]=>g aa H
 | _=>none
noncomputable def bv.cs (F:Nat) (gE:Sl→Hp→OA):List (FuncId×(List AV→Hp→OA)):=[(153,aL.mk gE)]
theorem bv.loops (F:Nat) (gE:Sl→Hp→OA):LoopsOk tabs (mkOrc (bv.cs F gE)) bv.pn (bv.lh F gE) F [] 1 bv.code (fun tm H=>aresults tabs.ty H tm Try.f123.results.toList fun v=>some (v,H)) (fun _ _ _=>none) (fun tm H=>aresults tabs.ty H tm Try.f123.results.toList fun v=>some (v,H)):=by
 exact loops_none (by kernel_rfl)
theorem bv.eqX (F:Nat) (gE:Sl→Hp→OA) (aa:Sl) (H:Hp):aCode tabs (mkOrc (bv.cs F gE)) bv.pn (bv.lh F gE) F [] 1 bv.code (argTm [(.sl aa),(.fn 124 [])]) H (fun tm H=>aresults tabs.ty H tm Try.f123.results.toList fun v=>some (v,H)) (fun _ _ _=>none) (fun tm H=>aresults tabs.ty H tm Try.f123.results.toList fun v=>some (v,H)) = bv.twX F gE aa H:=by kernel_rfl
theorem bv.cs_ok (F:Nat):∀ p ∈ bv.cs F (aL.tw F),∀ args H v H',p.2 args H = some (v,H')→Go.AE.T Try.prog p.1 args H v H':=by
 intro p hp
 simp only [bv.cs,List.mem_cons,List.not_mem_nil,or_false] at hp
 subst hp
 exact fun args H v H' h=>aL.mk_T h
theorem bv.ok:codeOk bv.pn Try.f123.ntmps bv.tb bv.code = true:=by kernel_rfl
theorem bv.T {F:Nat} {aa:Sl} {H:Hp} {v:AV} {H':Hp} (h:bv.tw F aa H = some (v,H')):Go.AE.T Try.prog 123 [(.sl aa),(.fn 124 [])] H v H':=
 Go.AE.T.of (Y:=tabs) (C:=mkOrc (bv.cs F (aL.tw F))) (PN:=bv.pn) (LH:=bv.lh F (aL.tw F)) (F:=F) (TB:=bv.tb) (fn:=Try.f123) (code:=bv.code) mixed tabs_ok (mkOrc_ok (bv.cs_ok F)) Try.func123 (by kernel_rfl) (by kernel_rfl) bv.ok (Nat.le_of_ble_eq_true (by kernel_rfl)) (bv.loops F (aL.tw F)) (Eq.trans (bv.eqX F (aL.tw F) aa H) h)
theorem bv.mk_T {F:Nat} {args:List AV} {H:Hp} {v:AV} {H':Hp} (h:bv.mk (bv.tw F) args H = some (v,H')):Go.AE.T Try.prog 123 args H v H':=by
 unfold bv.mk at h
 split at h
 ·exact bv.T h
 ·cases h
noncomputable def bits_Mul64.twX (F:Nat) (aa:Int) (ad:Int) (H:Hp):OA:=some ((.tup [(.int .u64 (IntKind.u64.wrap ((IntKind.u64.wrap ((IntKind.u64.wrap ((Int.fdiv aa (2 ^ (min (32:Int).toNat (IntKind.u64).bits))) * (Int.fdiv ad (2 ^ (min (32:Int).toNat (IntKind.u64).bits))))) + (Int.fdiv (IntKind.u64.wrap ((IntKind.u64.wrap ((Int.fdiv aa (2 ^ (min (32:Int).toNat (IntKind.u64).bits))) * (Go.bits .and .u64 ad 4294967295))) + (Int.fdiv (IntKind.u64.wrap ((Go.bits .and .u64 aa 4294967295) * (Go.bits .and .u64 ad 4294967295))) (2 ^ (min (32:Int).toNat (IntKind.u64).bits))))) (2 ^ (min (32:Int).toNat (IntKind.u64).bits))))) + (Int.fdiv (IntKind.u64.wrap ((Go.bits .and .u64 (IntKind.u64.wrap ((IntKind.u64.wrap ((Int.fdiv aa (2 ^ (min (32:Int).toNat (IntKind.u64).bits))) * (Go.bits .and .u64 ad 4294967295))) + (Int.fdiv (IntKind.u64.wrap ((Go.bits .and .u64 aa 4294967295) * (Go.bits .and .u64 ad 4294967295))) (2 ^ (min (32:Int).toNat (IntKind.u64).bits))))) 4294967295) + (IntKind.u64.wrap ((Go.bits .and .u64 aa 4294967295) * (Int.fdiv ad (2 ^ (min (32:Int).toNat (IntKind.u64).bits))))))) (2 ^ (min (32:Int).toNat (IntKind.u64).bits)))))),(.int .u64 (IntKind.u64.wrap (aa * ad)))]),H)
noncomputable def bits_Mul64.tw (F:Nat) (aa:Int) (ad:Int) (H:Hp):OA:=bits_Mul64.twX F aa ad H
noncomputable def bits_Mul64.code:Go.Code:=(Try.f172.body).getD .skip
noncomputable def bits_Mul64.lh (F:Nat) (p:Nat) (ks:List Nat) (n:Nat) (tm:Tm) (H:Hp):OA:=none
def bits_Mul64.pn:Nat→List Nat:=fun i=>(([]:List (Nat×List Nat)).lookup i).getD []
def bits_Mul64.tb:Nat→List (List Nat):=fun i=>(([]:List (Nat×List (List Nat))).lookup i).getD []
noncomputable def bits_Mul64.mk (g:Int→Int→Hp→OA) (args:List AV) (H:Hp):OA:=match args with
 | [(.int .u64 aa),(.int .u64 ad)]=>g aa ad H
 | _=>none
noncomputable def bits_Mul64.cs (F:Nat):List (FuncId×(List AV→Hp→OA)):=[]
theorem bits_Mul64.loops (F:Nat):LoopsOk tabs (mkOrc (bits_Mul64.cs F)) bits_Mul64.pn (bits_Mul64.lh F) F [] 1 bits_Mul64.code (fun tm H=>aresults tabs.ty H tm Try.f172.results.toList fun v=>some (v,H)) (fun _ _ _=>none) (fun tm H=>aresults tabs.ty H tm Try.f172.results.toList fun v=>some (v,H)):=by
 exact loops_none (by kernel_rfl)
theorem bits_Mul64.eqX (F:Nat) (aa:Int) (ad:Int) (H:Hp):aCode tabs (mkOrc (bits_Mul64.cs F)) bits_Mul64.pn (bits_Mul64.lh F) F [] 1 bits_Mul64.code (argTm [(.int .u64 aa),(.int .u64 ad)]) H (fun tm H=>aresults tabs.ty H tm Try.f172.results.toList fun v=>some (v,H)) (fun _ _ _=>none) (fun tm H=>aresults tabs.ty H tm Try.f172.results.toList fun v=>some (v,H)) = bits_Mul64.twX F aa ad H:=by kernel_rfl
theorem bits_Mul64.cs_ok (F:Nat):∀ p ∈ bits_Mul64.cs F,∀ args H v H',p.2 args H = some (v,H')→Go.AE.T Try.prog p.1 args H v H':=by
 intro p hp
 exact absurd (show p ∈ [] from hp) List.not_mem_nil
theorem bits_Mul64.ok:codeOk bits_Mul64.pn Try.f172.ntmps bits_Mul64.tb bits_Mul64.code = true:=by kernel_rfl
theorem bits_Mul64.T {F:Nat} {aa:Int} {ad:Int} {H:Hp} {v:AV} {H':Hp} (h:bits_Mul64.tw F aa ad H = some (v,H')):Go.AE.T Try.prog 172 [(.int .u64 aa),(.int .u64 ad)] H v H':=
 Go.AE.T.of (Y:=tabs) (C:=mkOrc (bits_Mul64.cs F)) (PN:=bits_Mul64.pn) (LH:=bits_Mul64.lh F) (F:=F) (TB:=bits_Mul64.tb) (fn:=Try.f172) (code:=bits_Mul64.code) mixed tabs_ok (mkOrc_ok (bits_Mul64.cs_ok F)) Try.func172 (by kernel_rfl) (by kernel_rfl) bits_Mul64.ok (Nat.le_of_ble_eq_true (by kernel_rfl)) (bits_Mul64.loops F) (Eq.trans (bits_Mul64.eqX F aa ad H) h)
theorem bits_Mul64.mk_T {F:Nat} {args:List AV} {H:Hp} {v:AV} {H':Hp} (h:bits_Mul64.mk (bits_Mul64.tw F) args H = some (v,H')):Go.AE.T Try.prog 172 args H v H':=by
 unfold bits_Mul64.mk at h
 split at h
 ·exact bits_Mul64.T h
 ·cases h
noncomputable def bits_Mul.twX (F:Nat) (g_bits_Mul64:Int→Int→Hp→OA) (aa:Int) (ad:Int) (H:Hp):OA:=(g_bits_Mul64 aa ad H).bind fun r3=>((r3.1).asTup 2).bind fun l4=>(l4[0]?).bind fun v5=>((v5).asI .u64).bind fun n6=>(l4[1]?).bind fun v7=>((v7).asI .u64).bind fun n8=>some ((.tup [(.int .u64 n6),(.int .u64 n8)]),r3.2)
noncomputable def bits_Mul.tw (F:Nat) (aa:Int) (ad:Int) (H:Hp):OA:=bits_Mul.twX F (bits_Mul64.tw F) aa ad H
noncomputable def bits_Mul.code:Go.Code:=(Try.f158.body).getD .skip
noncomputable def bits_Mul.lh (F:Nat) (g_bits_Mul64:Int→Int→Hp→OA) (p:Nat) (ks:List Nat) (n:Nat) (tm:Tm) (H:Hp):OA:=none
def bits_Mul.pn:Nat→List Nat:=fun i=>(([]:List (Nat×List Nat)).lookup i).getD []
def bits_Mul.tb:Nat→List (List Nat):=fun i=>(([]:List (Nat×List (List Nat))).lookup i).getD []
noncomputable def bits_Mul.mk (g:Int→Int→Hp→OA) (args:List AV) (H:Hp):OA:=match args with
 | [(.int .u64 aa),(.int .u64 ad)]=>g aa ad H
 | _=>none
noncomputable def bits_Mul.cs (F:Nat) (g_bits_Mul64:Int→Int→Hp→OA):List (FuncId×(List AV→Hp→OA)):=[(172,bits_Mul64.mk g_bits_Mul64)]
theorem bits_Mul.loops (F:Nat) (g_bits_Mul64:Int→Int→Hp→OA):LoopsOk tabs (mkOrc (bits_Mul.cs F g_bits_Mul64)) bits_Mul.pn (bits_Mul.lh F g_bits_Mul64) F [] 1 bits_Mul.code (fun tm H=>aresults tabs.ty H tm Try.f158.results.toList fun v=>some (v,H)) (fun _ _ _=>none) (fun tm H=>aresults tabs.ty H tm Try.f158.results.toList fun v=>some (v,H)):=by
 exact loops_none (by kernel_rfl)
theorem bits_Mul.eqX (F:Nat) (g_bits_Mul64:Int→Int→Hp→OA) (aa:Int) (ad:Int) (H:Hp):aCode tabs (mkOrc (bits_Mul.cs F g_bits_Mul64)) bits_Mul.pn (bits_Mul.lh F g_bits_Mul64) F [] 1 bits_Mul.code (argTm [(.int .u64 aa),(.int .u64 ad)]) H (fun tm H=>aresults tabs.ty H tm Try.f158.results.toList fun v=>some (v,H)) (fun _ _ _=>none) (fun tm H=>aresults tabs.ty H tm Try.f158.results.toList fun v=>some (v,H)) = bits_Mul.twX F g_bits_Mul64 aa ad H:=by kernel_rfl
theorem bits_Mul.cs_ok (F:Nat):∀ p ∈ bits_Mul.cs F (bits_Mul64.tw F),∀ args H v H',p.2 args H = some (v,H')→Go.AE.T Try.prog p.1 args H v H':=by
 intro p hp
 simp only [bits_Mul.cs,List.mem_cons,List.not_mem_nil,or_false] at hp
 subst hp
 exact fun args H v H' h=>bits_Mul64.mk_T h
theorem bits_Mul.ok:codeOk bits_Mul.pn Try.f158.ntmps bits_Mul.tb bits_Mul.code = true:=by kernel_rfl
theorem bits_Mul.T {F:Nat} {aa:Int} {ad:Int} {H:Hp} {v:AV} {H':Hp} (h:bits_Mul.tw F aa ad H = some (v,H')):Go.AE.T Try.prog 158 [(.int .u64 aa),(.int .u64 ad)] H v H':=
 Go.AE.T.of (Y:=tabs) (C:=mkOrc (bits_Mul.cs F (bits_Mul64.tw F))) (PN:=bits_Mul.pn) (LH:=bits_Mul.lh F (bits_Mul64.tw F)) (F:=F) (TB:=bits_Mul.tb) (fn:=Try.f158) (code:=bits_Mul.code) mixed tabs_ok (mkOrc_ok (bits_Mul.cs_ok F)) Try.func158 (by kernel_rfl) (by kernel_rfl) bits_Mul.ok (Nat.le_of_ble_eq_true (by kernel_rfl)) (bits_Mul.loops F (bits_Mul64.tw F)) (Eq.trans (bits_Mul.eqX F (bits_Mul64.tw F) aa ad H) h)
theorem bits_Mul.mk_T {F:Nat} {args:List AV} {H:Hp} {v:AV} {H':Hp} (h:bits_Mul.mk (bits_Mul.tw F) args H = some (v,H')):Go.AE.T Try.prog 158 args H v H':=by
 unfold bits_Mul.mk at h
 split at h
 ·exact bits_Mul.T h
 ·cases h
noncomputable def aA.l254 (F:Nat) (g_bits_Mul:Int→Int→Hp→OA) :Nat→Sl→Int→Hp→OA
 | 0,_,_,_=>none
 | ze + 1,fz,gf,H33=>(bif (decide (gf < (fz.n:Int))) then ((Sl.cut fz 2 gf (fz.n:Int)).bind fun s37=>(Sl.cut fz 2 0 gf).bind fun s38=>(Hp.cpy H33 2 s37 s38).bind fun c39=>aA.l254 F g_bits_Mul ze fz (IntKind.i64.wrap (gf + (c39.1:Int))) c39.2) else (some ((.sl fz),H33)))
termination_by structural n=>n
noncomputable def aA.j1 (F:Nat) (g_bits_Mul:Int→Int→Hp→OA) (zf:Sl) (jk:Int) (H21:Hp):OA:=(Hp.mk H21 [.int .i64 0,.int .i64 0] 16 (IntKind.i64.wrap jk) (IntKind.i64.wrap jk)).bind fun m22=>(Hp.cpy m22.2 2 m22.1 zf).bind fun c23=>aA.l254 F g_bits_Mul F m22.1 (c23.1:Int) c23.2
noncomputable def aA.j2 (F:Nat) (g_bits_Mul:Int→Int→Hp→OA) (tF:Sl) (ka:Int) (H7:Hp):OA:=(g_bits_Mul (IntKind.u64.wrap (tF.n:Int)) (IntKind.u64.wrap ka) H7).bind fun r8=>((r8.1).asTup 2).bind fun l9=>(l9[0]?).bind fun v10=>((v10).asI .u64).bind fun n11=>(l9[1]?).bind fun v12=>((v12).asI .u64).bind fun n13=>(bif (decide (n11 > 0)) then (none) else ((bif (decide (n13 > 9223372036854775807)) then (none) else (aA.j1 F g_bits_Mul tF n13 r8.2))))
noncomputable def aA.twX (F:Nat) (g_bits_Mul:Int→Int→Hp→OA) (aa:Sl) (ad:Int) (H:Hp):OA:=(bif (decide (ad < 0)) then (none) else (aA.j2 F g_bits_Mul aa ad H))
noncomputable def aA.tw (F:Nat) (aa:Sl) (ad:Int) (H:Hp):OA:=aA.twX F (bits_Mul.tw F) aa ad H
noncomputable def aA.code:Go.Code:=(Try.f154.body).getD .skip
noncomputable def aA.lh254 (F:Nat) (g_bits_Mul:Int→Int→Hp→OA) (ks:List Nat) (n:Nat) (tm:Tm) (H:Hp):OA:=match ks,tm 7,tm 8 with
 | [],(.sl fz),(.int .i64 gf)=>aA.l254 F g_bits_Mul n fz gf H
 | _,_,_=>none
theorem aA.lh254_inv {F:Nat} {g_bits_Mul:Int→Int→Hp→OA} {ks:List Nat} {n:Nat} {tm:Tm} {H:Hp} {r:AV×Hp} (h:aA.lh254 F g_bits_Mul ks n tm H = some r):∃ fz:Sl,∃ gf:Int,ks = []∧tm 7 = (.sl fz)∧tm 8 = (.int .i64 gf)∧aA.l254 F g_bits_Mul n fz gf H = some r:=by
 unfold aA.lh254 at h
 split at h
 ·exact ⟨_,_,rfl,by assumption,by assumption,h⟩
 ·cases h
noncomputable def aA.lh (F:Nat) (g_bits_Mul:Int→Int→Hp→OA) (p:Nat) (ks:List Nat) (n:Nat) (tm:Tm) (H:Hp):OA:=bif p.beq 254 then aA.lh254 F g_bits_Mul ks n tm H else (none)
def aA.pn:Nat→List Nat:=fun i=>(([(9,[7])]:List (Nat×List Nat)).lookup i).getD []
def aA.tb:Nat→List (List Nat):=fun i=>(([(9,[[],[],[],[1,2],[],[],[4,5],[1,2,3,4,5,6],[0,1,2,3,4,5,6,7],[0,1,2,3,4,5,6,7,8]])]:List (Nat×List (List Nat))).lookup i).getD []
noncomputable def aA.mk (g:Sl→Int→Hp→OA) (args:List AV) (H:Hp):OA:=match args with
 | [(.sl aa),(.int .i64 ad)]=>g aa ad H
 | _=>none
noncomputable def aA.cs (F:Nat) (g_bits_Mul:Int→Int→Hp→OA):List (FuncId×(List AV→Hp→OA)):=[(158,bits_Mul.mk g_bits_Mul)]
theorem aA.loops (F:Nat) (g_bits_Mul:Int→Int→Hp→OA):LoopsOk tabs (mkOrc (aA.cs F g_bits_Mul)) aA.pn (aA.lh F g_bits_Mul) F [] 1 aA.code (fun tm H=>aresults tabs.ty H tm Try.f154.results.toList fun v=>some (v,H)) (fun _ _ _=>none) (fun tm H=>aresults tabs.ty H tm Try.f154.results.toList fun v=>some (v,H)):=by
 refine LoopsOk.seq ?_ ?_
 ·exact loops_none (by kernel_rfl)
 ·refine LoopsOk.seq ?_ ?_
  ·exact loops_none (by kernel_rfl)
  ·refine LoopsOk.seq ?_ ?_
   ·exact loops_none (by kernel_rfl)
   ·refine LoopsOk.seq ?_ ?_
    ·exact loops_none (by kernel_rfl)
    ·refine LoopsOk.seq ?_ ?_
     ·exact loops_none (by kernel_rfl)
     ·refine LoopsOk.seq ?_ ?_
      ·exact loops_none (by kernel_rfl)
      ·refine LoopsOk.seq ?_ ?_
       ·refine LoopsOk.block ?_
        refine LoopsOk.loop (fun tm H=>?_) (fun k254 tm H r h0=>?_) (fun k254=>?_)
        ·refine none_of fun r h0=>?_
         obtain ⟨fz,gf,hks,e7,e8,h⟩:=aA.lh254_inv (show aA.lh254 F g_bits_Mul [] 0 tm H = some r from h0)
         cases h
        ·obtain ⟨fz,gf,hks,e7,e8,h⟩:=aA.lh254_inv (show aA.lh254 F g_bits_Mul [] (k254 + 1) tm H = some r from h0)
         have q0:(Tm.put tm 7 (.sl fz)) = tm:=by exact Tm.put_same e7
         have q1:(Tm.put (Tm.put tm 7 (.sl fz)) 8 (.int .i64 gf)) = tm:=by rw [q0]; exact Tm.put_same e8
         rw [← q1]
         exact Eq.trans (by kernel_rfl) h
        ·exact loops_none (by kernel_rfl)
       ·exact loops_none (by kernel_rfl)
theorem aA.eqX (F:Nat) (g_bits_Mul:Int→Int→Hp→OA) (aa:Sl) (ad:Int) (H:Hp):aCode tabs (mkOrc (aA.cs F g_bits_Mul)) aA.pn (aA.lh F g_bits_Mul) F [] 1 aA.code (argTm [(.sl aa),(.int .i64 ad)]) H (fun tm H=>aresults tabs.ty H tm Try.f154.results.toList fun v=>some (v,H)) (fun _ _ _=>none) (fun tm H=>aresults tabs.ty H tm Try.f154.results.toList fun v=>some (v,H)) = aA.twX F g_bits_Mul aa ad H:=by kernel_rfl
theorem aA.cs_ok (F:Nat):∀ p ∈ aA.cs F (bits_Mul.tw F),∀ args H v H',p.2 args H = some (v,H')→Go.AE.T Try.prog p.1 args H v H':=by
 intro p hp
 simp only [aA.cs,List.mem_cons,List.not_mem_nil,or_false] at hp
 subst hp
 exact fun args H v H' h=>bits_Mul.mk_T h
theorem aA.ok:codeOk aA.pn Try.f154.ntmps aA.tb aA.code = true:=by kernel_rfl
theorem aA.T {F:Nat} {aa:Sl} {ad:Int} {H:Hp} {v:AV} {H':Hp} (h:aA.tw F aa ad H = some (v,H')):Go.AE.T Try.prog 154 [(.sl aa),(.int .i64 ad)] H v H':=
 Go.AE.T.of (Y:=tabs) (C:=mkOrc (aA.cs F (bits_Mul.tw F))) (PN:=aA.pn) (LH:=aA.lh F (bits_Mul.tw F)) (F:=F) (TB:=aA.tb) (fn:=Try.f154) (code:=aA.code) mixed tabs_ok (mkOrc_ok (aA.cs_ok F)) Try.func154 (by kernel_rfl) (by kernel_rfl) aA.ok (Nat.le_of_ble_eq_true (by kernel_rfl)) (aA.loops F (bits_Mul.tw F)) (Eq.trans (aA.eqX F (bits_Mul.tw F) aa ad H) h)
theorem aA.mk_T {F:Nat} {args:List AV} {H:Hp} {v:AV} {H':Hp} (h:aA.mk (aA.tw F) args H = some (v,H')):Go.AE.T Try.prog 154 args H v H':=by
 unfold aA.mk at h
 split at h
 ·exact aA.T h
 ·cases h
noncomputable def bc.twX (F:Nat) (aa:Int) (ab:Int) (ai:Int) (ay:Int) (aw:Int) (H:Hp):OA:=(Hp.new H [(.int .i64 aa),(.int .i64 ab),(.int .i64 ai),(.int .i64 ay),(.int .i64 aw)]).bind fun H6=>(Hp.new H6 [.int .i64 0,.int .i64 0,.int .i64 0,.int .i64 0]).bind fun H7=>(Hp.ldI H7 .i64 H.length 0).bind fun n8=>(Hp.ldI H7 .i64 H.length 1).bind fun n9=>(Hp.ldI H7 .i64 H.length 2).bind fun n10=>(Hp.ldI H7 .i64 H.length 3).bind fun n11=>(Hp.st H7 H6.length 0 (.int .i64 n8)).bind fun H12=>(Hp.st H12 H6.length (0 + 1) (.int .i64 n9)).bind fun H13=>(Hp.st H13 H6.length (0 + 1 + 1) (.int .i64 n10)).bind fun H14=>(Hp.st H14 H6.length (0 + 1 + 1 + 1) (.int .i64 n11)).bind fun H15=>(Hp.ldI H15 .i64 H6.length 0).bind fun n16=>(Hp.ldI H15 .i64 H6.length (0 + 1)).bind fun n17=>(Hp.ldI H15 .i64 H6.length (0 + 2)).bind fun n18=>(Hp.ldI H15 .i64 H6.length (0 + 3)).bind fun n19=>some ((.agg [(.int .i64 n16),(.int .i64 n17),(.int .i64 n18),(.int .i64 n19)]),H15)
noncomputable def bc.tw (F:Nat) (aa:Int) (ab:Int) (ai:Int) (ay:Int) (aw:Int) (H:Hp):OA:=bc.twX F aa ab ai ay aw H
noncomputable def bc.code:Go.Code:=(Try.f155.body).getD .skip
noncomputable def bc.lh (F:Nat) (p:Nat) (ks:List Nat) (n:Nat) (tm:Tm) (H:Hp):OA:=none
def bc.pn:Nat→List Nat:=fun i=>(([]:List (Nat×List Nat)).lookup i).getD []
def bc.tb:Nat→List (List Nat):=fun i=>(([]:List (Nat×List (List Nat))).lookup i).getD []
noncomputable def bc.mk (g:Int→Int→Int→Int→Int→Hp→OA) (args:List AV) (H:Hp):OA:=match args with
 | [(.agg [(.int .i64 aa),(.int .i64 ab),(.int .i64 ai),(.int .i64 ay),(.int .i64 aw)])]=>g aa ab ai ay aw H
 | _=>none
noncomputable def bc.cs (F:Nat):List (FuncId×(List AV→Hp→OA)):=[]
theorem bc.loops (F:Nat):LoopsOk tabs (mkOrc (bc.cs F)) bc.pn (bc.lh F) F [] 1 bc.code (fun tm H=>aresults tabs.ty H tm Try.f155.results.toList fun v=>some (v,H)) (fun _ _ _=>none) (fun tm H=>aresults tabs.ty H tm Try.f155.results.toList fun v=>some (v,H)):=by
 exact loops_none (by kernel_rfl)
theorem bc.eqX (F:Nat) (aa:Int) (ab:Int) (ai:Int) (ay:Int) (aw:Int) (H:Hp):aCode tabs (mkOrc (bc.cs F)) bc.pn (bc.lh F) F [] 1 bc.code (argTm [(.agg [(.int .i64 aa),(.int .i64 ab),(.int .i64 ai),(.int .i64 ay),(.int .i64 aw)])]) H (fun tm H=>aresults tabs.ty H tm Try.f155.results.toList fun v=>some (v,H)) (fun _ _ _=>none) (fun tm H=>aresults tabs.ty H tm Try.f155.results.toList fun v=>some (v,H)) = bc.twX F aa ab ai ay aw H:=by kernel_rfl
theorem bc.cs_ok (F:Nat):∀ p ∈ bc.cs F,∀ args H v H',p.2 args H = some (v,H')→Go.AE.T Try.prog p.1 args H v H':=by
 intro p hp
 exact absurd (show p ∈ [] from hp) List.not_mem_nil
theorem bc.ok:codeOk bc.pn Try.f155.ntmps bc.tb bc.code = true:=by kernel_rfl
theorem bc.T {F:Nat} {aa:Int} {ab:Int} {ai:Int} {ay:Int} {aw:Int} {H:Hp} {v:AV} {H':Hp} (h:bc.tw F aa ab ai ay aw H = some (v,H')):Go.AE.T Try.prog 155 [(.agg [(.int .i64 aa),(.int .i64 ab),(.int .i64 ai),(.int .i64 ay),(.int .i64 aw)])] H v H':=
 Go.AE.T.of (Y:=tabs) (C:=mkOrc (bc.cs F)) (PN:=bc.pn) (LH:=bc.lh F) (F:=F) (TB:=bc.tb) (fn:=Try.f155) (code:=bc.code) mixed tabs_ok (mkOrc_ok (bc.cs_ok F)) Try.func155 (by kernel_rfl) (by kernel_rfl) bc.ok (Nat.le_of_ble_eq_true (by kernel_rfl)) (bc.loops F) (Eq.trans (bc.eqX F aa ab ai ay aw H) h)
theorem bc.mk_T {F:Nat} {args:List AV} {H:Hp} {v:AV} {H':Hp} (h:bc.mk (bc.tw F) args H = some (v,H')):Go.AE.T Try.prog 155 args H v H':=by
 unfold bc.mk at h
 split at h
 ·exact bc.T h
 ·cases h
noncomputable def bd.twX (F:Nat) (aa:Int) (ab:Int) (ai:Int) (ay:Int) (aw:Int) (aJ:Int) (H:Hp):OA:=(Hp.new H [(.int .i64 aa),(.int .i64 ab),(.int .i64 ai),(.int .i64 ay),(.int .i64 aw)]).bind fun H7=>(bif (aJ == 0) then (some ((.bool true),H7)) else ((Hp.ldI H7 .i64 H.length 4).bind fun n8=>some ((.bool (aJ == (IntKind.i64.wrap (2 + n8)))),H7)))
noncomputable def bd.tw (F:Nat) (aa:Int) (ab:Int) (ai:Int) (ay:Int) (aw:Int) (aJ:Int) (H:Hp):OA:=bd.twX F aa ab ai ay aw aJ H
noncomputable def bd.code:Go.Code:=(Try.f156.body).getD .skip
noncomputable def bd.lh (F:Nat) (p:Nat) (ks:List Nat) (n:Nat) (tm:Tm) (H:Hp):OA:=none
def bd.pn:Nat→List Nat:=fun i=>(([]:List (Nat×List Nat)).lookup i).getD []
def bd.tb:Nat→List (List Nat):=fun i=>(([]:List (Nat×List (List Nat))).lookup i).getD []
noncomputable def bd.mk (g:Int→Int→Int→Int→Int→Int→Hp→OA) (args:List AV) (H:Hp):OA:=match args with
 | [(.agg [(.int .i64 aa),(.int .i64 ab),(.int .i64 ai),(.int .i64 ay),(.int .i64 aw)]),(.int .i64 aJ)]=>g aa ab ai ay aw aJ H
 | _=>none
noncomputable def bd.cs (F:Nat):List (FuncId×(List AV→Hp→OA)):=[]
theorem bd.loops (F:Nat):LoopsOk tabs (mkOrc (bd.cs F)) bd.pn (bd.lh F) F [] 1 bd.code (fun tm H=>aresults tabs.ty H tm Try.f156.results.toList fun v=>some (v,H)) (fun _ _ _=>none) (fun tm H=>aresults tabs.ty H tm Try.f156.results.toList fun v=>some (v,H)):=by
 exact loops_none (by kernel_rfl)
theorem bd.eqX (F:Nat) (aa:Int) (ab:Int) (ai:Int) (ay:Int) (aw:Int) (aJ:Int) (H:Hp):aCode tabs (mkOrc (bd.cs F)) bd.pn (bd.lh F) F [] 1 bd.code (argTm [(.agg [(.int .i64 aa),(.int .i64 ab),(.int .i64 ai),(.int .i64 ay),(.int .i64 aw)]),(.int .i64 aJ)]) H (fun tm H=>aresults tabs.ty H tm Try.f156.results.toList fun v=>some (v,H)) (fun _ _ _=>none) (fun tm H=>aresults tabs.ty H tm Try.f156.results.toList fun v=>some (v,H)) = bd.twX F aa ab ai ay aw aJ H:=by kernel_rfl
theorem bd.cs_ok (F:Nat):∀ p ∈ bd.cs F,∀ args H v H',p.2 args H = some (v,H')→Go.AE.T Try.prog p.1 args H v H':=by
 intro p hp
 exact absurd (show p ∈ [] from hp) List.not_mem_nil
theorem bd.ok:codeOk bd.pn Try.f156.ntmps bd.tb bd.code = true:=by kernel_rfl
theorem bd.T {F:Nat} {aa:Int} {ab:Int} {ai:Int} {ay:Int} {aw:Int} {aJ:Int} {H:Hp} {v:AV} {H':Hp} (h:bd.tw F aa ab ai ay aw aJ H = some (v,H')):Go.AE.T Try.prog 156 [(.agg [(.int .i64 aa),(.int .i64 ab),(.int .i64 ai),(.int .i64 ay),(.int .i64 aw)]),(.int .i64 aJ)] H v H':=
 Go.AE.T.of (Y:=tabs) (C:=mkOrc (bd.cs F)) (PN:=bd.pn) (LH:=bd.lh F) (F:=F) (TB:=bd.tb) (fn:=Try.f156) (code:=bd.code) mixed tabs_ok (mkOrc_ok (bd.cs_ok F)) Try.func156 (by kernel_rfl) (by kernel_rfl) bd.ok (Nat.le_of_ble_eq_true (by kernel_rfl)) (bd.loops F) (Eq.trans (bd.eqX F aa ab ai ay aw aJ H) h)
theorem bd.mk_T {F:Nat} {args:List AV} {H:Hp} {v:AV} {H':Hp} (h:bd.mk (bd.tw F) args H = some (v,H')):Go.AE.T Try.prog 156 args H v H':=by
 unfold bd.mk at h
 split at h
 ·exact bd.T h
 ·cases h
noncomputable def bG.twX (F:Nat) (aa:Sl) (H:Hp):OA:=some ((.int .i64 (aa.n:Int)),H)
noncomputable def bG.tw (F:Nat) (aa:Sl) (H:Hp):OA:=bG.twX F aa H
noncomputable def bG.code:Go.Code:=(Try.f170.body).getD .skip
noncomputable def bG.lh (F:Nat) (p:Nat) (ks:List Nat) (n:Nat) (tm:Tm) (H:Hp):OA:=none
def bG.pn:Nat→List Nat:=fun i=>(([]:List (Nat×List Nat)).lookup i).getD []
def bG.tb:Nat→List (List Nat):=fun i=>(([]:List (Nat×List (List Nat))).lookup i).getD []
noncomputable def bG.mk (g:Sl→Hp→OA) (args:List AV) (H:Hp):OA:=match args with
 | [(.sl aa)]=>g aa H
 | _=>none
noncomputable def bG.cs (F:Nat):List (FuncId×(List AV→Hp→OA)):=[]
theorem bG.loops (F:Nat):LoopsOk tabs (mkOrc (bG.cs F)) bG.pn (bG.lh F) F [] 1 bG.code (fun tm H=>aresults tabs.ty H tm Try.f170.results.toList fun v=>some (v,H)) (fun _ _ _=>none) (fun tm H=>aresults tabs.ty H tm Try.f170.results.toList fun v=>some (v,H)):=by
 exact loops_none (by kernel_rfl)
theorem bG.eqX (F:Nat) (aa:Sl) (H:Hp):aCode tabs (mkOrc (bG.cs F)) bG.pn (bG.lh F) F [] 1 bG.code (argTm [(.sl aa)]) H (fun tm H=>aresults tabs.ty H tm Try.f170.results.toList fun v=>some (v,H)) (fun _ _ _=>none) (fun tm H=>aresults tabs.ty H tm Try.f170.results.toList fun v=>some (v,H)) = bG.twX F aa H:=by kernel_rfl
theorem bG.cs_ok (F:Nat):∀ p ∈ bG.cs F,∀ args H v H',p.2 args H = some (v,H')→Go.AE.T Try.prog p.1 args H v H':=by
 intro p hp
 exact absurd (show p ∈ [] from hp) List.not_mem_nil
theorem bG.ok:codeOk bG.pn Try.f170.ntmps bG.tb bG.code = true:=by kernel_rfl
theorem bG.T {F:Nat} {aa:Sl} {H:Hp} {v:AV} {H':Hp} (h:bG.tw F aa H = some (v,H')):Go.AE.T Try.prog 170 [(.sl aa)] H v H':=
 Go.AE.T.of (Y:=tabs) (C:=mkOrc (bG.cs F)) (PN:=bG.pn) (LH:=bG.lh F) (F:=F) (TB:=bG.tb) (fn:=Try.f170) (code:=bG.code) mixed tabs_ok (mkOrc_ok (bG.cs_ok F)) Try.func170 (by kernel_rfl) (by kernel_rfl) bG.ok (Nat.le_of_ble_eq_true (by kernel_rfl)) (bG.loops F) (Eq.trans (bG.eqX F aa H) h)
theorem bG.mk_T {F:Nat} {args:List AV} {H:Hp} {v:AV} {H':Hp} (h:bG.mk (bG.tw F) args H = some (v,H')):Go.AE.T Try.prog 170 args H v H':=by
 unfold bG.mk at h
 split at h
 ·exact bG.T h
 ·cases h
noncomputable def bn.twX (F:Nat) (gF:Sl→Hp→OA) (dp:Int→Int→Int→Hp→OA) (aa:Sl) (ad:Int) (H:Hp):OA:=(gF aa H).bind fun r3=>((r3.1).asI .i64).bind fun n4=>(dp ad 0 (IntKind.i64.wrap (n4 - 1)) r3.2).bind fun r5=>((r5.1).asB).bind fun b6=>some ((.bool b6),r5.2)
noncomputable def bn.tw (F:Nat) (aa:Sl) (ad:Int) (H:Hp):OA:=bn.twX F (bG.tw F) (bf.tw F) aa ad H
noncomputable def bn.code:Go.Code:=(Try.f157.body).getD .skip
noncomputable def bn.lh (F:Nat) (gF:Sl→Hp→OA) (dp:Int→Int→Int→Hp→OA) (p:Nat) (ks:List Nat) (n:Nat) (tm:Tm) (H:Hp):OA:=none
def bn.pn:Nat→List Nat:=fun i=>(([]:List (Nat×List Nat)).lookup i).getD []
def bn.tb:Nat→List (List Nat):=fun i=>(([]:List (Nat×List (List Nat))).lookup i).getD []
noncomputable def bn.mk (g:Sl→Int→Hp→OA) (args:List AV) (H:Hp):OA:=match args with
 | [(.sl aa),(.int .i64 ad)]=>g aa ad H
 | _=>none
noncomputable def bn.cs (F:Nat) (gF:Sl→Hp→OA) (dp:Int→Int→Int→Hp→OA):List (FuncId×(List AV→Hp→OA)):=[(170,bG.mk gF),(81,bf.mk dp)]
theorem bn.loops (F:Nat) (gF:Sl→Hp→OA) (dp:Int→Int→Int→Hp→OA):LoopsOk tabs (mkOrc (bn.cs F gF dp)) bn.pn (bn.lh F gF dp) F [] 1 bn.code (fun tm H=>aresults tabs.ty H tm Try.f157.results.toList fun v=>some (v,H)) (fun _ _ _=>none) (fun tm H=>aresults tabs.ty H tm Try.f157.results.toList fun v=>some (v,H)):=by
 exact loops_none (by kernel_rfl)
theorem bn.eqX (F:Nat) (gF:Sl→Hp→OA) (dp:Int→Int→Int→Hp→OA) (aa:Sl) (ad:Int) (H:Hp):aCode tabs (mkOrc (bn.cs F gF dp)) bn.pn (bn.lh F gF dp) F [] 1 bn.code (argTm [(.sl aa),(.int .i64 ad)]) H (fun tm H=>aresults tabs.ty H tm Try.f157.results.toList fun v=>some (v,H)) (fun _ _ _=>none) (fun tm H=>aresults tabs.ty H tm Try.f157.results.toList fun v=>some (v,H)) = bn.twX F gF dp aa ad H:=by kernel_rfl
theorem bn.cs_ok (F:Nat):∀ p ∈ bn.cs F (bG.tw F) (bf.tw F),∀ args H v H',p.2 args H = some (v,H')→Go.AE.T Try.prog p.1 args H v H':=by
 intro p hp
 simp only [bn.cs,List.mem_cons,List.not_mem_nil,or_false] at hp
 rcases hp with rfl | rfl
 ·exact fun args H v H' h=>bG.mk_T h
 ·exact fun args H v H' h=>bf.mk_T h
theorem bn.ok:codeOk bn.pn Try.f157.ntmps bn.tb bn.code = true:=by kernel_rfl
theorem bn.T {F:Nat} {aa:Sl} {ad:Int} {H:Hp} {v:AV} {H':Hp} (h:bn.tw F aa ad H = some (v,H')):Go.AE.T Try.prog 157 [(.sl aa),(.int .i64 ad)] H v H':=
 Go.AE.T.of (Y:=tabs) (C:=mkOrc (bn.cs F (bG.tw F) (bf.tw F))) (PN:=bn.pn) (LH:=bn.lh F (bG.tw F) (bf.tw F)) (F:=F) (TB:=bn.tb) (fn:=Try.f157) (code:=bn.code) mixed tabs_ok (mkOrc_ok (bn.cs_ok F)) Try.func157 (by kernel_rfl) (by kernel_rfl) bn.ok (Nat.le_of_ble_eq_true (by kernel_rfl)) (bn.loops F (bG.tw F) (bf.tw F)) (Eq.trans (bn.eqX F (bG.tw F) (bf.tw F) aa ad H) h)
theorem bn.mk_T {F:Nat} {args:List AV} {H:Hp} {v:AV} {H':Hp} (h:bn.mk (bn.tw F) args H = some (v,H')):Go.AE.T Try.prog 157 args H v H':=by
 unfold bn.mk at h
 split at h
 ·exact bn.T h
 ·cases h
noncomputable def ar.l3931 (F:Nat) (cb:Sl→Int→Hp→OA) (bN:Int→Int→Int→Int→Int→Hp→OA) (bO:Int→Int→Int→Int→Int→Int→Hp→OA) (cc:Sl→Int→Hp→OA) (C61_:Nat→Nat→Nat→Nat→Sl→Int→Int→Hp→OA):Nat→Nat→Nat→Nat→Nat→Sl→Int→Int→Nat→Nat→Int→Int→Int→Int→Int→Int→Hp→OA
 | 0,_,_,_,_,_,_,_,_,_,_,_,_,_,_,_,_=>none
 | tG + 1,bZ,ch,cl,cA,fA,dq,dM,cW,ef,cB,cC,cD,cE,cF,b_,H233=>(bif (decide (b_ < 4)) then ((if 0 ≤ b_∧b_ < (4:Int) then (([(.int .i64 cC),(.int .i64 cD),(.int .i64 cE),(.int .i64 cF)]:List AV)[(b_:Int).toNat * 1]?).bind fun v283=>((v283).asI .i64).bind fun n284=>(Hp.ldSl H233 cl cA).bind fun s285=>(Hp.ldI H233 .i64 cW ef).bind fun n286=>(Hp.ldI H233 .i64 cW (ef + 1)).bind fun n287=>(Hp.ldI H233 .i64 cW (ef + 2)).bind fun n288=>(Hp.ldI H233 .i64 cW (ef + 3)).bind fun n289=>(Hp.ldI H233 .i64 cW (ef + 4)).bind fun n290=>(bO n286 n287 n288 n289 n290 b_ H233).bind fun r291=>((r291.1).asB).bind fun b292=>(bif b292 then ((Hp.ldSl r291.2 cl (cA + 1)).bind fun s293=>(cc s293 n284 r291.2).bind fun r294=>((r294.1).asB).bind fun b295=>(bif (!b295) then ((Hp.ldSl r294.2 cl cA).bind fun s296=>(Hp.ldSl r294.2 cl (cA + 1)).bind fun s297=>(Hp.st r294.2 bZ ch (.sl s296)).bind fun H298=>(Hp.st H298 bZ (ch + 1) (.sl s297)).bind fun H299=>(Hp.ldSl H299 bZ ch).bind fun s300=>(Hp.ldSl H299 bZ (ch + 1)).bind fun s301=>some ((.tup [(.agg [(.sl s300),(.sl s301)]),(.bool false)]),H299)) else ((Sl.idx s293 n284 2).bind fun p302=>(Hp.ldI r294.2 .i64 p302.1 p302.2).bind fun n303=>(bif (decide (n303 ≥ 0)) then ((Hp.ldSl r294.2 cl cA).bind fun s304=>(Hp.ldSl r294.2 cl (cA + 1)).bind fun s305=>(Hp.st r294.2 bZ ch (.sl s304)).bind fun H306=>(Hp.st H306 bZ (ch + 1) (.sl s305)).bind fun H307=>(Hp.ldSl H307 bZ ch).bind fun s308=>(Hp.ldSl H307 bZ (ch + 1)).bind fun s309=>some ((.tup [(.agg [(.sl s308),(.sl s309)]),(.bool false)]),H307)) else ((Sl.idx s293 n284 2).bind fun p310=>(Hp.st r294.2 p310.1 p310.2 (.int .i64 cB)).bind fun H311=>(Hp.st H311 p310.1 (p310.2 + 1) (.int .i64 b_)).bind fun H312=>ar.l3931 F cb bN bO cc C61_ tG bZ ch cl cA fA dq dM cW ef cB cC cD cE cF (IntKind.i64.wrap (b_ + 1)) H312))))) else ((cc s285 n284 r291.2).bind fun r313=>((r313.1).asB).bind fun b314=>(bif (!b314) then ((Hp.ldSl r313.2 cl cA).bind fun s315=>(Hp.ldSl r313.2 cl (cA + 1)).bind fun s316=>(Hp.st r313.2 bZ ch (.sl s315)).bind fun H317=>(Hp.st H317 bZ (ch + 1) (.sl s316)).bind fun H318=>(Hp.ldSl H318 bZ ch).bind fun s319=>(Hp.ldSl H318 bZ (ch + 1)).bind fun s320=>some ((.tup [(.agg [(.sl s319),(.sl s320)]),(.bool false)]),H318)) else ((Sl.idx s285 n284 2).bind fun p321=>(Hp.ldI r313.2 .i64 p321.1 p321.2).bind fun n322=>(bif (decide (n322 ≥ 0)) then ((Hp.ldSl r313.2 cl cA).bind fun s323=>(Hp.ldSl r313.2 cl (cA + 1)).bind fun s324=>(Hp.st r313.2 bZ ch (.sl s323)).bind fun H325=>(Hp.st H325 bZ (ch + 1) (.sl s324)).bind fun H326=>(Hp.ldSl H326 bZ ch).bind fun s327=>(Hp.ldSl H326 bZ (ch + 1)).bind fun s328=>some ((.tup [(.agg [(.sl s327),(.sl s328)]),(.bool false)]),H326)) else ((Sl.idx s285 n284 2).bind fun p329=>(Hp.st r313.2 p329.1 p329.2 (.int .i64 cB)).bind fun H330=>(Hp.st H330 p329.1 (p329.2 + 1) (.int .i64 b_)).bind fun H331=>ar.l3931 F cb bN bO cc C61_ tG bZ ch cl cA fA dq dM cW ef cB cC cD cE cF (IntKind.i64.wrap (b_ + 1)) H331)))))) else none)) else (C61_ bZ ch cl cA fA dq (IntKind.i64.wrap (dM + 1)) H233))
termination_by structural n=>n
noncomputable def ar.l61 (F:Nat) (cb:Sl→Int→Hp→OA) (bN:Int→Int→Int→Int→Int→Hp→OA) (bO:Int→Int→Int→Int→Int→Int→Hp→OA) (cc:Sl→Int→Hp→OA) :Nat→Nat→Nat→Nat→Nat→Sl→Int→Int→Hp→OA
 | 0,_,_,_,_,_,_,_,_=>none
 | bg + 1,dN,eZ,ep,fG,gg,er,dO,H29=>(bif (decide (dO < er)) then ((Sl.idx gg dO 5).bind fun p184=>(Hp.ldI H29 .i64 p184.1 p184.2).bind fun n185=>(Hp.ldI H29 .i64 p184.1 (p184.2 + 1)).bind fun n186=>(Hp.ldI H29 .i64 p184.1 (p184.2 + 2)).bind fun n187=>(Hp.ldI H29 .i64 p184.1 (p184.2 + 3)).bind fun n188=>(Hp.ldI H29 .i64 p184.1 (p184.2 + 4)).bind fun n189=>(Hp.new H29 [.int .i64 0,.int .i64 0,.int .i64 0,.int .i64 0,.int .i64 0]).bind fun H190=>(Hp.st H190 H29.length 0 (.int .i64 n185)).bind fun H191=>(Hp.st H191 H29.length (0 + 1) (.int .i64 n186)).bind fun H192=>(Hp.st H192 H29.length (0 + 1 + 1) (.int .i64 n187)).bind fun H193=>(Hp.st H193 H29.length (0 + 1 + 1 + 1) (.int .i64 n188)).bind fun H194=>(Hp.st H194 H29.length (0 + 1 + 1 + 1 + 1) (.int .i64 n189)).bind fun H195=>(Hp.ldI H195 .i64 H29.length 0).bind fun n196=>(Hp.ldI H195 .i64 H29.length (0 + 1)).bind fun n197=>(Hp.ldI H195 .i64 H29.length (0 + 2)).bind fun n198=>(Hp.ldI H195 .i64 H29.length (0 + 3)).bind fun n199=>(Hp.ldI H195 .i64 H29.length (0 + 4)).bind fun n200=>(bN n196 n197 n198 n199 n200 H195).bind fun r201=>((r201.1).asAgg 4).bind fun l202=>(l202[0]?).bind fun v203=>((v203).asI .i64).bind fun n204=>(l202[1]?).bind fun v205=>((v205).asI .i64).bind fun n206=>(l202[2]?).bind fun v207=>((v207).asI .i64).bind fun n208=>(l202[3]?).bind fun v209=>((v209).asI .i64).bind fun n210=>ar.l3931 F cb bN bO cc (ar.l61 F cb bN bO cc bg) F dN eZ ep fG gg er dO H29.length 0 dO n204 n206 n208 n210 0 r201.2) else ((Hp.ldSl H29 ep fG).bind fun s332=>(Hp.ldSl H29 ep (fG + 1)).bind fun s333=>(Hp.st H29 dN eZ (.sl s332)).bind fun H334=>(Hp.st H334 dN (eZ + 1) (.sl s333)).bind fun H335=>(Hp.ldSl H335 dN eZ).bind fun s336=>(Hp.ldSl H335 dN (eZ + 1)).bind fun s337=>some ((.tup [(.agg [(.sl s336),(.sl s337)]),(.bool true)]),H335)))
termination_by structural n=>n
noncomputable def ar.twX (F:Nat) (cb:Sl→Int→Hp→OA) (bN:Int→Int→Int→Int→Int→Hp→OA) (bO:Int→Int→Int→Int→Int→Int→Hp→OA) (cc:Sl→Int→Hp→OA) (aa:Sl) (ab:Int) (H:Hp):OA:=(Hp.new H [(.sl aa),(.int .i64 ab)]).bind fun H3=>(Hp.new H3 [.sl ⟨none,0,.ex 0⟩,.sl ⟨none,0,.ex 0⟩]).bind fun H4=>(Hp.ldSl H4 H.length 0).bind fun s5=>(Hp.new H4 [(.int .i64 (-1)),(.int .i64 0)]).bind fun H6=>(cb (⟨some (H4.length,0),1,.ex 1⟩:Sl) (IntKind.i64.wrap (2 * (s5.n:Int))) H6).bind fun r7=>((r7.1).asSl).bind fun s8=>(Hp.new r7.2 [(.int .i64 (-1)),(.int .i64 0)]).bind fun H9=>(cb (⟨some (r7.2.length,0),1,.ex 1⟩:Sl) (IntKind.i64.wrap (2 * (s5.n:Int))) H9).bind fun r10=>((r10.1).asSl).bind fun s11=>(Hp.new r10.2 [.sl ⟨none,0,.ex 0⟩,.sl ⟨none,0,.ex 0⟩]).bind fun H12=>(Hp.st H12 r10.2.length 0 (.sl s8)).bind fun H13=>(Hp.st H13 r10.2.length (0 + 1) (.sl s11)).bind fun H14=>(Hp.ldSl H14 H.length 0).bind fun s15=>ar.l61 F cb bN bO cc F H3.length 0 r10.2.length 0 s15 (s15.n:Int) 0 H14
noncomputable def ar.tw (F:Nat) (aa:Sl) (ab:Int) (H:Hp):OA:=ar.twX F (aA.tw F) (bc.tw F) (bd.tw F) (bn.tw F) aa ab H
noncomputable def ar.code:Go.Code:=(Try.f125.body).getD .skip
noncomputable def ar.lh61 (F:Nat) (cb:Sl→Int→Hp→OA) (bN:Int→Int→Int→Int→Int→Hp→OA) (bO:Int→Int→Int→Int→Int→Int→Hp→OA) (cc:Sl→Int→Hp→OA) (ks:List Nat) (n:Nat) (tm:Tm) (H:Hp):OA:=match ks,tm 2,tm 5,tm 25,tm 26,tm 27 with
 | [],(.ptr dN eZ),(.ptr ep fG),(.sl gg),(.int .i64 er),(.int .i64 dO)=>ar.l61 F cb bN bO cc n dN eZ ep fG gg er dO H
 | _,_,_,_,_,_=>none
theorem ar.lh61_inv {F:Nat} {cb:Sl→Int→Hp→OA} {bN:Int→Int→Int→Int→Int→Hp→OA} {bO:Int→Int→Int→Int→Int→Int→Hp→OA} {cc:Sl→Int→Hp→OA} {ks:List Nat} {n:Nat} {tm:Tm} {H:Hp} {r:AV×Hp} (h:ar.lh61 F cb bN bO cc ks n tm H = some r):∃ dN:Nat,∃ eZ:Nat,∃ ep:Nat,∃ fG:Nat,∃ gg:Sl,∃ er:Int,∃ dO:Int,ks = []∧tm 2 = (.ptr dN eZ)∧tm 5 = (.ptr ep fG)∧tm 25 = (.sl gg)∧tm 26 = (.int .i64 er)∧tm 27 = (.int .i64 dO)∧ar.l61 F cb bN bO cc n dN eZ ep fG gg er dO H = some r:=by
 unfold ar.lh61 at h
 split at h
 ·exact ⟨_,_,_,_,_,_,_,rfl,by assumption,by assumption,by assumption,by assumption,by assumption,h⟩
 ·cases h
noncomputable def ar.lh3931 (F:Nat) (cb:Sl→Int→Hp→OA) (bN:Int→Int→Int→Int→Int→Hp→OA) (bO:Int→Int→Int→Int→Int→Int→Hp→OA) (cc:Sl→Int→Hp→OA) (ks:List Nat) (n:Nat) (tm:Tm) (H:Hp):OA:=match ks,tm 2,tm 5,tm 6,tm 7,tm 25,tm 26,tm 27,tm 33,tm 34 with
 | [bg],(.ptr bZ ch),(.ptr cl cA),(.int .i64 cB),(.ptr cW ef),(.sl fA),(.int .i64 dq),(.int .i64 dM),(.agg [(.int .i64 cC),(.int .i64 cD),(.int .i64 cE),(.int .i64 cF)]),(.int .i64 b_)=>ar.l3931 F cb bN bO cc (ar.l61 F cb bN bO cc bg) n bZ ch cl cA fA dq dM cW ef cB cC cD cE cF b_ H
 | _,_,_,_,_,_,_,_,_,_=>none
theorem ar.lh3931_inv {F:Nat} {cb:Sl→Int→Hp→OA} {bN:Int→Int→Int→Int→Int→Hp→OA} {bO:Int→Int→Int→Int→Int→Int→Hp→OA} {cc:Sl→Int→Hp→OA} {ks:List Nat} {n:Nat} {tm:Tm} {H:Hp} {r:AV×Hp} (h:ar.lh3931 F cb bN bO cc ks n tm H = some r):∃ bg:Nat,∃ bZ:Nat,∃ ch:Nat,∃ cl:Nat,∃ cA:Nat,∃ cB:Int,∃ cW:Nat,∃ ef:Nat,∃ fA:Sl,∃ dq:Int,∃ dM:Int,∃ cC:Int,∃ cD:Int,∃ cE:Int,∃ cF:Int,∃ b_:Int,ks = [bg]∧tm 2 = (.ptr bZ ch)∧tm 5 = (.ptr cl cA)∧tm 6 = (.int .i64 cB)∧tm 7 = (.ptr cW ef)∧tm 25 = (.sl fA)∧tm 26 = (.int .i64 dq)∧tm 27 = (.int .i64 dM)∧tm 33 = (.agg [(.int .i64 cC),(.int .i64 cD),(.int .i64 cE),(.int .i64 cF)])∧tm 34 = (.int .i64 b_)∧ar.l3931 F cb bN bO cc (ar.l61 F cb bN bO cc bg) n bZ ch cl cA fA dq dM cW ef cB cC cD cE cF b_ H = some r:=by
 unfold ar.lh3931 at h
 split at h
 ·exact ⟨_,_,_,_,_,_,_,_,_,_,_,_,_,_,_,_,rfl,by assumption,by assumption,by assumption,by assumption,by assumption,by assumption,by assumption,by assumption,by assumption,h⟩
 ·cases h
noncomputable def ar.lh (F:Nat) (cb:Sl→Int→Hp→OA) (bN:Int→Int→Int→Int→Int→Hp→OA) (bO:Int→Int→Int→Int→Int→Int→Hp→OA) (cc:Sl→Int→Hp→OA) (p:Nat) (ks:List Nat) (n:Nat) (tm:Tm) (H:Hp):OA:=bif p.beq 3931 then ar.lh3931 F cb bN bO cc ks n tm H else (bif p.beq 61 then ar.lh61 F cb bN bO cc ks n tm H else (none))
def ar.pn:Nat→List Nat:=fun i=>(([]:List (Nat×List Nat)).lookup i).getD []
def ar.tb:Nat→List (List Nat):=fun i=>(([]:List (Nat×List (List Nat))).lookup i).getD []
noncomputable def ar.mk (g:Sl→Int→Hp→OA) (args:List AV) (H:Hp):OA:=match args with
 | [(.agg [(.sl aa),(.int .i64 ab)])]=>g aa ab H
 | _=>none
noncomputable def ar.cs (F:Nat) (cb:Sl→Int→Hp→OA) (bN:Int→Int→Int→Int→Int→Hp→OA) (bO:Int→Int→Int→Int→Int→Int→Hp→OA) (cc:Sl→Int→Hp→OA):List (FuncId×(List AV→Hp→OA)):=[(154,aA.mk cb),(155,bc.mk bN),(156,bd.mk bO),(157,bn.mk cc)]
theorem ar.loops (F:Nat) (cb:Sl→Int→Hp→OA) (bN:Int→Int→Int→Int→Int→Hp→OA) (bO:Int→Int→Int→Int→Int→Int→Hp→OA) (cc:Sl→Int→Hp→OA):LoopsOk tabs (mkOrc (ar.cs F cb bN bO cc)) ar.pn (ar.lh F cb bN bO cc) F [] 1 ar.code (fun tm H=>aresults tabs.ty H tm Try.f125.results.toList fun v=>some (v,H)) (fun _ _ _=>none) (fun tm H=>aresults tabs.ty H tm Try.f125.results.toList fun v=>some (v,H)):=by
 refine LoopsOk.seq ?_ ?_
 ·exact loops_none (by kernel_rfl)
 ·refine LoopsOk.seq ?_ ?_
  ·exact loops_none (by kernel_rfl)
  ·refine LoopsOk.seq ?_ ?_
   ·exact loops_none (by kernel_rfl)
   ·refine LoopsOk.seq ?_ ?_
    ·refine LoopsOk.seq ?_ ?_
     ·exact loops_none (by kernel_rfl)
     ·refine LoopsOk.block ?_
      refine LoopsOk.loop (fun tm H=>?_) (fun k61 tm H r h0=>?_) (fun k61=>?_)
      ·refine none_of fun r h0=>?_
       obtain ⟨dN,eZ,ep,fG,gg,er,dO,hks,e2,e5,e25,e26,e27,h⟩:=ar.lh61_inv (show ar.lh61 F cb bN bO cc [] 0 tm H = some r from h0)
       cases h
      ·obtain ⟨dN,eZ,ep,fG,gg,er,dO,hks,e2,e5,e25,e26,e27,h⟩:=ar.lh61_inv (show ar.lh61 F cb bN bO cc [] (k61 + 1) tm H = some r from h0)
       have q0:(Tm.put tm 2 (.ptr dN eZ)) = tm:=by exact Tm.put_same e2
       have q1:(Tm.put (Tm.put tm 2 (.ptr dN eZ)) 5 (.ptr ep fG)) = tm:=by rw [q0]; exact Tm.put_same e5
       have q2:(Tm.put (Tm.put (Tm.put tm 2 (.ptr dN eZ)) 5 (.ptr ep fG)) 25 (.sl gg)) = tm:=by rw [q1]; exact Tm.put_same e25
       have q3:(Tm.put (Tm.put (Tm.put (Tm.put tm 2 (.ptr dN eZ)) 5 (.ptr ep fG)) 25 (.sl gg)) 26 (.int .i64 er)) = tm:=by rw [q2]; exact Tm.put_same e26
       have q4:(Tm.put (Tm.put (Tm.put (Tm.put (Tm.put tm 2 (.ptr dN eZ)) 5 (.ptr ep fG)) 25 (.sl gg)) 26 (.int .i64 er)) 27 (.int .i64 dO)) = tm:=by rw [q3]; exact Tm.put_same e27
       rw [← q4]
       exact Eq.trans (by kernel_rfl) h
      ·refine LoopsOk.seq ?_ ?_
       ·exact loops_none (by kernel_rfl)
       ·refine LoopsOk.seq ?_ ?_
        ·exact loops_none (by kernel_rfl)
        ·refine LoopsOk.seq ?_ ?_
         ·refine LoopsOk.block ?_
          refine LoopsOk.seq ?_ ?_
          ·exact loops_none (by kernel_rfl)
          ·refine LoopsOk.seq ?_ ?_
           ·exact loops_none (by kernel_rfl)
           ·refine LoopsOk.block ?_
            refine LoopsOk.loop (fun tm H=>?_) (fun k3931 tm H r h0=>?_) (fun k3931=>?_)
            ·refine none_of fun r h0=>?_
             obtain ⟨bg,bZ,ch,cl,cA,cB,cW,ef,fA,dq,dM,cC,cD,cE,cF,b_,hks,e2,e5,e6,e7,e25,e26,e27,e33,e34,h⟩:=ar.lh3931_inv (show ar.lh3931 F cb bN bO cc [k61] 0 tm H = some r from h0)
             cases h
            ·obtain ⟨bg,bZ,ch,cl,cA,cB,cW,ef,fA,dq,dM,cC,cD,cE,cF,b_,hks,e2,e5,e6,e7,e25,e26,e27,e33,e34,h⟩:=ar.lh3931_inv (show ar.lh3931 F cb bN bO cc [k61] (k3931 + 1) tm H = some r from h0)
             obtain rfl:bg = k61:=by simpa [eq_comm] using hks
             have q0:(Tm.put tm 2 (.ptr bZ ch)) = tm:=by exact Tm.put_same e2
             have q1:(Tm.put (Tm.put tm 2 (.ptr bZ ch)) 5 (.ptr cl cA)) = tm:=by rw [q0]; exact Tm.put_same e5
             have q2:(Tm.put (Tm.put (Tm.put tm 2 (.ptr bZ ch)) 5 (.ptr cl cA)) 6 (.int .i64 cB)) = tm:=by rw [q1]; exact Tm.put_same e6
             have q3:(Tm.put (Tm.put (Tm.put (Tm.put tm 2 (.ptr bZ ch)) 5 (.ptr cl cA)) 6 (.int .i64 cB)) 7 (.ptr cW ef)) = tm:=by rw [q2]; exact Tm.put_same e7
             have q4:(Tm.put (Tm.put (Tm.put (Tm.put (Tm.put tm 2 (.ptr bZ ch)) 5 (.ptr cl cA)) 6 (.int .i64 cB)) 7 (.ptr cW ef)) 25 (.sl fA)) = tm:=by rw [q3]; exact Tm.put_same e25
             have q5:(Tm.put (Tm.put (Tm.put (Tm.put (Tm.put (Tm.put tm 2 (.ptr bZ ch)) 5 (.ptr cl cA)) 6 (.int .i64 cB)) 7 (.ptr cW ef)) 25 (.sl fA)) 26 (.int .i64 dq)) = tm:=by rw [q4]; exact Tm.put_same e26
             have q6:(Tm.put (Tm.put (Tm.put (Tm.put (Tm.put (Tm.put (Tm.put tm 2 (.ptr bZ ch)) 5 (.ptr cl cA)) 6 (.int .i64 cB)) 7 (.ptr cW ef)) 25 (.sl fA)) 26 (.int .i64 dq)) 27 (.int .i64 dM)) = tm:=by rw [q5]; exact Tm.put_same e27
             have q7:(Tm.put (Tm.put (Tm.put (Tm.put (Tm.put (Tm.put (Tm.put (Tm.put tm 2 (.ptr bZ ch)) 5 (.ptr cl cA)) 6 (.int .i64 cB)) 7 (.ptr cW ef)) 25 (.sl fA)) 26 (.int .i64 dq)) 27 (.int .i64 dM)) 33 (.agg [(.int .i64 cC),(.int .i64 cD),(.int .i64 cE),(.int .i64 cF)])) = tm:=by rw [q6]; exact Tm.put_same e33
             have q8:(Tm.put (Tm.put (Tm.put (Tm.put (Tm.put (Tm.put (Tm.put (Tm.put (Tm.put tm 2 (.ptr bZ ch)) 5 (.ptr cl cA)) 6 (.int .i64 cB)) 7 (.ptr cW ef)) 25 (.sl fA)) 26 (.int .i64 dq)) 27 (.int .i64 dM)) 33 (.agg [(.int .i64 cC),(.int .i64 cD),(.int .i64 cE),(.int .i64 cF)])) 34 (.int .i64 b_)) = tm:=by rw [q7]; exact Tm.put_same e34
             rw [← q8]
             exact Eq.trans (by kernel_rfl) h
            ·exact loops_none (by kernel_rfl)
         ·exact loops_none (by kernel_rfl)
    ·exact loops_none (by kernel_rfl)
theorem ar.eqX (F:Nat) (cb:Sl→Int→Hp→OA) (bN:Int→Int→Int→Int→Int→Hp→OA) (bO:Int→Int→Int→Int→Int→Int→Hp→OA) (cc:Sl→Int→Hp→OA) (aa:Sl) (ab:Int) (H:Hp):aCode tabs (mkOrc (ar.cs F cb bN bO cc)) ar.pn (ar.lh F cb bN bO cc) F [] 1 ar.code (argTm [(.agg [(.sl aa),(.int .i64 ab)])]) H (fun tm H=>aresults tabs.ty H tm Try.f125.results.toList fun v=>some (v,H)) (fun _ _ _=>none) (fun tm H=>aresults tabs.ty H tm Try.f125.results.toList fun v=>some (v,H)) = ar.twX F cb bN bO cc aa ab H:=by kernel_rfl
theorem ar.cs_ok (F:Nat):∀ p ∈ ar.cs F (aA.tw F) (bc.tw F) (bd.tw F) (bn.tw F),∀ args H v H',p.2 args H = some (v,H')→Go.AE.T Try.prog p.1 args H v H':=by
 intro p hp
 simp only [ar.cs,List.mem_cons,List.not_mem_nil,or_false] at hp
 rcases hp with rfl | rfl | rfl | rfl
 ·exact fun args H v H' h=>aA.mk_T h
 ·exact fun args H v H' h=>bc.mk_T h
 ·exact fun args H v H' h=>bd.mk_T h
 ·exact fun args H v H' h=>bn.mk_T h
theorem ar.ok:codeOk ar.pn Try.f125.ntmps ar.tb ar.code = true:=by kernel_rfl
theorem ar.T {F:Nat} {aa:Sl} {ab:Int} {H:Hp} {v:AV} {H':Hp} (h:ar.tw F aa ab H = some (v,H')):Go.AE.T Try.prog 125 [(.agg [(.sl aa),(.int .i64 ab)])] H v H':=
 Go.AE.T.of (Y:=tabs) (C:=mkOrc (ar.cs F (aA.tw F) (bc.tw F) (bd.tw F) (bn.tw F))) (PN:=ar.pn) (LH:=ar.lh F (aA.tw F) (bc.tw F) (bd.tw F) (bn.tw F)) (F:=F) (TB:=ar.tb) (fn:=Try.f125) (code:=ar.code) mixed tabs_ok (mkOrc_ok (ar.cs_ok F)) Try.func125 (by kernel_rfl) (by kernel_rfl) ar.ok (Nat.le_of_ble_eq_true (by kernel_rfl)) (ar.loops F (aA.tw F) (bc.tw F) (bd.tw F) (bn.tw F)) (Eq.trans (ar.eqX F (aA.tw F) (bc.tw F) (bd.tw F) (bn.tw F) aa ab H) h)
theorem ar.mk_T {F:Nat} {args:List AV} {H:Hp} {v:AV} {H':Hp} (h:ar.mk (ar.tw F) args H = some (v,H')):Go.AE.T Try.prog 125 args H v H':=by
 unfold ar.mk at h
 split at h
 ·exact ar.T h
 ·cases h
noncomputable def bl.twX (F:Nat) (bN:Int→Int→Int→Int→Int→Hp→OA) (bO:Int→Int→Int→Int→Int→Int→Hp→OA) (aa:Sl) (ab:Int) (au:Sl) (av:Sl) (cm:Int) (dP:Int) (H:Hp):OA:=(Hp.new H [(.sl aa),(.int .i64 ab)]).bind fun H7=>(Hp.new H7 [(.sl au),(.sl av)]).bind fun H8=>(Hp.new H8 [(.int .i64 cm),(.int .i64 dP)]).bind fun H9=>(Hp.new H9 [.int .i64 0,.int .i64 0]).bind fun H10=>(Hp.ldSl H10 H.length 0).bind fun s11=>(Hp.ldI H10 .i64 H8.length 0).bind fun n12=>(Sl.idx s11 n12 5).bind fun p13=>(Hp.ldI H10 .i64 p13.1 p13.2).bind fun n14=>(Hp.ldI H10 .i64 p13.1 (p13.2 + 1)).bind fun n15=>(Hp.ldI H10 .i64 p13.1 (p13.2 + 2)).bind fun n16=>(Hp.ldI H10 .i64 p13.1 (p13.2 + 3)).bind fun n17=>(Hp.ldI H10 .i64 p13.1 (p13.2 + 4)).bind fun n18=>(Hp.new H10 [.int .i64 0,.int .i64 0,.int .i64 0,.int .i64 0,.int .i64 0]).bind fun H19=>(Hp.st H19 H10.length 0 (.int .i64 n14)).bind fun H20=>(Hp.st H20 H10.length (0 + 1) (.int .i64 n15)).bind fun H21=>(Hp.st H21 H10.length (0 + 1 + 1) (.int .i64 n16)).bind fun H22=>(Hp.st H22 H10.length (0 + 1 + 1 + 1) (.int .i64 n17)).bind fun H23=>(Hp.st H23 H10.length (0 + 1 + 1 + 1 + 1) (.int .i64 n18)).bind fun H24=>(Hp.ldI H24 .i64 H10.length 0).bind fun n25=>(Hp.ldI H24 .i64 H10.length (0 + 1)).bind fun n26=>(Hp.ldI H24 .i64 H10.length (0 + 2)).bind fun n27=>(Hp.ldI H24 .i64 H10.length (0 + 3)).bind fun n28=>(Hp.ldI H24 .i64 H10.length (0 + 4)).bind fun n29=>(bN n25 n26 n27 n28 n29 H24).bind fun r30=>((r30.1).asAgg 4).bind fun l31=>(l31[0]?).bind fun v32=>((v32).asI .i64).bind fun n33=>(l31[1]?).bind fun v34=>((v34).asI .i64).bind fun n35=>(l31[2]?).bind fun v36=>((v36).asI .i64).bind fun n37=>(l31[3]?).bind fun v38=>((v38).asI .i64).bind fun n39=>(if Cons H24 r30.2 then ((Hp.ldI r30.2 .i64 H8.length 1).bind fun n40=>(if 0 ≤ n40∧n40 < (4:Int) then (([(.int .i64 n33),(.int .i64 n35),(.int .i64 n37),(.int .i64 n39)]:List AV)[(n40:Int).toNat * 1]?).bind fun v41=>((v41).asI .i64).bind fun n42=>(Hp.ldI r30.2 .i64 H10.length 0).bind fun n43=>(Hp.ldI r30.2 .i64 H10.length (0 + 1)).bind fun n44=>(Hp.ldI r30.2 .i64 H10.length (0 + 2)).bind fun n45=>(Hp.ldI r30.2 .i64 H10.length (0 + 3)).bind fun n46=>(Hp.ldI r30.2 .i64 H10.length (0 + 4)).bind fun n47=>(Hp.ldI r30.2 .i64 H8.length 1).bind fun n48=>(bO n43 n44 n45 n46 n47 n48 r30.2).bind fun r49=>((r49.1).asB).bind fun b50=>(bif b50 then ((Hp.ldSl r49.2 H7.length 0).bind fun s51=>(Sl.idx s51 n42 2).bind fun p52=>(Hp.ldI r49.2 .i64 p52.1 p52.2).bind fun n53=>(Hp.ldI r49.2 .i64 p52.1 (p52.2 + 1)).bind fun n54=>(Hp.st r49.2 H9.length 0 (.int .i64 n53)).bind fun H55=>(Hp.st H55 H9.length (0 + 1) (.int .i64 n54)).bind fun H56=>(Hp.ldI H56 .i64 H9.length 0).bind fun n57=>(Hp.ldI H56 .i64 H9.length (0 + 1)).bind fun n58=>some ((.agg [(.int .i64 n57),(.int .i64 n58)]),H56)) else ((Hp.ldSl r49.2 H7.length 1).bind fun s59=>(Sl.idx s59 n42 2).bind fun p60=>(Hp.ldI r49.2 .i64 p60.1 p60.2).bind fun n61=>(Hp.ldI r49.2 .i64 p60.1 (p60.2 + 1)).bind fun n62=>(Hp.st r49.2 H9.length 0 (.int .i64 n61)).bind fun H63=>(Hp.st H63 H9.length (0 + 1) (.int .i64 n62)).bind fun H64=>(Hp.ldI H64 .i64 H9.length 0).bind fun n65=>(Hp.ldI H64 .i64 H9.length (0 + 1)).bind fun n66=>some ((.agg [(.int .i64 n65),(.int .i64 n66)]),H64))) else none)) else none)
noncomputable def bl.tw (F:Nat) (aa:Sl) (ab:Int) (au:Sl) (av:Sl) (cm:Int) (dP:Int) (H:Hp):OA:=bl.twX F (bc.tw F) (bd.tw F) aa ab au av cm dP H
noncomputable def bl.code:Go.Code:=(Try.f139.body).getD .skip
noncomputable def bl.lh (F:Nat) (bN:Int→Int→Int→Int→Int→Hp→OA) (bO:Int→Int→Int→Int→Int→Int→Hp→OA) (p:Nat) (ks:List Nat) (n:Nat) (tm:Tm) (H:Hp):OA:=none
def bl.pn:Nat→List Nat:=fun i=>(([(2,[])]:List (Nat×List Nat)).lookup i).getD []
def bl.tb:Nat→List (List Nat):=fun i=>(([(2,[[],[0],[],[2],[0,1,2,3],[0,1,2,3,4]])]:List (Nat×List (List Nat))).lookup i).getD []
noncomputable def bl.mk (g:Sl→Int→Sl→Sl→Int→Int→Hp→OA) (args:List AV) (H:Hp):OA:=match args with
 | [(.agg [(.sl aa),(.int .i64 ab)]),(.agg [(.sl au),(.sl av)]),(.agg [(.int .i64 cm),(.int .i64 dP)])]=>g aa ab au av cm dP H
 | _=>none
noncomputable def bl.cs (F:Nat) (bN:Int→Int→Int→Int→Int→Hp→OA) (bO:Int→Int→Int→Int→Int→Int→Hp→OA):List (FuncId×(List AV→Hp→OA)):=[(155,bc.mk bN),(156,bd.mk bO)]
theorem bl.loops (F:Nat) (bN:Int→Int→Int→Int→Int→Hp→OA) (bO:Int→Int→Int→Int→Int→Int→Hp→OA):LoopsOk tabs (mkOrc (bl.cs F bN bO)) bl.pn (bl.lh F bN bO) F [] 1 bl.code (fun tm H=>aresults tabs.ty H tm Try.f139.results.toList fun v=>some (v,H)) (fun _ _ _=>none) (fun tm H=>aresults tabs.ty H tm Try.f139.results.toList fun v=>some (v,H)):=by
 exact loops_none (by kernel_rfl)
theorem bl.eqX (F:Nat) (bN:Int→Int→Int→Int→Int→Hp→OA) (bO:Int→Int→Int→Int→Int→Int→Hp→OA) (aa:Sl) (ab:Int) (au:Sl) (av:Sl) (cm:Int) (dP:Int) (H:Hp):aCode tabs (mkOrc (bl.cs F bN bO)) bl.pn (bl.lh F bN bO) F [] 1 bl.code (argTm [(.agg [(.sl aa),(.int .i64 ab)]),(.agg [(.sl au),(.sl av)]),(.agg [(.int .i64 cm),(.int .i64 dP)])]) H (fun tm H=>aresults tabs.ty H tm Try.f139.results.toList fun v=>some (v,H)) (fun _ _ _=>none) (fun tm H=>aresults tabs.ty H tm Try.f139.results.toList fun v=>some (v,H)) = bl.twX F bN bO aa ab au av cm dP H:=by kernel_rfl
theorem bl.cs_ok (F:Nat):∀ p ∈ bl.cs F (bc.tw F) (bd.tw F),∀ args H v H',p.2 args H = some (v,H')→Go.AE.T Try.prog p.1 args H v H':=by
 intro p hp
 simp only [bl.cs,List.mem_cons,List.not_mem_nil,or_false] at hp
 rcases hp with rfl | rfl
 ·exact fun args H v H' h=>bc.mk_T h
 ·exact fun args H v H' h=>bd.mk_T h
theorem bl.ok:codeOk bl.pn Try.f139.ntmps bl.tb bl.code = true:=by kernel_rfl
theorem bl.T {F:Nat} {aa:Sl} {ab:Int} {au:Sl} {av:Sl} {cm:Int} {dP:Int} {H:Hp} {v:AV} {H':Hp} (h:bl.tw F aa ab au av cm dP H = some (v,H')):Go.AE.T Try.prog 139 [(.agg [(.sl aa),(.int .i64 ab)]),(.agg [(.sl au),(.sl av)]),(.agg [(.int .i64 cm),(.int .i64 dP)])] H v H':=
 Go.AE.T.of (Y:=tabs) (C:=mkOrc (bl.cs F (bc.tw F) (bd.tw F))) (PN:=bl.pn) (LH:=bl.lh F (bc.tw F) (bd.tw F)) (F:=F) (TB:=bl.tb) (fn:=Try.f139) (code:=bl.code) mixed tabs_ok (mkOrc_ok (bl.cs_ok F)) Try.func139 (by kernel_rfl) (by kernel_rfl) bl.ok (Nat.le_of_ble_eq_true (by kernel_rfl)) (bl.loops F (bc.tw F) (bd.tw F)) (Eq.trans (bl.eqX F (bc.tw F) (bd.tw F) aa ab au av cm dP H) h)
theorem bl.mk_T {F:Nat} {args:List AV} {H:Hp} {v:AV} {H':Hp} (h:bl.mk (bl.tw F) args H = some (v,H')):Go.AE.T Try.prog 139 args H v H':=by
 unfold bl.mk at h
 split at h
 ·exact bl.T h
 ·cases h
noncomputable def aj.j4 (F:Nat) (bW:Sl→Int→Sl→Sl→Int→Int→Hp→OA) (C61_:Nat→Nat→Nat→Nat→Sl→Sl→Int→Int→Hp→OA) (nA:Nat) (zg:Nat) (nB:Nat) (zh:Nat) (zi:Sl) (zj:Sl) (kb:Int) (kc:Int) (H248:Hp):OA:=C61_ nA zg nB zh zi zj kb (IntKind.i64.wrap (kc + 1)) H248
noncomputable def aj.j5 (F:Nat) (bW:Sl→Int→Sl→Sl→Int→Int→Hp→OA) (C61_:Nat→Nat→Nat→Nat→Sl→Sl→Int→Int→Hp→OA) (nC:Nat) (zk:Nat) (jK:Nat) (zl:Nat) (iF:Sl) (zm:Sl) (kd:Int) (ke:Int) (H228:Hp):OA:=aj.j4 F bW C61_ nC zk jK zl iF zm kd ke H228
noncomputable def aj.j6 (F:Nat) (bW:Sl→Int→Sl→Sl→Int→Int→Hp→OA) (C61_:Nat→Nat→Nat→Nat→Sl→Sl→Int→Int→Hp→OA) (kw:Nat) (tH:Nat) (kx:Nat) (tI:Nat) (tJ:Sl) (tK:Sl) (tL:Sl) (iG:Int) (iH:Int) (H205:Hp):OA:=(bif (decide ((tL.n:Int) > 0)) then ((Hp.new H205 [(.sl tL)]).bind fun H206=>(Sl.row H206 (⟨some (H205.length,0),1,.ex 1⟩:Sl) 1).bind fun xs208=>(Hp.app H206 1 24 tJ (⟨some (H205.length,0),1,.ex 1⟩:Sl).n xs208).bind fun a207=>aj.j5 F bW C61_ kw tH kx tI a207.1 tK iG iH a207.2) else (aj.j5 F bW C61_ kw tH kx tI tJ tK iG iH H205))
noncomputable def aj.l15725 (F:Nat) (bW:Sl→Int→Sl→Sl→Int→Int→Hp→OA) (C61_:Nat→Nat→Nat→Nat→Sl→Sl→Int→Int→Hp→OA):Nat→Nat→Nat→Nat→Nat→Sl→Sl→Int→Int→Sl→Int→Hp→OA
 | 0,_,_,_,_,_,_,_,_,_,_,_=>none
 | zn + 1,dd,es,dr,eM,fB,fk,et,eN,fR,cG,H164=>(Sl.idx fk cG 1).bind fun p249=>(Hp.ldB H164 p249.1 p249.2).bind fun b250=>(bif (!b250) then ((Sl.idx fk cG 1).bind fun p251=>(Hp.st H164 p251.1 p251.2 (.bool true)).bind fun H252=>(Hp.new H252 [(.int .i64 cG)]).bind fun H253=>(Sl.row H253 (⟨some (H252.length,0),1,.ex 1⟩:Sl) 1).bind fun xs255=>(Hp.app H253 1 8 fR (⟨some (H252.length,0),1,.ex 1⟩:Sl).n xs255).bind fun a254=>(Hp.ldSl a254.2 dd es).bind fun s256=>(Hp.ldI a254.2 .i64 dd (es + 1)).bind fun n257=>(Hp.ldSl a254.2 dr eM).bind fun s258=>(Hp.ldSl a254.2 dr (eM + 1)).bind fun s259=>(bW s256 n257 s258 s259 (IntKind.i64.wrap (Int.tdiv cG 4)) (Int.tmod (IntKind.i64.wrap (cG + 1)) 4) a254.2).bind fun r260=>((r260.1).asAgg 2).bind fun l261=>(l261[0]?).bind fun v262=>((v262).asI .i64).bind fun n263=>(l261[1]?).bind fun v264=>((v264).asI .i64).bind fun n265=>(Hp.new r260.2 [.int .i64 0,.int .i64 0]).bind fun H266=>(Hp.st H266 r260.2.length 0 (.int .i64 n263)).bind fun H267=>(Hp.st H267 r260.2.length (0 + 1) (.int .i64 n265)).bind fun H268=>(Hp.ldI H268 .i64 r260.2.length 0).bind fun n269=>(Hp.ldI H268 .i64 r260.2.length 1).bind fun n270=>aj.l15725 F bW C61_ zn dd es dr eM fB fk et eN a254.1 (IntKind.i64.wrap ((IntKind.i64.wrap (4 * n269)) + n270)) H268) else (aj.j6 F bW C61_ dd es dr eM fB fk fR et eN H164))
termination_by structural n=>n
noncomputable def aj.l61 (F:Nat) (bW:Sl→Int→Sl→Sl→Int→Int→Hp→OA) :Nat→Nat→Nat→Nat→Nat→Sl→Sl→Int→Int→Hp→OA
 | 0,_,_,_,_,_,_,_,_,_=>none
 | bg + 1,eu,fH,eO,fS,fT,gG,ev,eg,H22=>(bif (decide (eg < ev)) then (aj.l15725 F bW (aj.l61 F bW bg) F eu fH eO fS fT gG ev eg (⟨none,0,.ex 0⟩:Sl) eg H22) else (some ((.sl fT),H22)))
termination_by structural n=>n
noncomputable def aj.twX (F:Nat) (bW:Sl→Int→Sl→Sl→Int→Int→Hp→OA) (aa:Sl) (ab:Int) (au:Sl) (av:Sl) (H:Hp):OA:=(Hp.new H [(.sl aa),(.int .i64 ab)]).bind fun H5=>(Hp.new H5 [(.sl au),(.sl av)]).bind fun H6=>(Hp.ldSl H6 H.length 0).bind fun s7=>(Hp.mk H6 [.bool false] 1 (IntKind.i64.wrap (4 * (s7.n:Int))) (IntKind.i64.wrap (4 * (s7.n:Int)))).bind fun m8=>aj.l61 F bW F H.length 0 H5.length 0 (⟨none,0,.ex 0⟩:Sl) m8.1 (m8.1.n:Int) 0 m8.2
noncomputable def aj.tw (F:Nat) (aa:Sl) (ab:Int) (au:Sl) (av:Sl) (H:Hp):OA:=aj.twX F (bl.tw F) aa ab au av H
noncomputable def aj.code:Go.Code:=(Try.f103.body).getD .skip
noncomputable def aj.lh61 (F:Nat) (bW:Sl→Int→Sl→Sl→Int→Int→Hp→OA) (ks:List Nat) (n:Nat) (tm:Tm) (H:Hp):OA:=match ks,tm 2,tm 3,tm 5,tm 6,tm 17,tm 18 with
 | [],(.ptr eu fH),(.ptr eO fS),(.sl fT),(.sl gG),(.int .i64 ev),(.int .i64 eg)=>aj.l61 F bW n eu fH eO fS fT gG ev eg H
 | _,_,_,_,_,_,_=>none
theorem aj.lh61_inv {F:Nat} {bW:Sl→Int→Sl→Sl→Int→Int→Hp→OA} {ks:List Nat} {n:Nat} {tm:Tm} {H:Hp} {r:AV×Hp} (h:aj.lh61 F bW ks n tm H = some r):∃ eu:Nat,∃ fH:Nat,∃ eO:Nat,∃ fS:Nat,∃ fT:Sl,∃ gG:Sl,∃ ev:Int,∃ eg:Int,ks = []∧tm 2 = (.ptr eu fH)∧tm 3 = (.ptr eO fS)∧tm 5 = (.sl fT)∧tm 6 = (.sl gG)∧tm 17 = (.int .i64 ev)∧tm 18 = (.int .i64 eg)∧aj.l61 F bW n eu fH eO fS fT gG ev eg H = some r:=by
 unfold aj.lh61 at h
 split at h
 ·exact ⟨_,_,_,_,_,_,_,_,rfl,by assumption,by assumption,by assumption,by assumption,by assumption,by assumption,h⟩
 ·cases h
noncomputable def aj.lh15725 (F:Nat) (bW:Sl→Int→Sl→Sl→Int→Int→Hp→OA) (ks:List Nat) (n:Nat) (tm:Tm) (H:Hp):OA:=match ks,tm 2,tm 3,tm 5,tm 6,tm 8,tm 9,tm 17,tm 18 with
 | [bg],(.ptr dd es),(.ptr dr eM),(.sl fB),(.sl fk),(.sl fR),(.int .i64 cG),(.int .i64 et),(.int .i64 eN)=>aj.l15725 F bW (aj.l61 F bW bg) n dd es dr eM fB fk et eN fR cG H
 | _,_,_,_,_,_,_,_,_=>none
theorem aj.lh15725_inv {F:Nat} {bW:Sl→Int→Sl→Sl→Int→Int→Hp→OA} {ks:List Nat} {n:Nat} {tm:Tm} {H:Hp} {r:AV×Hp} (h:aj.lh15725 F bW ks n tm H = some r):∃ bg:Nat,∃ dd:Nat,∃ es:Nat,∃ dr:Nat,∃ eM:Nat,∃ fB:Sl,∃ fk:Sl,∃ fR:Sl,∃ cG:Int,∃ et:Int,∃ eN:Int,ks = [bg]∧tm 2 = (.ptr dd es)∧tm 3 = (.ptr dr eM)∧tm 5 = (.sl fB)∧tm 6 = (.sl fk)∧tm 8 = (.sl fR)∧tm 9 = (.int .i64 cG)∧tm 17 = (.int .i64 et)∧tm 18 = (.int .i64 eN)∧aj.l15725 F bW (aj.l61 F bW bg) n dd es dr eM fB fk et eN fR cG H = some r:=by
 unfold aj.lh15725 at h
 split at h
 ·exact ⟨_,_,_,_,_,_,_,_,_,_,_,rfl,by assumption,by assumption,by assumption,by assumption,by assumption,by assumption,by assumption,by assumption,h⟩
 ·cases h
noncomputable def aj.lh (F:Nat) (bW:Sl→Int→Sl→Sl→Int→Int→Hp→OA) (p:Nat) (ks:List Nat) (n:Nat) (tm:Tm) (H:Hp):OA:=bif p.beq 15725 then aj.lh15725 F bW ks n tm H else (bif p.beq 61 then aj.lh61 F bW ks n tm H else (none))
def aj.pn:Nat→List Nat:=fun i=>(([]:List (Nat×List Nat)).lookup i).getD []
def aj.tb:Nat→List (List Nat):=fun i=>(([]:List (Nat×List (List Nat))).lookup i).getD []
noncomputable def aj.mk (g:Sl→Int→Sl→Sl→Hp→OA) (args:List AV) (H:Hp):OA:=match args with
 | [(.agg [(.sl aa),(.int .i64 ab)]),(.agg [(.sl au),(.sl av)])]=>g aa ab au av H
 | _=>none
noncomputable def aj.cs (F:Nat) (bW:Sl→Int→Sl→Sl→Int→Int→Hp→OA):List (FuncId×(List AV→Hp→OA)):=[(139,bl.mk bW)]
theorem aj.loops (F:Nat) (bW:Sl→Int→Sl→Sl→Int→Int→Hp→OA):LoopsOk tabs (mkOrc (aj.cs F bW)) aj.pn (aj.lh F bW) F [] 1 aj.code (fun tm H=>aresults tabs.ty H tm Try.f103.results.toList fun v=>some (v,H)) (fun _ _ _=>none) (fun tm H=>aresults tabs.ty H tm Try.f103.results.toList fun v=>some (v,H)):=by
 refine LoopsOk.seq ?_ ?_
 ·exact loops_none (by kernel_rfl)
 ·refine LoopsOk.seq ?_ ?_
  ·exact loops_none (by kernel_rfl)
  ·refine LoopsOk.seq ?_ ?_
   ·exact loops_none (by kernel_rfl)
   ·refine LoopsOk.seq ?_ ?_
    ·refine LoopsOk.seq ?_ ?_
     ·exact loops_none (by kernel_rfl)
     ·refine LoopsOk.block ?_
      refine LoopsOk.loop (fun tm H=>?_) (fun k61 tm H r h0=>?_) (fun k61=>?_)
      ·refine none_of fun r h0=>?_
       obtain ⟨eu,fH,eO,fS,fT,gG,ev,eg,hks,e2,e3,e5,e6,e17,e18,h⟩:=aj.lh61_inv (show aj.lh61 F bW [] 0 tm H = some r from h0)
       cases h
      ·obtain ⟨eu,fH,eO,fS,fT,gG,ev,eg,hks,e2,e3,e5,e6,e17,e18,h⟩:=aj.lh61_inv (show aj.lh61 F bW [] (k61 + 1) tm H = some r from h0)
       have q0:(Tm.put tm 2 (.ptr eu fH)) = tm:=by exact Tm.put_same e2
       have q1:(Tm.put (Tm.put tm 2 (.ptr eu fH)) 3 (.ptr eO fS)) = tm:=by rw [q0]; exact Tm.put_same e3
       have q2:(Tm.put (Tm.put (Tm.put tm 2 (.ptr eu fH)) 3 (.ptr eO fS)) 5 (.sl fT)) = tm:=by rw [q1]; exact Tm.put_same e5
       have q3:(Tm.put (Tm.put (Tm.put (Tm.put tm 2 (.ptr eu fH)) 3 (.ptr eO fS)) 5 (.sl fT)) 6 (.sl gG)) = tm:=by rw [q2]; exact Tm.put_same e6
       have q4:(Tm.put (Tm.put (Tm.put (Tm.put (Tm.put tm 2 (.ptr eu fH)) 3 (.ptr eO fS)) 5 (.sl fT)) 6 (.sl gG)) 17 (.int .i64 ev)) = tm:=by rw [q3]; exact Tm.put_same e17
       have q5:(Tm.put (Tm.put (Tm.put (Tm.put (Tm.put (Tm.put tm 2 (.ptr eu fH)) 3 (.ptr eO fS)) 5 (.sl fT)) 6 (.sl gG)) 17 (.int .i64 ev)) 18 (.int .i64 eg)) = tm:=by rw [q4]; exact Tm.put_same e18
       rw [← q5]
       exact Eq.trans (by kernel_rfl) h
      ·refine LoopsOk.seq ?_ ?_
       ·exact loops_none (by kernel_rfl)
       ·refine LoopsOk.seq ?_ ?_
        ·exact loops_none (by kernel_rfl)
        ·refine LoopsOk.seq ?_ ?_
         ·refine LoopsOk.block ?_
          refine LoopsOk.seq ?_ ?_
          ·exact loops_none (by kernel_rfl)
          ·refine LoopsOk.seq ?_ ?_
           ·exact loops_none (by kernel_rfl)
           ·refine LoopsOk.seq ?_ ?_
            ·refine LoopsOk.seq ?_ ?_
             ·exact loops_none (by kernel_rfl)
             ·refine LoopsOk.block ?_
              refine LoopsOk.loop (fun tm H=>?_) (fun k15725 tm H r h0=>?_) (fun k15725=>?_)
              ·refine none_of fun r h0=>?_
               obtain ⟨bg,dd,es,dr,eM,fB,fk,fR,cG,et,eN,hks,e2,e3,e5,e6,e8,e9,e17,e18,h⟩:=aj.lh15725_inv (show aj.lh15725 F bW [k61] 0 tm H = some r from h0)
               cases h
              ·obtain ⟨bg,dd,es,dr,eM,fB,fk,fR,cG,et,eN,hks,e2,e3,e5,e6,e8,e9,e17,e18,h⟩:=aj.lh15725_inv (show aj.lh15725 F bW [k61] (k15725 + 1) tm H = some r from h0)
               obtain rfl:bg = k61:=by simpa [eq_comm] using hks
               have q0:(Tm.put tm 2 (.ptr dd es)) = tm:=by exact Tm.put_same e2
               have q1:(Tm.put (Tm.put tm 2 (.ptr dd es)) 3 (.ptr dr eM)) = tm:=by rw [q0]; exact Tm.put_same e3
               have q2:(Tm.put (Tm.put (Tm.put tm 2 (.ptr dd es)) 3 (.ptr dr eM)) 5 (.sl fB)) = tm:=by rw [q1]; exact Tm.put_same e5
               have q3:(Tm.put (Tm.put (Tm.put (Tm.put tm 2 (.ptr dd es)) 3 (.ptr dr eM)) 5 (.sl fB)) 6 (.sl fk)) = tm:=by rw [q2]; exact Tm.put_same e6
               have q4:(Tm.put (Tm.put (Tm.put (Tm.put (Tm.put tm 2 (.ptr dd es)) 3 (.ptr dr eM)) 5 (.sl fB)) 6 (.sl fk)) 8 (.sl fR)) = tm:=by rw [q3]; exact Tm.put_same e8
               have q5:(Tm.put (Tm.put (Tm.put (Tm.put (Tm.put (Tm.put tm 2 (.ptr dd es)) 3 (.ptr dr eM)) 5 (.sl fB)) 6 (.sl fk)) 8 (.sl fR)) 9 (.int .i64 cG)) = tm:=by rw [q4]; exact Tm.put_same e9
               have q6:(Tm.put (Tm.put (Tm.put (Tm.put (Tm.put (Tm.put (Tm.put tm 2 (.ptr dd es)) 3 (.ptr dr eM)) 5 (.sl fB)) 6 (.sl fk)) 8 (.sl fR)) 9 (.int .i64 cG)) 17 (.int .i64 et)) = tm:=by rw [q5]; exact Tm.put_same e17
               have q7:(Tm.put (Tm.put (Tm.put (Tm.put (Tm.put (Tm.put (Tm.put (Tm.put tm 2 (.ptr dd es)) 3 (.ptr dr eM)) 5 (.sl fB)) 6 (.sl fk)) 8 (.sl fR)) 9 (.int .i64 cG)) 17 (.int .i64 et)) 18 (.int .i64 eN)) = tm:=by rw [q6]; exact Tm.put_same e18
               rw [← q7]
               exact Eq.trans (by kernel_rfl) h
              ·exact loops_none (by kernel_rfl)
            ·exact loops_none (by kernel_rfl)
         ·exact loops_none (by kernel_rfl)
    ·exact loops_none (by kernel_rfl)
theorem aj.eqX (F:Nat) (bW:Sl→Int→Sl→Sl→Int→Int→Hp→OA) (aa:Sl) (ab:Int) (au:Sl) (av:Sl) (H:Hp):aCode tabs (mkOrc (aj.cs F bW)) aj.pn (aj.lh F bW) F [] 1 aj.code (argTm [(.agg [(.sl aa),(.int .i64 ab)]),(.agg [(.sl au),(.sl av)])]) H (fun tm H=>aresults tabs.ty H tm Try.f103.results.toList fun v=>some (v,H)) (fun _ _ _=>none) (fun tm H=>aresults tabs.ty H tm Try.f103.results.toList fun v=>some (v,H)) = aj.twX F bW aa ab au av H:=by kernel_rfl
theorem aj.cs_ok (F:Nat):∀ p ∈ aj.cs F (bl.tw F),∀ args H v H',p.2 args H = some (v,H')→Go.AE.T Try.prog p.1 args H v H':=by
 intro p hp
 simp only [aj.cs,List.mem_cons,List.not_mem_nil,or_false] at hp
 subst hp
 exact fun args H v H' h=>bl.mk_T h
theorem aj.ok:codeOk aj.pn Try.f103.ntmps aj.tb aj.code = true:=by kernel_rfl
theorem aj.T {F:Nat} {aa:Sl} {ab:Int} {au:Sl} {av:Sl} {H:Hp} {v:AV} {H':Hp} (h:aj.tw F aa ab au av H = some (v,H')):Go.AE.T Try.prog 103 [(.agg [(.sl aa),(.int .i64 ab)]),(.agg [(.sl au),(.sl av)])] H v H':=
 Go.AE.T.of (Y:=tabs) (C:=mkOrc (aj.cs F (bl.tw F))) (PN:=aj.pn) (LH:=aj.lh F (bl.tw F)) (F:=F) (TB:=aj.tb) (fn:=Try.f103) (code:=aj.code) mixed tabs_ok (mkOrc_ok (aj.cs_ok F)) Try.func103 (by kernel_rfl) (by kernel_rfl) aj.ok (Nat.le_of_ble_eq_true (by kernel_rfl)) (aj.loops F (bl.tw F)) (Eq.trans (aj.eqX F (bl.tw F) aa ab au av H) h)
theorem aj.mk_T {F:Nat} {args:List AV} {H:Hp} {v:AV} {H':Hp} (h:aj.mk (aj.tw F) args H = some (v,H')):Go.AE.T Try.prog 103 args H v H':=by
 unfold aj.mk at h
 split at h
 ·exact aj.T h
 ·cases h
noncomputable def bH.twX (F:Nat) (aa:Sl) (H:Hp):OA:=some ((.int .i64 (aa.n:Int)),H)
noncomputable def bH.tw (F:Nat) (aa:Sl) (H:Hp):OA:=bH.twX F aa H
noncomputable def bH.code:Go.Code:=(Try.f89.body).getD .skip
noncomputable def bH.lh (F:Nat) (p:Nat) (ks:List Nat) (n:Nat) (tm:Tm) (H:Hp):OA:=none
def bH.pn:Nat→List Nat:=fun i=>(([]:List (Nat×List Nat)).lookup i).getD []
def bH.tb:Nat→List (List Nat):=fun i=>(([]:List (Nat×List (List Nat))).lookup i).getD []
noncomputable def bH.mk (g:Sl→Hp→OA) (args:List AV) (H:Hp):OA:=match args with
 | [(.sl aa)]=>g aa H
 | _=>none
noncomputable def bH.cs (F:Nat):List (FuncId×(List AV→Hp→OA)):=[]
theorem bH.loops (F:Nat):LoopsOk tabs (mkOrc (bH.cs F)) bH.pn (bH.lh F) F [] 1 bH.code (fun tm H=>aresults tabs.ty H tm Try.f89.results.toList fun v=>some (v,H)) (fun _ _ _=>none) (fun tm H=>aresults tabs.ty H tm Try.f89.results.toList fun v=>some (v,H)):=by
 exact loops_none (by kernel_rfl)
theorem bH.eqX (F:Nat) (aa:Sl) (H:Hp):aCode tabs (mkOrc (bH.cs F)) bH.pn (bH.lh F) F [] 1 bH.code (argTm [(.sl aa)]) H (fun tm H=>aresults tabs.ty H tm Try.f89.results.toList fun v=>some (v,H)) (fun _ _ _=>none) (fun tm H=>aresults tabs.ty H tm Try.f89.results.toList fun v=>some (v,H)) = bH.twX F aa H:=by kernel_rfl
theorem bH.cs_ok (F:Nat):∀ p ∈ bH.cs F,∀ args H v H',p.2 args H = some (v,H')→Go.AE.T Try.prog p.1 args H v H':=by
 intro p hp
 exact absurd (show p ∈ [] from hp) List.not_mem_nil
theorem bH.ok:codeOk bH.pn Try.f89.ntmps bH.tb bH.code = true:=by kernel_rfl
theorem bH.T {F:Nat} {aa:Sl} {H:Hp} {v:AV} {H':Hp} (h:bH.tw F aa H = some (v,H')):Go.AE.T Try.prog 89 [(.sl aa)] H v H':=
 Go.AE.T.of (Y:=tabs) (C:=mkOrc (bH.cs F)) (PN:=bH.pn) (LH:=bH.lh F) (F:=F) (TB:=bH.tb) (fn:=Try.f89) (code:=bH.code) mixed tabs_ok (mkOrc_ok (bH.cs_ok F)) Try.func89 (by kernel_rfl) (by kernel_rfl) bH.ok (Nat.le_of_ble_eq_true (by kernel_rfl)) (bH.loops F) (Eq.trans (bH.eqX F aa H) h)
theorem bH.mk_T {F:Nat} {args:List AV} {H:Hp} {v:AV} {H':Hp} (h:bH.mk (bH.tw F) args H = some (v,H')):Go.AE.T Try.prog 89 args H v H':=by
 unfold bH.mk at h
 split at h
 ·exact bH.T h
 ·cases h
noncomputable def aC.l29 (F:Nat) :Nat→Sl→Int→Int→Hp→OA
 | 0,_,_,_,_=>none
 | ft + 1,gh,ew,dQ,H7=>(bif (decide (dQ < ew)) then ((Hp.new H7 [(.int .i64 dQ)]).bind fun H11=>(Sl.row H11 (⟨some (H7.length,0),1,.ex 1⟩:Sl) 1).bind fun xs13=>(Hp.app H11 1 8 gh (⟨some (H7.length,0),1,.ex 1⟩:Sl).n xs13).bind fun a12=>aC.l29 F ft a12.1 ew (IntKind.i64.wrap (dQ + 1)) a12.2) else (some ((.sl gh),H7)))
termination_by structural n=>n
noncomputable def aC.twX (F:Nat) (aa:Int) (H:Hp):OA:=aC.l29 F F (⟨none,0,.ex 0⟩:Sl) aa 0 H
noncomputable def aC.tw (F:Nat) (aa:Int) (H:Hp):OA:=aC.twX F aa H
noncomputable def aC.code:Go.Code:=(Try.f116.body).getD .skip
noncomputable def aC.lh29 (F:Nat) (ks:List Nat) (n:Nat) (tm:Tm) (H:Hp):OA:=match ks,tm 3,tm 5,tm 6 with
 | [],(.sl gh),(.int .i64 ew),(.int .i64 dQ)=>aC.l29 F n gh ew dQ H
 | _,_,_,_=>none
theorem aC.lh29_inv {F:Nat} {ks:List Nat} {n:Nat} {tm:Tm} {H:Hp} {r:AV×Hp} (h:aC.lh29 F ks n tm H = some r):∃ gh:Sl,∃ ew:Int,∃ dQ:Int,ks = []∧tm 3 = (.sl gh)∧tm 5 = (.int .i64 ew)∧tm 6 = (.int .i64 dQ)∧aC.l29 F n gh ew dQ H = some r:=by
 unfold aC.lh29 at h
 split at h
 ·exact ⟨_,_,_,rfl,by assumption,by assumption,by assumption,h⟩
 ·cases h
noncomputable def aC.lh (F:Nat) (p:Nat) (ks:List Nat) (n:Nat) (tm:Tm) (H:Hp):OA:=bif p.beq 29 then aC.lh29 F ks n tm H else (none)
def aC.pn:Nat→List Nat:=fun i=>(([]:List (Nat×List Nat)).lookup i).getD []
def aC.tb:Nat→List (List Nat):=fun i=>(([]:List (Nat×List (List Nat))).lookup i).getD []
noncomputable def aC.mk (g:Int→Hp→OA) (args:List AV) (H:Hp):OA:=match args with
 | [(.int .i64 aa)]=>g aa H
 | _=>none
noncomputable def aC.cs (F:Nat):List (FuncId×(List AV→Hp→OA)):=[]
theorem aC.loops (F:Nat):LoopsOk tabs (mkOrc (aC.cs F)) aC.pn (aC.lh F) F [] 1 aC.code (fun tm H=>aresults tabs.ty H tm Try.f116.results.toList fun v=>some (v,H)) (fun _ _ _=>none) (fun tm H=>aresults tabs.ty H tm Try.f116.results.toList fun v=>some (v,H)):=by
 refine LoopsOk.seq ?_ ?_
 ·exact loops_none (by kernel_rfl)
 ·refine LoopsOk.seq ?_ ?_
  ·exact loops_none (by kernel_rfl)
  ·refine LoopsOk.seq ?_ ?_
   ·refine LoopsOk.seq ?_ ?_
    ·exact loops_none (by kernel_rfl)
    ·refine LoopsOk.block ?_
     refine LoopsOk.loop (fun tm H=>?_) (fun k29 tm H r h0=>?_) (fun k29=>?_)
     ·refine none_of fun r h0=>?_
      obtain ⟨gh,ew,dQ,hks,e3,e5,e6,h⟩:=aC.lh29_inv (show aC.lh29 F [] 0 tm H = some r from h0)
      cases h
     ·obtain ⟨gh,ew,dQ,hks,e3,e5,e6,h⟩:=aC.lh29_inv (show aC.lh29 F [] (k29 + 1) tm H = some r from h0)
      have q0:(Tm.put tm 3 (.sl gh)) = tm:=by exact Tm.put_same e3
      have q1:(Tm.put (Tm.put tm 3 (.sl gh)) 5 (.int .i64 ew)) = tm:=by rw [q0]; exact Tm.put_same e5
      have q2:(Tm.put (Tm.put (Tm.put tm 3 (.sl gh)) 5 (.int .i64 ew)) 6 (.int .i64 dQ)) = tm:=by rw [q1]; exact Tm.put_same e6
      rw [← q2]
      exact Eq.trans (by kernel_rfl) h
     ·exact loops_none (by kernel_rfl)
   ·exact loops_none (by kernel_rfl)
theorem aC.eqX (F:Nat) (aa:Int) (H:Hp):aCode tabs (mkOrc (aC.cs F)) aC.pn (aC.lh F) F [] 1 aC.code (argTm [(.int .i64 aa)]) H (fun tm H=>aresults tabs.ty H tm Try.f116.results.toList fun v=>some (v,H)) (fun _ _ _=>none) (fun tm H=>aresults tabs.ty H tm Try.f116.results.toList fun v=>some (v,H)) = aC.twX F aa H:=by kernel_rfl
theorem aC.cs_ok (F:Nat):∀ p ∈ aC.cs F,∀ args H v H',p.2 args H = some (v,H')→Go.AE.T Try.prog p.1 args H v H':=by
 intro p hp
 exact absurd (show p ∈ [] from hp) List.not_mem_nil
theorem aC.ok:codeOk aC.pn Try.f116.ntmps aC.tb aC.code = true:=by kernel_rfl
theorem aC.T {F:Nat} {aa:Int} {H:Hp} {v:AV} {H':Hp} (h:aC.tw F aa H = some (v,H')):Go.AE.T Try.prog 116 [(.int .i64 aa)] H v H':=
 Go.AE.T.of (Y:=tabs) (C:=mkOrc (aC.cs F)) (PN:=aC.pn) (LH:=aC.lh F) (F:=F) (TB:=aC.tb) (fn:=Try.f116) (code:=aC.code) mixed tabs_ok (mkOrc_ok (aC.cs_ok F)) Try.func116 (by kernel_rfl) (by kernel_rfl) aC.ok (Nat.le_of_ble_eq_true (by kernel_rfl)) (aC.loops F) (Eq.trans (aC.eqX F aa H) h)
theorem aC.mk_T {F:Nat} {args:List AV} {H:Hp} {v:AV} {H':Hp} (h:aC.mk (aC.tw F) args H = some (v,H')):Go.AE.T Try.prog 116 args H v H':=by
 unfold aC.mk at h
 split at h
 ·exact aC.T h
 ·cases h
noncomputable def ax.j2 (F:Nat) (C7_:Sl→Int→Int→Sl→Int→Int→Hp→OA) (zo:Sl) (kf:Int) (kg:Int) (zp:Sl) (kh:Int) (ki:Int) (H50:Hp):OA:=C7_ zo kf kg zp kh (IntKind.i64.wrap (ki + 1)) H50
noncomputable def ax.l7 (F:Nat) :Nat→Sl→Int→Int→Sl→Int→Int→Hp→OA
 | 0,_,_,_,_,_,_,_=>none
 | tM + 1,ct,de,dt,fU,d_,df,H16=>(bif (decide (df < d_)) then ((Sl.idx fU df 1).bind fun p34=>(Hp.ldI H16 .i64 p34.1 p34.2).bind fun n35=>(bif (n35 == de) then ((Sl.idx ct df 1).bind fun p36=>(Hp.st H16 p36.1 p36.2 (.int .i64 dt)).bind fun H37=>ax.j2 F (ax.l7 F tM) ct de dt fU d_ df H37) else (ax.j2 F (ax.l7 F tM) ct de dt fU d_ df H16))) else (some ((.tup []),H16)))
termination_by structural n=>n
noncomputable def ax.twX (F:Nat) (aa:Sl) (ad:Int) (bK:Int) (H:Hp):OA:=(Sl.idx aa bK 1).bind fun p4=>(Hp.ldI H .i64 p4.1 p4.2).bind fun n5=>(Sl.idx aa ad 1).bind fun p6=>(Hp.ldI H .i64 p6.1 p6.2).bind fun n7=>ax.l7 F F aa n5 n7 aa (aa.n:Int) 0 H
noncomputable def ax.tw (F:Nat) (aa:Sl) (ad:Int) (bK:Int) (H:Hp):OA:=ax.twX F aa ad bK H
noncomputable def ax.code:Go.Code:=(Try.f118.body).getD .skip
noncomputable def ax.lh7 (F:Nat) (ks:List Nat) (n:Nat) (tm:Tm) (H:Hp):OA:=match ks,tm 0,tm 6,tm 7,tm 18,tm 19,tm 20 with
 | [],(.sl ct),(.int .i64 de),(.int .i64 dt),(.sl fU),(.int .i64 d_),(.int .i64 df)=>ax.l7 F n ct de dt fU d_ df H
 | _,_,_,_,_,_,_=>none
theorem ax.lh7_inv {F:Nat} {ks:List Nat} {n:Nat} {tm:Tm} {H:Hp} {r:AV×Hp} (h:ax.lh7 F ks n tm H = some r):∃ ct:Sl,∃ de:Int,∃ dt:Int,∃ fU:Sl,∃ d_:Int,∃ df:Int,ks = []∧tm 0 = (.sl ct)∧tm 6 = (.int .i64 de)∧tm 7 = (.int .i64 dt)∧tm 18 = (.sl fU)∧tm 19 = (.int .i64 d_)∧tm 20 = (.int .i64 df)∧ax.l7 F n ct de dt fU d_ df H = some r:=by
 unfold ax.lh7 at h
 split at h
 ·exact ⟨_,_,_,_,_,_,rfl,by assumption,by assumption,by assumption,by assumption,by assumption,by assumption,h⟩
 ·cases h
noncomputable def ax.lh (F:Nat) (p:Nat) (ks:List Nat) (n:Nat) (tm:Tm) (H:Hp):OA:=bif p.beq 7 then ax.lh7 F ks n tm H else (none)
def ax.pn:Nat→List Nat:=fun i=>(([(0,[])]:List (Nat×List Nat)).lookup i).getD []
def ax.tb:Nat→List (List Nat):=fun i=>(([(0,[[],[],[0,1],[0,1,2],[],[],[4,5],[4,5,6],[0,1,2,3],[0,1,2,3,4,5,6,7,8]])]:List (Nat×List (List Nat))).lookup i).getD []
noncomputable def ax.mk (g:Sl→Int→Int→Hp→OA) (args:List AV) (H:Hp):OA:=match args with
 | [(.sl aa),(.int .i64 ad),(.int .i64 bK)]=>g aa ad bK H
 | _=>none
noncomputable def ax.cs (F:Nat):List (FuncId×(List AV→Hp→OA)):=[]
theorem ax.loops (F:Nat):LoopsOk tabs (mkOrc (ax.cs F)) ax.pn (ax.lh F) F [] 1 ax.code (fun tm H=>aresults tabs.ty H tm Try.f118.results.toList fun v=>some (v,H)) (fun _ _ _=>none) (fun tm H=>aresults tabs.ty H tm Try.f118.results.toList fun v=>some (v,H)):=by
 refine LoopsOk.seq ?_ ?_
 ·exact loops_none (by kernel_rfl)
 ·refine LoopsOk.seq ?_ ?_
  ·exact loops_none (by kernel_rfl)
  ·refine LoopsOk.block ?_
   refine LoopsOk.loop (fun tm H=>?_) (fun k7 tm H r h0=>?_) (fun k7=>?_)
   ·refine none_of fun r h0=>?_
    obtain ⟨ct,de,dt,fU,d_,df,hks,e0,e6,e7,e18,e19,e20,h⟩:=ax.lh7_inv (show ax.lh7 F [] 0 tm H = some r from h0)
    cases h
   ·obtain ⟨ct,de,dt,fU,d_,df,hks,e0,e6,e7,e18,e19,e20,h⟩:=ax.lh7_inv (show ax.lh7 F [] (k7 + 1) tm H = some r from h0)
    have q0:(Tm.put tm 0 (.sl ct)) = tm:=by exact Tm.put_same e0
    have q1:(Tm.put (Tm.put tm 0 (.sl ct)) 6 (.int .i64 de)) = tm:=by rw [q0]; exact Tm.put_same e6
    have q2:(Tm.put (Tm.put (Tm.put tm 0 (.sl ct)) 6 (.int .i64 de)) 7 (.int .i64 dt)) = tm:=by rw [q1]; exact Tm.put_same e7
    have q3:(Tm.put (Tm.put (Tm.put (Tm.put tm 0 (.sl ct)) 6 (.int .i64 de)) 7 (.int .i64 dt)) 18 (.sl fU)) = tm:=by rw [q2]; exact Tm.put_same e18
    have q4:(Tm.put (Tm.put (Tm.put (Tm.put (Tm.put tm 0 (.sl ct)) 6 (.int .i64 de)) 7 (.int .i64 dt)) 18 (.sl fU)) 19 (.int .i64 d_)) = tm:=by rw [q3]; exact Tm.put_same e19
    have q5:(Tm.put (Tm.put (Tm.put (Tm.put (Tm.put (Tm.put tm 0 (.sl ct)) 6 (.int .i64 de)) 7 (.int .i64 dt)) 18 (.sl fU)) 19 (.int .i64 d_)) 20 (.int .i64 df)) = tm:=by rw [q4]; exact Tm.put_same e20
    rw [← q5]
    exact Eq.trans (by kernel_rfl) h
   ·exact loops_none (by kernel_rfl)
theorem ax.eqX (F:Nat) (aa:Sl) (ad:Int) (bK:Int) (H:Hp):aCode tabs (mkOrc (ax.cs F)) ax.pn (ax.lh F) F [] 1 ax.code (argTm [(.sl aa),(.int .i64 ad),(.int .i64 bK)]) H (fun tm H=>aresults tabs.ty H tm Try.f118.results.toList fun v=>some (v,H)) (fun _ _ _=>none) (fun tm H=>aresults tabs.ty H tm Try.f118.results.toList fun v=>some (v,H)) = ax.twX F aa ad bK H:=by kernel_rfl
theorem ax.cs_ok (F:Nat):∀ p ∈ ax.cs F,∀ args H v H',p.2 args H = some (v,H')→Go.AE.T Try.prog p.1 args H v H':=by
 intro p hp
 exact absurd (show p ∈ [] from hp) List.not_mem_nil
theorem ax.ok:codeOk ax.pn Try.f118.ntmps ax.tb ax.code = true:=by kernel_rfl
theorem ax.T {F:Nat} {aa:Sl} {ad:Int} {bK:Int} {H:Hp} {v:AV} {H':Hp} (h:ax.tw F aa ad bK H = some (v,H')):Go.AE.T Try.prog 118 [(.sl aa),(.int .i64 ad),(.int .i64 bK)] H v H':=
 Go.AE.T.of (Y:=tabs) (C:=mkOrc (ax.cs F)) (PN:=ax.pn) (LH:=ax.lh F) (F:=F) (TB:=ax.tb) (fn:=Try.f118) (code:=ax.code) mixed tabs_ok (mkOrc_ok (ax.cs_ok F)) Try.func118 (by kernel_rfl) (by kernel_rfl) ax.ok (Nat.le_of_ble_eq_true (by kernel_rfl)) (ax.loops F) (Eq.trans (ax.eqX F aa ad bK H) h)
theorem ax.mk_T {F:Nat} {args:List AV} {H:Hp} {v:AV} {H':Hp} (h:ax.mk (ax.tw F) args H = some (v,H')):Go.AE.T Try.prog 118 args H v H':=by
 unfold ax.mk at h
 split at h
 ·exact ax.T h
 ·cases h
theorem nm_law:Keyed Try.prog 2:=int_keyed Try.underlying2
theorem nm_zero (w:World):(zeroValue 2).run Try.prog w = .ok (.int .i64 0) w:=by kernel_rfl
theorem nm_info:(Try.prog.info? 2).map (fun i=>(i.zero,i.size,i.bytes)) = some (some (.int .i64 0),1,8):=by kernel_rfl
theorem nm_none (a:Option Addr) (cap:Nat) (w:World):Calls Try.prog 119 #[.slice a 0 cap] w fun e w'=>e = .returned (.slice none 0 0)∧Below w.heap.size w w':=by
 have hmm:=@run_makeMap Try.prog
 go_enter Try.func119,Try.ntmps119
 go_wp2
 refine wp_loop_rounds 1 ?_
 rw [rounds_succ]
 go_wp2
 go_ret
 exact ⟨rfl,(Below.refl _ _).alloc (Nat.le_refl _) _⟩
theorem nm_any (b off len cap:Nat) (zs:List Int) (w:World) (hreach:len ≤ 4294967296) (hz:len ≤ zs.length) (hb:b < w.heap.size)
  (hc:∀ j,j < zs.length→w.cell? ⟨b,off + j,none⟩ = some (.int .i64 (zs.getD j 0))) (hwz:∀ n ∈ zs,(Lit.int .i64 n).wf = true) :
  Calls Try.prog 119 #[.slice (some ⟨b,off,none⟩) len cap] w fun e w'=>∃ v,e = .returned v∧w'.ownsRow (w.heap.size + 1) 2 1 v len ((nst zs len).2.map (Value.int .i64))∧Below w.heap.size w w':=by
 have hmm:=@run_makeMap Try.prog
 obtain ⟨i0,hi,hz0,hz1,hz2⟩:=info_parts nm_info
 go_enter Try.func119,Try.ntmps119
 go_wp2
 go_loopw [4,12] (fun v i wr=>∃ (k:Nat) (D:DataW Unit),k ≤ len∧i = .int .i64 k∧wr.ownsMap Try.prog 2 (plainElem Try.prog 2) w.heap.size k D∧ND D (nst zs k).1 ∧
   wr.ownsRow (w.heap.size + 1) 2 1 v k ((nst zs k).2.map (Value.int .i64))∧Below w.heap.size w wr∧w.heap.size + 1 ≤ wr.heap.size)
  (fun _ i _=>len - (intOf i).toNat)
 case atStart=>exact ⟨0,.map [],Nat.zero_le _,rfl,World.ownsMap_made _ _ _ _,ND.nil,World.ownsRow_nil _ _ _ _,(Below.refl _ _).alloc (Nat.le_refl _) _,by simp⟩
 case round=>
  obtain ⟨k,D,hk,rfl,hown,hD,hrow,hnx,hws⟩:=hrel
  obtain ⟨x,hx⟩:∃ x,x = zs.getD k 0:=⟨_,rfl⟩
  have hwx:(Lit.int .i64 x).wf = true:=by rw [hx]; exact wf_gd hwz k
  have hcx:k < len→wr.cell? ⟨b,off + k,none⟩ = some (.int .i64 x):=fun _=>by rw [hx]; exact (hnx.cell (by exact hb)).trans (hc k (by omega))
  have hkey:keyOf Try.prog 2 (.int .i64 x) = some (.int .i64 x):=keyOf_int_mk Try.underlying2 hwx
  have hl1:=nst_len1 zs k
  have hs1:Maps.size D ≤ k:=by rw [hD.size]; exact hl1
  have hht:=hown.tidy nm_law
  have n1:nst zs (k + 1) = (bif (nst zs k).1.contains x then (nst zs k).1 else (nst zs k).1 ++ [x],(nst zs k).2 ++ [(((bif (nst zs k).1.contains x then (nst zs k).1 else (nst zs k).1 ++ [x]).idxOf x:Nat):Int)]):=by rw [hx]; rfl
  clear hx
  go_wp2_with (first
   | (at_lookup; first
     | (refine wpList_lookup_own_ok_int _ rfl _ _ 157 rfl 2 2 .i64 nm_law Try.underlying157 Try.underlying2 (nm_zero _) w.heap.size k _ rfl hown _ _ rfl hkey ?_; intro c hat hwc)
     | (refine wpList_lookup_own_int _ rfl _ _ 157 rfl 2 2 .i64 nm_law Try.underlying157 Try.underlying2 (nm_zero _) w.heap.size (k + 1) _ rfl hown1 _ _ rfl hkey ?_; intro c2 hat2 hwc2)
     | (refine wpList_lookup_own_int _ rfl _ _ 157 rfl 2 2 .i64 nm_law Try.underlying157 Try.underlying2 (nm_zero _) w.heap.size k _ rfl hown _ _ rfl hkey ?_; intro c2 hat2 hwc2))
   | (at_len; refine wpList_len_own _ rfl _ 157 rfl 2 2 Try.underlying157 _ w.heap.size k _ rfl hown ?_)
   | (at_mapUpdate; refine wpList_mapUpdate_own _ rfl _ _ _ 157 rfl 2 2 nm_law Try.underlying157 (plainElem Try.prog 2) w.heap.size k _ rfl hown (by unfold maxLen; omega) _ _ _ rfl rfl hkey _ [] (plainElem_int Try.underlying2 (WalkArith.wf_i64 (by omega))) ?_; intro w1 hown1 hgrow1)
   | (at_builtin; first
     | (refine wpList_append_own _ rfl _ _ 26 rfl (w.heap.size + 1) 2 i0 (.int .i64 0) 1 8 Try.underlying26 hi hz0 hz1 hz2 rfl (by decide) _ _ _ rfl ((hrow.kept hgrow1 (Or.inr (rowNe hrow (Nat.lt_succ_self _)).symm)).alloc _) ⟨w1.heap.size,0,none⟩ 1 1 [.int .i64 c2] rfl rfl (cell_one_new _ _ _) (ints_oneCell .i64 [c2]) (by unfold maxLen; omega) (by omega) (by have:=hgrow1.size; simp at this ⊢; omega) ?_; intro v' w2 hown' hgrow2 hnil2)
     | (refine wpList_append_own _ rfl _ _ 26 rfl (w.heap.size + 1) 2 i0 (.int .i64 0) 1 8 Try.underlying26 hi hz0 hz1 hz2 rfl (by decide) _ _ _ rfl (hrow.alloc _) ⟨wr.heap.size,0,none⟩ 1 1 [.int .i64 c2] rfl rfl (cell_one_new _ _ _) (ints_oneCell .i64 [c2]) (by unfold maxLen; omega) (by omega) (by simp; omega) ?_; intro v' w2 hown' hgrow2 hnil2))
   | go_in)
  ·have hlt:k < len:=by assumption
   have ht:(!Maps.has D (Lit.int .i64 x)) = true:=by assumption
   have hc0:(nst zs k).1.contains x = false:=by rw [← hD.has x]; simpa using ht
   have hr1:=hrow.kept hgrow1 (Or.inr (rowNe hrow (Nat.lt_succ_self _)).symm)
   have s1:=hgrow1.size
   have s2:=hgrow2.size
   simp at s1 s2
   have hD1:=hD.new hht hc0
   rw [hD1.at_ x (by simp) _] at hat2
   have e2:c2 = (((nst zs k).1 ++ [x]).idxOf x:Nat):=by injection hat2 with q; injection q with _ q; exact q.symm
   rw [hc0,cond_false] at n1
   go_roundw
   case rel=>
    refine ⟨k + 1,_,by omega,by go_num,(hown1.alloc _).kept hgrow2 (rowNe hr1 (Nat.lt_succ_self _)),by rw [n1]; exact hD1,?_,?_,by omega⟩
    ·rw [n1,List.map_append,← e2]; exact hown'
    ·exact (((hnx.grown hgrow1 hnx.size (fun j hj=>by cases hj; exact Nat.le_refl _)).alloc (by omega) _).grown hgrow2 (by simp; omega) (fun j hj=>Nat.le_trans (Nat.le_succ _) (hr1.lt j hj).1))
   case measure=>simp [intOf]; omega
  ·have hlt:k < len:=by assumption
   have ht:(!Maps.has D (Lit.int .i64 x)) = false:=by assumption
   have hc1:(nst zs k).1.contains x = true:=by rw [← hD.has x]; simpa using ht
   have s2:=hgrow2.size
   simp at s2
   rw [hD.at_ x hc1 _] at hat2
   have e2:c2 = ((nst zs k).1.idxOf x:Nat):=by injection hat2 with q; injection q with _ q; exact q.symm
   rw [hc1,cond_true] at n1
   go_roundw
   case rel=>
    refine ⟨k + 1,_,by omega,by go_num,((hown.alloc _).kept hgrow2 (rowNe hrow (Nat.lt_succ_self _))).mono (Nat.le_succ _),by rw [n1]; exact hD,?_,?_,by omega⟩
    ·rw [n1,List.map_append,← e2]; exact hown'
    ·exact ((hnx.alloc hnx.size _).grown hgrow2 (by simp; omega) (fun j hj=>Nat.le_trans (Nat.le_succ _) (hrow.lt j hj).1))
   case measure=>simp [intOf]; omega
  ·have:k = len:=by omega
   subst this
   go_ret
   exact ⟨_,rfl,hrow,hnx⟩
theorem nm_ok:NumOk Try.prog 119 2:=⟨nm_none,nm_any⟩
noncomputable def bX.tw (F:Nat) (aa:Sl) (H:Hp):OA:=numTw aa H
noncomputable def bX.mk (g:Sl→Hp→OA) (args:List AV) (H:Hp):OA:=match args with
 | [.sl aa]=>g aa H
 | _=>none
theorem bX.T {F:Nat} {aa:Sl} {H:Hp} {v:AV} {H':Hp} (h:bX.tw F aa H = some (v,H')):Go.AE.T Try.prog 119 [.sl aa] H v H':=
 nm_ok.T (enters_of Try.func119 (by kernel_rfl) (by kernel_rfl)) h
theorem bX.mk_T {F:Nat} {args:List AV} {H:Hp} {v:AV} {H':Hp} (h:bX.mk (bX.tw F) args H = some (v,H')):Go.AE.T Try.prog 119 args H v H':=by
 unfold bX.mk at h
 split at h
 ·exact bX.T h
 ·cases h
noncomputable def aI.l29 (F:Nat) (aZ:Sl→Hp→OA) (bQ:Int→Hp→OA) (bR:Sl→Int→Int→Hp→OA) (bS:Sl→Hp→OA) :Nat→Nat→Nat→Sl→Sl→Int→Int→Hp→OA
 | 0,_,_,_,_,_,_,_=>none
 | ft + 1,ey,fI,fJ,gi,ez,dR,H26=>(bif (decide (dR < ez)) then ((Sl.idx gi dR 2).bind fun p40=>(Hp.ldI H26 .i64 p40.1 p40.2).bind fun n41=>(Hp.ldI H26 .i64 p40.1 (p40.2 + 1)).bind fun n42=>(Hp.new H26 [.int .i64 0,.int .i64 0]).bind fun H43=>(Hp.st H43 H26.length 0 (.int .i64 n41)).bind fun H44=>(Hp.st H44 H26.length (0 + 1) (.int .i64 n42)).bind fun H45=>(Hp.ldI H45 .i64 H26.length 0).bind fun n46=>(Hp.ldSl H45 ey (fI + 1)).bind fun s47=>(Sl.idx s47 dR 2).bind fun p48=>(Hp.ldI H45 .i64 p48.1 p48.2).bind fun n49=>(bR fJ n46 n49 H45).bind fun r50=>aI.l29 F aZ bQ bR bS ft ey fI fJ gi ez (IntKind.i64.wrap (dR + 1)) r50.2) else ((bS fJ H26).bind fun r51=>((r51.1).asSl).bind fun s52=>some ((.sl s52),r51.2)))
termination_by structural n=>n
noncomputable def aI.twX (F:Nat) (aZ:Sl→Hp→OA) (bQ:Int→Hp→OA) (bR:Sl→Int→Int→Hp→OA) (bS:Sl→Hp→OA) (aa:Sl) (ab:Int) (au:Sl) (av:Sl) (H:Hp):OA:=(Hp.new H [(.sl aa),(.int .i64 ab)]).bind fun H5=>(Hp.new H5 [(.sl au),(.sl av)]).bind fun H6=>(Hp.ldSl H6 H.length 0).bind fun s7=>(aZ s7 H6).bind fun r8=>((r8.1).asI .i64).bind fun n9=>(bQ n9 r8.2).bind fun r10=>((r10.1).asSl).bind fun s11=>(Hp.ldSl r10.2 H5.length 0).bind fun s12=>aI.l29 F aZ bQ bR bS F H5.length 0 s11 s12 (s12.n:Int) 0 r10.2
noncomputable def aI.tw (F:Nat) (aa:Sl) (ab:Int) (au:Sl) (av:Sl) (H:Hp):OA:=aI.twX F (aE.tw F) (aC.tw F) (ax.tw F) (bX.tw F) aa ab au av H
noncomputable def aI.code:Go.Code:=(Try.f126.body).getD .skip
noncomputable def aI.lh29 (F:Nat) (aZ:Sl→Hp→OA) (bQ:Int→Hp→OA) (bR:Sl→Int→Int→Hp→OA) (bS:Sl→Hp→OA) (ks:List Nat) (n:Nat) (tm:Tm) (H:Hp):OA:=match ks,tm 3,tm 5,tm 13,tm 14,tm 15 with
 | [],(.ptr ey fI),(.sl fJ),(.sl gi),(.int .i64 ez),(.int .i64 dR)=>aI.l29 F aZ bQ bR bS n ey fI fJ gi ez dR H
 | _,_,_,_,_,_=>none
theorem aI.lh29_inv {F:Nat} {aZ:Sl→Hp→OA} {bQ:Int→Hp→OA} {bR:Sl→Int→Int→Hp→OA} {bS:Sl→Hp→OA} {ks:List Nat} {n:Nat} {tm:Tm} {H:Hp} {r:AV×Hp} (h:aI.lh29 F aZ bQ bR bS ks n tm H = some r):∃ ey:Nat,∃ fI:Nat,∃ fJ:Sl,∃ gi:Sl,∃ ez:Int,∃ dR:Int,ks = []∧tm 3 = (.ptr ey fI)∧tm 5 = (.sl fJ)∧tm 13 = (.sl gi)∧tm 14 = (.int .i64 ez)∧tm 15 = (.int .i64 dR)∧aI.l29 F aZ bQ bR bS n ey fI fJ gi ez dR H = some r:=by
 unfold aI.lh29 at h
 split at h
 ·exact ⟨_,_,_,_,_,_,rfl,by assumption,by assumption,by assumption,by assumption,by assumption,h⟩
 ·cases h
noncomputable def aI.lh (F:Nat) (aZ:Sl→Hp→OA) (bQ:Int→Hp→OA) (bR:Sl→Int→Int→Hp→OA) (bS:Sl→Hp→OA) (p:Nat) (ks:List Nat) (n:Nat) (tm:Tm) (H:Hp):OA:=bif p.beq 29 then aI.lh29 F aZ bQ bR bS ks n tm H else (none)
def aI.pn:Nat→List Nat:=fun i=>(([(5,[9])]:List (Nat×List Nat)).lookup i).getD []
def aI.tb:Nat→List (List Nat):=fun i=>(([(5,[[],[],[1],[],[3],[],[3,4,5],[3,4,5,6],[3,4,5,6,7],[0,1,2,3,4,5,6,7,8]])]:List (Nat×List (List Nat))).lookup i).getD []
noncomputable def aI.mk (g:Sl→Int→Sl→Sl→Hp→OA) (args:List AV) (H:Hp):OA:=match args with
 | [(.agg [(.sl aa),(.int .i64 ab)]),(.agg [(.sl au),(.sl av)])]=>g aa ab au av H
 | _=>none
noncomputable def aI.cs (F:Nat) (aZ:Sl→Hp→OA) (bQ:Int→Hp→OA) (bR:Sl→Int→Int→Hp→OA) (bS:Sl→Hp→OA):List (FuncId×(List AV→Hp→OA)):=[(117,aE.mk aZ),(116,aC.mk bQ),(118,ax.mk bR),(119,bX.mk bS)]
theorem aI.loops (F:Nat) (aZ:Sl→Hp→OA) (bQ:Int→Hp→OA) (bR:Sl→Int→Int→Hp→OA) (bS:Sl→Hp→OA):LoopsOk tabs (mkOrc (aI.cs F aZ bQ bR bS)) aI.pn (aI.lh F aZ bQ bR bS) F [] 1 aI.code (fun tm H=>aresults tabs.ty H tm Try.f126.results.toList fun v=>some (v,H)) (fun _ _ _=>none) (fun tm H=>aresults tabs.ty H tm Try.f126.results.toList fun v=>some (v,H)):=by
 refine LoopsOk.seq ?_ ?_
 ·exact loops_none (by kernel_rfl)
 ·refine LoopsOk.seq ?_ ?_
  ·exact loops_none (by kernel_rfl)
  ·refine LoopsOk.seq ?_ ?_
   ·refine LoopsOk.seq ?_ ?_
    ·exact loops_none (by kernel_rfl)
    ·refine LoopsOk.block ?_
     refine LoopsOk.loop (fun tm H=>?_) (fun k29 tm H r h0=>?_) (fun k29=>?_)
     ·refine none_of fun r h0=>?_
      obtain ⟨ey,fI,fJ,gi,ez,dR,hks,e3,e5,e13,e14,e15,h⟩:=aI.lh29_inv (show aI.lh29 F aZ bQ bR bS [] 0 tm H = some r from h0)
      cases h
     ·obtain ⟨ey,fI,fJ,gi,ez,dR,hks,e3,e5,e13,e14,e15,h⟩:=aI.lh29_inv (show aI.lh29 F aZ bQ bR bS [] (k29 + 1) tm H = some r from h0)
      have q0:(Tm.put tm 3 (.ptr ey fI)) = tm:=by exact Tm.put_same e3
      have q1:(Tm.put (Tm.put tm 3 (.ptr ey fI)) 5 (.sl fJ)) = tm:=by rw [q0]; exact Tm.put_same e5
      have q2:(Tm.put (Tm.put (Tm.put tm 3 (.ptr ey fI)) 5 (.sl fJ)) 13 (.sl gi)) = tm:=by rw [q1]; exact Tm.put_same e13
      have q3:(Tm.put (Tm.put (Tm.put (Tm.put tm 3 (.ptr ey fI)) 5 (.sl fJ)) 13 (.sl gi)) 14 (.int .i64 ez)) = tm:=by rw [q2]; exact Tm.put_same e14
      have q4:(Tm.put (Tm.put (Tm.put (Tm.put (Tm.put tm 3 (.ptr ey fI)) 5 (.sl fJ)) 13 (.sl gi)) 14 (.int .i64 ez)) 15 (.int .i64 dR)) = tm:=by rw [q3]; exact Tm.put_same e15
      rw [← q4]
      exact Eq.trans (by kernel_rfl) h
     ·exact loops_none (by kernel_rfl)
   ·exact loops_none (by kernel_rfl)
theorem aI.eqX (F:Nat) (aZ:Sl→Hp→OA) (bQ:Int→Hp→OA) (bR:Sl→Int→Int→Hp→OA) (bS:Sl→Hp→OA) (aa:Sl) (ab:Int) (au:Sl) (av:Sl) (H:Hp):aCode tabs (mkOrc (aI.cs F aZ bQ bR bS)) aI.pn (aI.lh F aZ bQ bR bS) F [] 1 aI.code (argTm [(.agg [(.sl aa),(.int .i64 ab)]),(.agg [(.sl au),(.sl av)])]) H (fun tm H=>aresults tabs.ty H tm Try.f126.results.toList fun v=>some (v,H)) (fun _ _ _=>none) (fun tm H=>aresults tabs.ty H tm Try.f126.results.toList fun v=>some (v,H)) = aI.twX F aZ bQ bR bS aa ab au av H:=by kernel_rfl
theorem aI.cs_ok (F:Nat):∀ p ∈ aI.cs F (aE.tw F) (aC.tw F) (ax.tw F) (bX.tw F),∀ args H v H',p.2 args H = some (v,H')→Go.AE.T Try.prog p.1 args H v H':=by
 intro p hp
 simp only [aI.cs,List.mem_cons,List.not_mem_nil,or_false] at hp
 rcases hp with rfl | rfl | rfl | rfl
 ·exact fun args H v H' h=>aE.mk_T h
 ·exact fun args H v H' h=>aC.mk_T h
 ·exact fun args H v H' h=>ax.mk_T h
 ·exact fun args H v H' h=>bX.mk_T h
theorem aI.ok:codeOk aI.pn Try.f126.ntmps aI.tb aI.code = true:=by kernel_rfl
theorem aI.T {F:Nat} {aa:Sl} {ab:Int} {au:Sl} {av:Sl} {H:Hp} {v:AV} {H':Hp} (h:aI.tw F aa ab au av H = some (v,H')):Go.AE.T Try.prog 126 [(.agg [(.sl aa),(.int .i64 ab)]),(.agg [(.sl au),(.sl av)])] H v H':=
 Go.AE.T.of (Y:=tabs) (C:=mkOrc (aI.cs F (aE.tw F) (aC.tw F) (ax.tw F) (bX.tw F))) (PN:=aI.pn) (LH:=aI.lh F (aE.tw F) (aC.tw F) (ax.tw F) (bX.tw F)) (F:=F) (TB:=aI.tb) (fn:=Try.f126) (code:=aI.code) mixed tabs_ok (mkOrc_ok (aI.cs_ok F)) Try.func126 (by kernel_rfl) (by kernel_rfl) aI.ok (Nat.le_of_ble_eq_true (by kernel_rfl)) (aI.loops F (aE.tw F) (aC.tw F) (ax.tw F) (bX.tw F)) (Eq.trans (aI.eqX F (aE.tw F) (aC.tw F) (ax.tw F) (bX.tw F) aa ab au av H) h)
theorem aI.mk_T {F:Nat} {args:List AV} {H:Hp} {v:AV} {H':Hp} (h:aI.mk (aI.tw F) args H = some (v,H')):Go.AE.T Try.prog 126 args H v H':=by
 unfold aI.mk at h
 split at h
 ·exact aI.T h
 ·cases h
noncomputable def aD.l61 (F:Nat) :Nat→Sl→Int→Int→Hp→OA
 | 0,_,_,_,_=>none
 | bg + 1,ct,ck,eh,H13=>(bif (decide (eh < (ct.n:Int))) then ((Sl.idx ct eh 1).bind fun p16=>(Hp.ldI H13 .i64 p16.1 p16.2).bind fun n17=>aD.l61 F bg ct (if n17 > ck then n17 else ck) (IntKind.i64.wrap (eh + 1)) H13) else (some ((.int .i64 ck),H13)))
termination_by structural n=>n
noncomputable def aD.j1 (F:Nat) (tO:Sl) (H5:Hp):OA:=(Sl.idx tO 0 1).bind fun p6=>(Hp.ldI H5 .i64 p6.1 p6.2).bind fun n7=>aD.l61 F F tO n7 1 H5
noncomputable def aD.twX (F:Nat) (aa:Sl) (H:Hp):OA:=(bif (decide ((aa.n:Int) < 1)) then (none) else (aD.j1 F aa H))
noncomputable def aD.tw (F:Nat) (aa:Sl) (H:Hp):OA:=aD.twX F aa H
noncomputable def aD.code:Go.Code:=(Try.f151.body).getD .skip
noncomputable def aD.lh61 (F:Nat) (ks:List Nat) (n:Nat) (tm:Tm) (H:Hp):OA:=match ks,tm 0,tm 3,tm 4 with
 | [],(.sl ct),(.int .i64 ck),(.int .i64 eh)=>aD.l61 F n ct ck eh H
 | _,_,_,_=>none
theorem aD.lh61_inv {F:Nat} {ks:List Nat} {n:Nat} {tm:Tm} {H:Hp} {r:AV×Hp} (h:aD.lh61 F ks n tm H = some r):∃ ct:Sl,∃ ck:Int,∃ eh:Int,ks = []∧tm 0 = (.sl ct)∧tm 3 = (.int .i64 ck)∧tm 4 = (.int .i64 eh)∧aD.l61 F n ct ck eh H = some r:=by
 unfold aD.lh61 at h
 split at h
 ·exact ⟨_,_,_,rfl,by assumption,by assumption,by assumption,h⟩
 ·cases h
noncomputable def aD.lh (F:Nat) (p:Nat) (ks:List Nat) (n:Nat) (tm:Tm) (H:Hp):OA:=bif p.beq 61 then aD.lh61 F ks n tm H else (none)
def aD.pn:Nat→List Nat:=fun i=>(([]:List (Nat×List Nat)).lookup i).getD []
def aD.tb:Nat→List (List Nat):=fun i=>(([]:List (Nat×List (List Nat))).lookup i).getD []
noncomputable def aD.mk (g:Sl→Hp→OA) (args:List AV) (H:Hp):OA:=match args with
 | [(.sl aa)]=>g aa H
 | _=>none
noncomputable def aD.cs (F:Nat):List (FuncId×(List AV→Hp→OA)):=[]
theorem aD.loops (F:Nat):LoopsOk tabs (mkOrc (aD.cs F)) aD.pn (aD.lh F) F [] 1 aD.code (fun tm H=>aresults tabs.ty H tm Try.f151.results.toList fun v=>some (v,H)) (fun _ _ _=>none) (fun tm H=>aresults tabs.ty H tm Try.f151.results.toList fun v=>some (v,H)):=by
 refine LoopsOk.seq ?_ ?_
 ·exact loops_none (by kernel_rfl)
 ·refine LoopsOk.seq ?_ ?_
  ·exact loops_none (by kernel_rfl)
  ·refine LoopsOk.seq ?_ ?_
   ·exact loops_none (by kernel_rfl)
   ·refine LoopsOk.seq ?_ ?_
    ·refine LoopsOk.seq ?_ ?_
     ·exact loops_none (by kernel_rfl)
     ·refine LoopsOk.block ?_
      refine LoopsOk.loop (fun tm H=>?_) (fun k61 tm H r h0=>?_) (fun k61=>?_)
      ·refine none_of fun r h0=>?_
       obtain ⟨ct,ck,eh,hks,e0,e3,e4,h⟩:=aD.lh61_inv (show aD.lh61 F [] 0 tm H = some r from h0)
       cases h
      ·obtain ⟨ct,ck,eh,hks,e0,e3,e4,h⟩:=aD.lh61_inv (show aD.lh61 F [] (k61 + 1) tm H = some r from h0)
       have q0:(Tm.put tm 0 (.sl ct)) = tm:=by exact Tm.put_same e0
       have q1:(Tm.put (Tm.put tm 0 (.sl ct)) 3 (.int .i64 ck)) = tm:=by rw [q0]; exact Tm.put_same e3
       have q2:(Tm.put (Tm.put (Tm.put tm 0 (.sl ct)) 3 (.int .i64 ck)) 4 (.int .i64 eh)) = tm:=by rw [q1]; exact Tm.put_same e4
       rw [← q2]
       exact Eq.trans (by kernel_rfl) h
      ·exact loops_none (by kernel_rfl)
    ·exact loops_none (by kernel_rfl)
theorem aD.eqX (F:Nat) (aa:Sl) (H:Hp):aCode tabs (mkOrc (aD.cs F)) aD.pn (aD.lh F) F [] 1 aD.code (argTm [(.sl aa)]) H (fun tm H=>aresults tabs.ty H tm Try.f151.results.toList fun v=>some (v,H)) (fun _ _ _=>none) (fun tm H=>aresults tabs.ty H tm Try.f151.results.toList fun v=>some (v,H)) = aD.twX F aa H:=by kernel_rfl
theorem aD.cs_ok (F:Nat):∀ p ∈ aD.cs F,∀ args H v H',p.2 args H = some (v,H')→Go.AE.T Try.prog p.1 args H v H':=by
 intro p hp
 exact absurd (show p ∈ [] from hp) List.not_mem_nil
theorem aD.ok:codeOk aD.pn Try.f151.ntmps aD.tb aD.code = true:=by kernel_rfl
theorem aD.T {F:Nat} {aa:Sl} {H:Hp} {v:AV} {H':Hp} (h:aD.tw F aa H = some (v,H')):Go.AE.T Try.prog 151 [(.sl aa)] H v H':=
 Go.AE.T.of (Y:=tabs) (C:=mkOrc (aD.cs F)) (PN:=aD.pn) (LH:=aD.lh F) (F:=F) (TB:=aD.tb) (fn:=Try.f151) (code:=aD.code) mixed tabs_ok (mkOrc_ok (aD.cs_ok F)) Try.func151 (by kernel_rfl) (by kernel_rfl) aD.ok (Nat.le_of_ble_eq_true (by kernel_rfl)) (aD.loops F) (Eq.trans (aD.eqX F aa H) h)
theorem aD.mk_T {F:Nat} {args:List AV} {H:Hp} {v:AV} {H':Hp} (h:aD.mk (aD.tw F) args H = some (v,H')):Go.AE.T Try.prog 151 args H v H':=by
 unfold aD.mk at h
 split at h
 ·exact aD.T h
 ·cases h
noncomputable def ba.twX (F:Nat) (gH:Sl→Hp→OA) (aa:Sl) (H:Hp):OA:=(bif ((aa.n:Int) == 0) then (some ((.int .i64 0),H)) else ((gH aa H).bind fun r2=>((r2.1).asI .i64).bind fun n3=>some ((.int .i64 (IntKind.i64.wrap (n3 + 1))),r2.2)))
noncomputable def ba.tw (F:Nat) (aa:Sl) (H:Hp):OA:=ba.twX F (aD.tw F) aa H
noncomputable def ba.code:Go.Code:=(Try.f120.body).getD .skip
noncomputable def ba.lh (F:Nat) (gH:Sl→Hp→OA) (p:Nat) (ks:List Nat) (n:Nat) (tm:Tm) (H:Hp):OA:=none
def ba.pn:Nat→List Nat:=fun i=>(([]:List (Nat×List Nat)).lookup i).getD []
def ba.tb:Nat→List (List Nat):=fun i=>(([]:List (Nat×List (List Nat))).lookup i).getD []
noncomputable def ba.mk (g:Sl→Hp→OA) (args:List AV) (H:Hp):OA:=match args with
 | [(.sl aa)]=>g aa H
 | _=>none
noncomputable def ba.cs (F:Nat) (gH:Sl→Hp→OA):List (FuncId×(List AV→Hp→OA)):=[(151,aD.mk gH)]
theorem ba.loops (F:Nat) (gH:Sl→Hp→OA):LoopsOk tabs (mkOrc (ba.cs F gH)) ba.pn (ba.lh F gH) F [] 1 ba.code (fun tm H=>aresults tabs.ty H tm Try.f120.results.toList fun v=>some (v,H)) (fun _ _ _=>none) (fun tm H=>aresults tabs.ty H tm Try.f120.results.toList fun v=>some (v,H)):=by
 exact loops_none (by kernel_rfl)
theorem ba.eqX (F:Nat) (gH:Sl→Hp→OA) (aa:Sl) (H:Hp):aCode tabs (mkOrc (ba.cs F gH)) ba.pn (ba.lh F gH) F [] 1 ba.code (argTm [(.sl aa)]) H (fun tm H=>aresults tabs.ty H tm Try.f120.results.toList fun v=>some (v,H)) (fun _ _ _=>none) (fun tm H=>aresults tabs.ty H tm Try.f120.results.toList fun v=>some (v,H)) = ba.twX F gH aa H:=by kernel_rfl
theorem ba.cs_ok (F:Nat):∀ p ∈ ba.cs F (aD.tw F),∀ args H v H',p.2 args H = some (v,H')→Go.AE.T Try.prog p.1 args H v H':=by
 intro p hp
 simp only [ba.cs,List.mem_cons,List.not_mem_nil,or_false] at hp
 subst hp
 exact fun args H v H' h=>aD.mk_T h
theorem ba.ok:codeOk ba.pn Try.f120.ntmps ba.tb ba.code = true:=by kernel_rfl
theorem ba.T {F:Nat} {aa:Sl} {H:Hp} {v:AV} {H':Hp} (h:ba.tw F aa H = some (v,H')):Go.AE.T Try.prog 120 [(.sl aa)] H v H':=
 Go.AE.T.of (Y:=tabs) (C:=mkOrc (ba.cs F (aD.tw F))) (PN:=ba.pn) (LH:=ba.lh F (aD.tw F)) (F:=F) (TB:=ba.tb) (fn:=Try.f120) (code:=ba.code) mixed tabs_ok (mkOrc_ok (ba.cs_ok F)) Try.func120 (by kernel_rfl) (by kernel_rfl) ba.ok (Nat.le_of_ble_eq_true (by kernel_rfl)) (ba.loops F (aD.tw F)) (Eq.trans (ba.eqX F (aD.tw F) aa H) h)
theorem ba.mk_T {F:Nat} {args:List AV} {H:Hp} {v:AV} {H':Hp} (h:ba.mk (ba.tw F) args H = some (v,H')):Go.AE.T Try.prog 120 args H v H':=by
 unfold ba.mk at h
 split at h
 ·exact ba.T h
 ·cases h
noncomputable def bh.twX (F:Nat) (aZ:Sl→Hp→OA) (dp:Int→Int→Int→Hp→OA) (gI:Sl→Hp→OA) (gJ:Sl→Int→Hp→OA) (gK:Sl→Int→Sl→Sl→Hp→OA) (gL:Sl→Hp→OA) (gM:Sl→Int→Sl→Sl→Hp→OA) (cf:Sl→Hp→OA) (aa:Sl) (ab:Int) (H:Hp):OA:=(Hp.new H [(.sl aa),(.int .i64 ab)]).bind fun H3=>(Hp.new H3 [.sl ⟨none,0,.ex 0⟩,.sl ⟨none,0,.ex 0⟩]).bind fun H4=>(Hp.ldSl H4 H.length 0).bind fun s5=>(aZ s5 H4).bind fun r6=>((r6.1).asI .i64).bind fun n7=>(bif (decide (n7 > 10)) then ((Hp.st r6.2 H3.length 0 (.sl (⟨none,0,.ex 0⟩:Sl))).bind fun H8=>(Hp.st H8 H3.length (0 + 1) (.sl (⟨none,0,.ex 0⟩:Sl))).bind fun H9=>(Hp.ldSl H9 H3.length 0).bind fun s10=>(Hp.ldSl H9 H3.length (0 + 1)).bind fun s11=>some ((.tup [(.agg [(.sl s10),(.sl s11)]),(.bool false)]),H9)) else ((Hp.ldI r6.2 .i64 H.length 1).bind fun n12=>(dp n12 0 8 r6.2).bind fun r13=>((r13.1).asB).bind fun b14=>(bif (!b14) then ((Hp.st r13.2 H3.length 0 (.sl (⟨none,0,.ex 0⟩:Sl))).bind fun H15=>(Hp.st H15 H3.length (0 + 1) (.sl (⟨none,0,.ex 0⟩:Sl))).bind fun H16=>(Hp.ldSl H16 H3.length 0).bind fun s17=>(Hp.ldSl H16 H3.length (0 + 1)).bind fun s18=>some ((.tup [(.agg [(.sl s17),(.sl s18)]),(.bool false)]),H16)) else ((Hp.ldSl r13.2 H.length 0).bind fun s19=>(gI s19 r13.2).bind fun r20=>((r20.1).asB).bind fun b21=>(bif b21 then ((Hp.st r20.2 H3.length 0 (.sl (⟨none,0,.ex 0⟩:Sl))).bind fun H22=>(Hp.st H22 H3.length (0 + 1) (.sl (⟨none,0,.ex 0⟩:Sl))).bind fun H23=>(Hp.ldSl H23 H3.length 0).bind fun s24=>(Hp.ldSl H23 H3.length (0 + 1)).bind fun s25=>some ((.tup [(.agg [(.sl s24),(.sl s25)]),(.bool false)]),H23)) else ((Hp.ldSl r20.2 H.length 0).bind fun s26=>(Hp.ldI r20.2 .i64 H.length (0 + 1)).bind fun n27=>(gJ s26 n27 r20.2).bind fun r28=>((r28.1).asTup 2).bind fun l29=>(l29[0]?).bind fun v30=>((v30).asAgg 2).bind fun l31=>(l31[0]?).bind fun v32=>((v32).asSl).bind fun s33=>(l31[1]?).bind fun v34=>((v34).asSl).bind fun s35=>(l29[1]?).bind fun v36=>((v36).asB).bind fun b37=>(Hp.new r28.2 [.sl ⟨none,0,.ex 0⟩,.sl ⟨none,0,.ex 0⟩]).bind fun H38=>(Hp.st H38 r28.2.length 0 (.sl s33)).bind fun H39=>(Hp.st H39 r28.2.length (0 + 1) (.sl s35)).bind fun H40=>(bif (!b37) then ((Hp.st H40 H3.length 0 (.sl (⟨none,0,.ex 0⟩:Sl))).bind fun H41=>(Hp.st H41 H3.length (0 + 1) (.sl (⟨none,0,.ex 0⟩:Sl))).bind fun H42=>(Hp.ldSl H42 H3.length 0).bind fun s43=>(Hp.ldSl H42 H3.length (0 + 1)).bind fun s44=>some ((.tup [(.agg [(.sl s43),(.sl s44)]),(.bool false)]),H42)) else ((Hp.ldSl H40 H.length 0).bind fun s45=>(Hp.ldI H40 .i64 H.length (0 + 1)).bind fun n46=>(Hp.ldSl H40 r28.2.length 0).bind fun s47=>(Hp.ldSl H40 r28.2.length (0 + 1)).bind fun s48=>(gK s45 n46 s47 s48 H40).bind fun r49=>((r49.1).asSl).bind fun s50=>(if Cons H40 r49.2 then ((gL s50 r49.2).bind fun r51=>((r51.1).asI .i64).bind fun n52=>(if Cons r49.2 r51.2 then ((Hp.ldSl r51.2 H.length 0).bind fun s53=>(Hp.ldI r51.2 .i64 H.length (0 + 1)).bind fun n54=>(Hp.ldSl r51.2 r28.2.length 0).bind fun s55=>(Hp.ldSl r51.2 r28.2.length (0 + 1)).bind fun s56=>(gM s53 n54 s55 s56 r51.2).bind fun r57=>((r57.1).asSl).bind fun s58=>(cf s58 r57.2).bind fun r59=>((r59.1).asI .i64).bind fun n60=>(bif (n52 != (IntKind.i64.wrap (n7 + (IntKind.i64.wrap (2 * n60))))) then ((Hp.st r59.2 H3.length 0 (.sl (⟨none,0,.ex 0⟩:Sl))).bind fun H61=>(Hp.st H61 H3.length (0 + 1) (.sl (⟨none,0,.ex 0⟩:Sl))).bind fun H62=>(Hp.ldSl H62 H3.length 0).bind fun s63=>(Hp.ldSl H62 H3.length (0 + 1)).bind fun s64=>some ((.tup [(.agg [(.sl s63),(.sl s64)]),(.bool false)]),H62)) else ((Hp.ldSl r59.2 r28.2.length 0).bind fun s65=>(Hp.ldSl r59.2 r28.2.length (0 + 1)).bind fun s66=>(Hp.st r59.2 H3.length 0 (.sl s65)).bind fun H67=>(Hp.st H67 H3.length (0 + 1) (.sl s66)).bind fun H68=>(Hp.ldSl H68 H3.length 0).bind fun s69=>(Hp.ldSl H68 H3.length (0 + 1)).bind fun s70=>some ((.tup [(.agg [(.sl s69),(.sl s70)]),(.bool true)]),H68)))) else none)) else none)))))))))
noncomputable def bh.tw (F:Nat) (aa:Sl) (ab:Int) (H:Hp):OA:=bh.twX F (aE.tw F) (bf.tw F) (bv.tw F) (ar.tw F) (aj.tw F) (bH.tw F) (aI.tw F) (ba.tw F) aa ab H
noncomputable def bh.code:Go.Code:=(Try.f69.body).getD .skip
noncomputable def bh.lh (F:Nat) (aZ:Sl→Hp→OA) (dp:Int→Int→Int→Hp→OA) (gI:Sl→Hp→OA) (gJ:Sl→Int→Hp→OA) (gK:Sl→Int→Sl→Sl→Hp→OA) (gL:Sl→Hp→OA) (gM:Sl→Int→Sl→Sl→Hp→OA) (cf:Sl→Hp→OA) (p:Nat) (ks:List Nat) (n:Nat) (tm:Tm) (H:Hp):OA:=none
def bh.pn:Nat→List Nat:=fun i=>(([(5,[10,11])]:List (Nat×List Nat)).lookup i).getD []
def bh.tb:Nat→List (List Nat):=fun i=>(([(5,[[],[0],[0,1],[0,1,2],[0,1,2],[0,1,2,3,4],[0,1,2,3,4,5],[0,1,2],[0,1,2],[0,1,2],[0,1,2,3,4,5,6,8,9],[0,1,2,3,4,5,6,8,9,10],[0,1,2,3,4,5,6,8,9,10,11],[0,1,2,3,4,5,6,7,8,9,10,11,12],[0,1,2,3,4,5,6,7,8,9,10,11,12,13],[0,1,2,3,4,5,6,7,8,9,10,11,12,13,14]])]:List (Nat×List (List Nat))).lookup i).getD []
noncomputable def bh.mk (g:Sl→Int→Hp→OA) (args:List AV) (H:Hp):OA:=match args with
 | [(.agg [(.sl aa),(.int .i64 ab)])]=>g aa ab H
 | _=>none
noncomputable def bh.cs (F:Nat) (aZ:Sl→Hp→OA) (dp:Int→Int→Int→Hp→OA) (gI:Sl→Hp→OA) (gJ:Sl→Int→Hp→OA) (gK:Sl→Int→Sl→Sl→Hp→OA) (gL:Sl→Hp→OA) (gM:Sl→Int→Sl→Sl→Hp→OA) (cf:Sl→Hp→OA):List (FuncId×(List AV→Hp→OA)):=[(117,aE.mk aZ),(81,bf.mk dp),(123,bv.mk gI),(125,ar.mk gJ),(103,aj.mk gK),(89,bH.mk gL),(126,aI.mk gM),(120,ba.mk cf)]
theorem bh.loops (F:Nat) (aZ:Sl→Hp→OA) (dp:Int→Int→Int→Hp→OA) (gI:Sl→Hp→OA) (gJ:Sl→Int→Hp→OA) (gK:Sl→Int→Sl→Sl→Hp→OA) (gL:Sl→Hp→OA) (gM:Sl→Int→Sl→Sl→Hp→OA) (cf:Sl→Hp→OA):LoopsOk tabs (mkOrc (bh.cs F aZ dp gI gJ gK gL gM cf)) bh.pn (bh.lh F aZ dp gI gJ gK gL gM cf) F [] 1 bh.code (fun tm H=>aresults tabs.ty H tm Try.f69.results.toList fun v=>some (v,H)) (fun _ _ _=>none) (fun tm H=>aresults tabs.ty H tm Try.f69.results.toList fun v=>some (v,H)):=by
 exact loops_none (by kernel_rfl)
theorem bh.eqX (F:Nat) (aZ:Sl→Hp→OA) (dp:Int→Int→Int→Hp→OA) (gI:Sl→Hp→OA) (gJ:Sl→Int→Hp→OA) (gK:Sl→Int→Sl→Sl→Hp→OA) (gL:Sl→Hp→OA) (gM:Sl→Int→Sl→Sl→Hp→OA) (cf:Sl→Hp→OA) (aa:Sl) (ab:Int) (H:Hp):aCode tabs (mkOrc (bh.cs F aZ dp gI gJ gK gL gM cf)) bh.pn (bh.lh F aZ dp gI gJ gK gL gM cf) F [] 1 bh.code (argTm [(.agg [(.sl aa),(.int .i64 ab)])]) H (fun tm H=>aresults tabs.ty H tm Try.f69.results.toList fun v=>some (v,H)) (fun _ _ _=>none) (fun tm H=>aresults tabs.ty H tm Try.f69.results.toList fun v=>some (v,H)) = bh.twX F aZ dp gI gJ gK gL gM cf aa ab H:=by kernel_rfl
theorem bh.cs_ok (F:Nat):∀ p ∈ bh.cs F (aE.tw F) (bf.tw F) (bv.tw F) (ar.tw F) (aj.tw F) (bH.tw F) (aI.tw F) (ba.tw F),∀ args H v H',p.2 args H = some (v,H')→Go.AE.T Try.prog p.1 args H v H':=by
 intro p hp
 simp only [bh.cs,List.mem_cons,List.not_mem_nil,or_false] at hp
 rcases hp with rfl | rfl | rfl | rfl | rfl | rfl | rfl | rfl
 ·exact fun args H v H' h=>aE.mk_T h
 ·exact fun args H v H' h=>bf.mk_T h
 ·exact fun args H v H' h=>bv.mk_T h
 ·exact fun args H v H' h=>ar.mk_T h
 ·exact fun args H v H' h=>aj.mk_T h
 ·exact fun args H v H' h=>bH.mk_T h
 ·exact fun args H v H' h=>aI.mk_T h
 ·exact fun args H v H' h=>ba.mk_T h
theorem bh.ok:codeOk bh.pn Try.f69.ntmps bh.tb bh.code = true:=by kernel_rfl
theorem bh.T {F:Nat} {aa:Sl} {ab:Int} {H:Hp} {v:AV} {H':Hp} (h:bh.tw F aa ab H = some (v,H')):Go.AE.T Try.prog 69 [(.agg [(.sl aa),(.int .i64 ab)])] H v H':=
 Go.AE.T.of (Y:=tabs) (C:=mkOrc (bh.cs F (aE.tw F) (bf.tw F) (bv.tw F) (ar.tw F) (aj.tw F) (bH.tw F) (aI.tw F) (ba.tw F))) (PN:=bh.pn) (LH:=bh.lh F (aE.tw F) (bf.tw F) (bv.tw F) (ar.tw F) (aj.tw F) (bH.tw F) (aI.tw F) (ba.tw F)) (F:=F) (TB:=bh.tb) (fn:=Try.f69) (code:=bh.code) mixed tabs_ok (mkOrc_ok (bh.cs_ok F)) Try.func69 (by kernel_rfl) (by kernel_rfl) bh.ok (Nat.le_of_ble_eq_true (by kernel_rfl)) (bh.loops F (aE.tw F) (bf.tw F) (bv.tw F) (ar.tw F) (aj.tw F) (bH.tw F) (aI.tw F) (ba.tw F)) (Eq.trans (bh.eqX F (aE.tw F) (bf.tw F) (bv.tw F) (ar.tw F) (aj.tw F) (bH.tw F) (aI.tw F) (ba.tw F) aa ab H) h)
theorem bh.mk_T {F:Nat} {args:List AV} {H:Hp} {v:AV} {H':Hp} (h:bh.mk (bh.tw F) args H = some (v,H')):Go.AE.T Try.prog 69 args H v H':=by
 unfold bh.mk at h
 split at h
 ·exact bh.T h
 ·cases h
noncomputable def br.twX (F:Nat) (gN:Sl→Int→Hp→OA) (aa:Sl) (ab:Int) (H:Hp):OA:=(Hp.new H [(.sl aa),(.int .i64 ab)]).bind fun H3=>(Hp.ldSl H3 H.length 0).bind fun s4=>(Hp.ldI H3 .i64 H.length (0 + 1)).bind fun n5=>(gN s4 n5 H3).bind fun r6=>((r6.1).asTup 2).bind fun l7=>(l7[0]?).bind fun v8=>((v8).asAgg 2).bind fun l9=>(l9[0]?).bind fun v10=>((v10).asSl).bind fun s11=>(l9[1]?).bind fun v12=>((v12).asSl).bind fun s13=>(l7[1]?).bind fun v14=>((v14).asB).bind fun b15=>(Hp.new r6.2 [.sl ⟨none,0,.ex 0⟩,.sl ⟨none,0,.ex 0⟩]).bind fun H16=>(Hp.st H16 r6.2.length 0 (.sl s11)).bind fun H17=>(Hp.st H17 r6.2.length (0 + 1) (.sl s13)).bind fun H18=>some ((.bool b15),H18)
noncomputable def br.tw (F:Nat) (aa:Sl) (ab:Int) (H:Hp):OA:=br.twX F (bh.tw F) aa ab H
noncomputable def br.code:Go.Code:=(Try.f61.body).getD .skip
noncomputable def br.lh (F:Nat) (gN:Sl→Int→Hp→OA) (p:Nat) (ks:List Nat) (n:Nat) (tm:Tm) (H:Hp):OA:=none
def br.pn:Nat→List Nat:=fun i=>(([]:List (Nat×List Nat)).lookup i).getD []
def br.tb:Nat→List (List Nat):=fun i=>(([]:List (Nat×List (List Nat))).lookup i).getD []
noncomputable def br.mk (g:Sl→Int→Hp→OA) (args:List AV) (H:Hp):OA:=match args with
 | [(.agg [(.sl aa),(.int .i64 ab)])]=>g aa ab H
 | _=>none
noncomputable def br.cs (F:Nat) (gN:Sl→Int→Hp→OA):List (FuncId×(List AV→Hp→OA)):=[(69,bh.mk gN)]
theorem br.loops (F:Nat) (gN:Sl→Int→Hp→OA):LoopsOk tabs (mkOrc (br.cs F gN)) br.pn (br.lh F gN) F [] 1 br.code (fun tm H=>aresults tabs.ty H tm Try.f61.results.toList fun v=>some (v,H)) (fun _ _ _=>none) (fun tm H=>aresults tabs.ty H tm Try.f61.results.toList fun v=>some (v,H)):=by
 exact loops_none (by kernel_rfl)
theorem br.eqX (F:Nat) (gN:Sl→Int→Hp→OA) (aa:Sl) (ab:Int) (H:Hp):aCode tabs (mkOrc (br.cs F gN)) br.pn (br.lh F gN) F [] 1 br.code (argTm [(.agg [(.sl aa),(.int .i64 ab)])]) H (fun tm H=>aresults tabs.ty H tm Try.f61.results.toList fun v=>some (v,H)) (fun _ _ _=>none) (fun tm H=>aresults tabs.ty H tm Try.f61.results.toList fun v=>some (v,H)) = br.twX F gN aa ab H:=by kernel_rfl
theorem br.cs_ok (F:Nat):∀ p ∈ br.cs F (bh.tw F),∀ args H v H',p.2 args H = some (v,H')→Go.AE.T Try.prog p.1 args H v H':=by
 intro p hp
 simp only [br.cs,List.mem_cons,List.not_mem_nil,or_false] at hp
 subst hp
 exact fun args H v H' h=>bh.mk_T h
theorem br.ok:codeOk br.pn Try.f61.ntmps br.tb br.code = true:=by kernel_rfl
theorem br.T {F:Nat} {aa:Sl} {ab:Int} {H:Hp} {v:AV} {H':Hp} (h:br.tw F aa ab H = some (v,H')):Go.AE.T Try.prog 61 [(.agg [(.sl aa),(.int .i64 ab)])] H v H':=
 Go.AE.T.of (Y:=tabs) (C:=mkOrc (br.cs F (bh.tw F))) (PN:=br.pn) (LH:=br.lh F (bh.tw F)) (F:=F) (TB:=br.tb) (fn:=Try.f61) (code:=br.code) mixed tabs_ok (mkOrc_ok (br.cs_ok F)) Try.func61 (by kernel_rfl) (by kernel_rfl) br.ok (Nat.le_of_ble_eq_true (by kernel_rfl)) (br.loops F (bh.tw F)) (Eq.trans (br.eqX F (bh.tw F) aa ab H) h)
theorem br.mk_T {F:Nat} {args:List AV} {H:Hp} {v:AV} {H':Hp} (h:br.mk (br.tw F) args H = some (v,H')):Go.AE.T Try.prog 61 args H v H':=by
 unfold br.mk at h
 split at h
 ·exact br.T h
 ·cases h
noncomputable def aB.j1 (F:Nat) (aZ:Sl→Hp→OA) (bQ:Int→Hp→OA) (bR:Sl→Int→Int→Hp→OA) (bS:Sl→Hp→OA) (cf:Sl→Hp→OA) (nD:Nat) (zq:Nat) (zr:Sl) (H47:Hp):OA:=(bS zr H47).bind fun r48=>((r48.1).asSl).bind fun s49=>(cf s49 r48.2).bind fun r50=>((r50.1).asI .i64).bind fun n51=>(if Cons r48.2 r50.2 then ((Hp.ldI r50.2 .i64 nD (zq + 1)).bind fun n52=>some ((.tup [(.sl s49),(.int .i64 (IntKind.i64.wrap (n51 + n52)))]),r50.2)) else none)
noncomputable def aB.l29 (F:Nat) (aZ:Sl→Hp→OA) (bQ:Int→Hp→OA) (bR:Sl→Int→Int→Hp→OA) (bS:Sl→Hp→OA) (cf:Sl→Hp→OA) :Nat→Nat→Nat→Sl→Sl→Int→Int→Hp→OA
 | 0,_,_,_,_,_,_,_=>none
 | ft + 1,eA,fK,fL,gj,eB,ei,H20=>(bif (decide (ei < eB)) then ((Sl.idx gj ei 5).bind fun p53=>(Hp.ldI H20 .i64 p53.1 p53.2).bind fun n54=>(Hp.ldI H20 .i64 p53.1 (p53.2 + 1)).bind fun n55=>(Hp.ldI H20 .i64 p53.1 (p53.2 + 2)).bind fun n56=>(Hp.ldI H20 .i64 p53.1 (p53.2 + 3)).bind fun n57=>(Hp.ldI H20 .i64 p53.1 (p53.2 + 4)).bind fun n58=>(Hp.new H20 [.int .i64 0,.int .i64 0,.int .i64 0,.int .i64 0,.int .i64 0]).bind fun H59=>(Hp.st H59 H20.length 0 (.int .i64 n54)).bind fun H60=>(Hp.st H60 H20.length (0 + 1) (.int .i64 n55)).bind fun H61=>(Hp.st H61 H20.length (0 + 1 + 1) (.int .i64 n56)).bind fun H62=>(Hp.st H62 H20.length (0 + 1 + 1 + 1) (.int .i64 n57)).bind fun H63=>(Hp.st H63 H20.length (0 + 1 + 1 + 1 + 1) (.int .i64 n58)).bind fun H64=>(Hp.ldI H64 .i64 H20.length 1).bind fun n65=>(Hp.ldI H64 .i64 H20.length 3).bind fun n66=>(bR fL n65 n66 H64).bind fun r67=>aB.l29 F aZ bQ bR bS cf ft eA fK fL gj eB (IntKind.i64.wrap (ei + 1)) r67.2) else (aB.j1 F aZ bQ bR bS cf eA fK fL H20))
termination_by structural n=>n
noncomputable def aB.twX (F:Nat) (aZ:Sl→Hp→OA) (bQ:Int→Hp→OA) (bR:Sl→Int→Int→Hp→OA) (bS:Sl→Hp→OA) (cf:Sl→Hp→OA) (aa:Sl) (ab:Int) (H:Hp):OA:=(Hp.new H [(.sl aa),(.int .i64 ab)]).bind fun H3=>(Hp.ldSl H3 H.length 0).bind fun s4=>(aZ s4 H3).bind fun r5=>((r5.1).asI .i64).bind fun n6=>(bQ (IntKind.i64.wrap (2 * n6)) r5.2).bind fun r7=>((r7.1).asSl).bind fun s8=>(Hp.ldSl r7.2 H.length 0).bind fun s9=>aB.l29 F aZ bQ bR bS cf F H.length 0 s8 s9 (s9.n:Int) 0 r7.2
noncomputable def aB.tw (F:Nat) (aa:Sl) (ab:Int) (H:Hp):OA:=aB.twX F (aE.tw F) (aC.tw F) (ax.tw F) (bX.tw F) (ba.tw F) aa ab H
noncomputable def aB.code:Go.Code:=(Try.f62.body).getD .skip
noncomputable def aB.lh29 (F:Nat) (aZ:Sl→Hp→OA) (bQ:Int→Hp→OA) (bR:Sl→Int→Int→Hp→OA) (bS:Sl→Hp→OA) (cf:Sl→Hp→OA) (ks:List Nat) (n:Nat) (tm:Tm) (H:Hp):OA:=match ks,tm 1,tm 4,tm 14,tm 15,tm 16 with
 | [],(.ptr eA fK),(.sl fL),(.sl gj),(.int .i64 eB),(.int .i64 ei)=>aB.l29 F aZ bQ bR bS cf n eA fK fL gj eB ei H
 | _,_,_,_,_,_=>none
theorem aB.lh29_inv {F:Nat} {aZ:Sl→Hp→OA} {bQ:Int→Hp→OA} {bR:Sl→Int→Int→Hp→OA} {bS:Sl→Hp→OA} {cf:Sl→Hp→OA} {ks:List Nat} {n:Nat} {tm:Tm} {H:Hp} {r:AV×Hp} (h:aB.lh29 F aZ bQ bR bS cf ks n tm H = some r):∃ eA:Nat,∃ fK:Nat,∃ fL:Sl,∃ gj:Sl,∃ eB:Int,∃ ei:Int,ks = []∧tm 1 = (.ptr eA fK)∧tm 4 = (.sl fL)∧tm 14 = (.sl gj)∧tm 15 = (.int .i64 eB)∧tm 16 = (.int .i64 ei)∧aB.l29 F aZ bQ bR bS cf n eA fK fL gj eB ei H = some r:=by
 unfold aB.lh29 at h
 split at h
 ·exact ⟨_,_,_,_,_,_,rfl,by assumption,by assumption,by assumption,by assumption,by assumption,h⟩
 ·cases h
noncomputable def aB.lh (F:Nat) (aZ:Sl→Hp→OA) (bQ:Int→Hp→OA) (bR:Sl→Int→Int→Hp→OA) (bS:Sl→Hp→OA) (cf:Sl→Hp→OA) (p:Nat) (ks:List Nat) (n:Nat) (tm:Tm) (H:Hp):OA:=bif p.beq 29 then aB.lh29 F aZ bQ bR bS cf ks n tm H else (none)
def aB.pn:Nat→List Nat:=fun i=>(([(8,[])]:List (Nat×List Nat)).lookup i).getD []
def aB.tb:Nat→List (List Nat):=fun i=>(([(8,[[],[],[1],[],[3],[1,2,3,4],[0,1,2],[0,1,2,3,4,5,6]])]:List (Nat×List (List Nat))).lookup i).getD []
noncomputable def aB.mk (g:Sl→Int→Hp→OA) (args:List AV) (H:Hp):OA:=match args with
 | [(.agg [(.sl aa),(.int .i64 ab)])]=>g aa ab H
 | _=>none
noncomputable def aB.cs (F:Nat) (aZ:Sl→Hp→OA) (bQ:Int→Hp→OA) (bR:Sl→Int→Int→Hp→OA) (bS:Sl→Hp→OA) (cf:Sl→Hp→OA):List (FuncId×(List AV→Hp→OA)):=[(117,aE.mk aZ),(116,aC.mk bQ),(118,ax.mk bR),(119,bX.mk bS),(120,ba.mk cf)]
theorem aB.loops (F:Nat) (aZ:Sl→Hp→OA) (bQ:Int→Hp→OA) (bR:Sl→Int→Int→Hp→OA) (bS:Sl→Hp→OA) (cf:Sl→Hp→OA):LoopsOk tabs (mkOrc (aB.cs F aZ bQ bR bS cf)) aB.pn (aB.lh F aZ bQ bR bS cf) F [] 1 aB.code (fun tm H=>aresults tabs.ty H tm Try.f62.results.toList fun v=>some (v,H)) (fun _ _ _=>none) (fun tm H=>aresults tabs.ty H tm Try.f62.results.toList fun v=>some (v,H)):=by
 refine LoopsOk.seq ?_ ?_
 ·exact loops_none (by kernel_rfl)
 ·refine LoopsOk.seq ?_ ?_
  ·exact loops_none (by kernel_rfl)
  ·refine LoopsOk.seq ?_ ?_
   ·refine LoopsOk.seq ?_ ?_
    ·exact loops_none (by kernel_rfl)
    ·refine LoopsOk.block ?_
     refine LoopsOk.loop (fun tm H=>?_) (fun k29 tm H r h0=>?_) (fun k29=>?_)
     ·refine none_of fun r h0=>?_
      obtain ⟨eA,fK,fL,gj,eB,ei,hks,e1,e4,e14,e15,e16,h⟩:=aB.lh29_inv (show aB.lh29 F aZ bQ bR bS cf [] 0 tm H = some r from h0)
      cases h
     ·obtain ⟨eA,fK,fL,gj,eB,ei,hks,e1,e4,e14,e15,e16,h⟩:=aB.lh29_inv (show aB.lh29 F aZ bQ bR bS cf [] (k29 + 1) tm H = some r from h0)
      have q0:(Tm.put tm 1 (.ptr eA fK)) = tm:=by exact Tm.put_same e1
      have q1:(Tm.put (Tm.put tm 1 (.ptr eA fK)) 4 (.sl fL)) = tm:=by rw [q0]; exact Tm.put_same e4
      have q2:(Tm.put (Tm.put (Tm.put tm 1 (.ptr eA fK)) 4 (.sl fL)) 14 (.sl gj)) = tm:=by rw [q1]; exact Tm.put_same e14
      have q3:(Tm.put (Tm.put (Tm.put (Tm.put tm 1 (.ptr eA fK)) 4 (.sl fL)) 14 (.sl gj)) 15 (.int .i64 eB)) = tm:=by rw [q2]; exact Tm.put_same e15
      have q4:(Tm.put (Tm.put (Tm.put (Tm.put (Tm.put tm 1 (.ptr eA fK)) 4 (.sl fL)) 14 (.sl gj)) 15 (.int .i64 eB)) 16 (.int .i64 ei)) = tm:=by rw [q3]; exact Tm.put_same e16
      rw [← q4]
      exact Eq.trans (by kernel_rfl) h
     ·exact loops_none (by kernel_rfl)
   ·exact loops_none (by kernel_rfl)
theorem aB.eqX (F:Nat) (aZ:Sl→Hp→OA) (bQ:Int→Hp→OA) (bR:Sl→Int→Int→Hp→OA) (bS:Sl→Hp→OA) (cf:Sl→Hp→OA) (aa:Sl) (ab:Int) (H:Hp):aCode tabs (mkOrc (aB.cs F aZ bQ bR bS cf)) aB.pn (aB.lh F aZ bQ bR bS cf) F [] 1 aB.code (argTm [(.agg [(.sl aa),(.int .i64 ab)])]) H (fun tm H=>aresults tabs.ty H tm Try.f62.results.toList fun v=>some (v,H)) (fun _ _ _=>none) (fun tm H=>aresults tabs.ty H tm Try.f62.results.toList fun v=>some (v,H)) = aB.twX F aZ bQ bR bS cf aa ab H:=by kernel_rfl
theorem aB.cs_ok (F:Nat):∀ p ∈ aB.cs F (aE.tw F) (aC.tw F) (ax.tw F) (bX.tw F) (ba.tw F),∀ args H v H',p.2 args H = some (v,H')→Go.AE.T Try.prog p.1 args H v H':=by
 intro p hp
 simp only [aB.cs,List.mem_cons,List.not_mem_nil,or_false] at hp
 rcases hp with rfl | rfl | rfl | rfl | rfl
 ·exact fun args H v H' h=>aE.mk_T h
 ·exact fun args H v H' h=>aC.mk_T h
 ·exact fun args H v H' h=>ax.mk_T h
 ·exact fun args H v H' h=>bX.mk_T h
 ·exact fun args H v H' h=>ba.mk_T h
theorem aB.ok:codeOk aB.pn Try.f62.ntmps aB.tb aB.code = true:=by kernel_rfl
theorem aB.T {F:Nat} {aa:Sl} {ab:Int} {H:Hp} {v:AV} {H':Hp} (h:aB.tw F aa ab H = some (v,H')):Go.AE.T Try.prog 62 [(.agg [(.sl aa),(.int .i64 ab)])] H v H':=
 Go.AE.T.of (Y:=tabs) (C:=mkOrc (aB.cs F (aE.tw F) (aC.tw F) (ax.tw F) (bX.tw F) (ba.tw F))) (PN:=aB.pn) (LH:=aB.lh F (aE.tw F) (aC.tw F) (ax.tw F) (bX.tw F) (ba.tw F)) (F:=F) (TB:=aB.tb) (fn:=Try.f62) (code:=aB.code) mixed tabs_ok (mkOrc_ok (aB.cs_ok F)) Try.func62 (by kernel_rfl) (by kernel_rfl) aB.ok (Nat.le_of_ble_eq_true (by kernel_rfl)) (aB.loops F (aE.tw F) (aC.tw F) (ax.tw F) (bX.tw F) (ba.tw F)) (Eq.trans (aB.eqX F (aE.tw F) (aC.tw F) (ax.tw F) (bX.tw F) (ba.tw F) aa ab H) h)
theorem aB.mk_T {F:Nat} {args:List AV} {H:Hp} {v:AV} {H':Hp} (h:aB.mk (aB.tw F) args H = some (v,H')):Go.AE.T Try.prog 62 args H v H':=by
 unfold aB.mk at h
 split at h
 ·exact aB.T h
 ·cases h
noncomputable def bD.twX (F:Nat) (aa:Int) (ad:Int) (H:Hp):OA:=(Hp.new H [.int .i64 0,.int .i64 0,.sl ⟨none,0,.ex 0⟩]).bind fun H3=>(Hp.mk H3 [.int .i64 0] 8 (IntKind.i64.wrap (aa * ad)) (IntKind.i64.wrap (aa * ad))).bind fun m4=>(Hp.st m4.2 H.length 0 (.int .i64 aa)).bind fun H5=>(Hp.st H5 H.length (0 + 1) (.int .i64 ad)).bind fun H6=>(Hp.st H6 H.length (0 + 1 + 1) (.sl m4.1)).bind fun H7=>(Hp.ldI H7 .i64 H.length 0).bind fun n8=>(Hp.ldI H7 .i64 H.length (0 + 1)).bind fun n9=>(Hp.ldSl H7 H.length (0 + 2)).bind fun s10=>some ((.agg [(.int .i64 n8),(.int .i64 n9),(.sl s10)]),H7)
noncomputable def bD.tw (F:Nat) (aa:Int) (ad:Int) (H:Hp):OA:=bD.twX F aa ad H
noncomputable def bD.code:Go.Code:=(Try.f133.body).getD .skip
noncomputable def bD.lh (F:Nat) (p:Nat) (ks:List Nat) (n:Nat) (tm:Tm) (H:Hp):OA:=none
def bD.pn:Nat→List Nat:=fun i=>(([]:List (Nat×List Nat)).lookup i).getD []
def bD.tb:Nat→List (List Nat):=fun i=>(([]:List (Nat×List (List Nat))).lookup i).getD []
noncomputable def bD.mk (g:Int→Int→Hp→OA) (args:List AV) (H:Hp):OA:=match args with
 | [(.int .i64 aa),(.int .i64 ad)]=>g aa ad H
 | _=>none
noncomputable def bD.cs (F:Nat):List (FuncId×(List AV→Hp→OA)):=[]
theorem bD.loops (F:Nat):LoopsOk tabs (mkOrc (bD.cs F)) bD.pn (bD.lh F) F [] 1 bD.code (fun tm H=>aresults tabs.ty H tm Try.f133.results.toList fun v=>some (v,H)) (fun _ _ _=>none) (fun tm H=>aresults tabs.ty H tm Try.f133.results.toList fun v=>some (v,H)):=by
 exact loops_none (by kernel_rfl)
theorem bD.eqX (F:Nat) (aa:Int) (ad:Int) (H:Hp):aCode tabs (mkOrc (bD.cs F)) bD.pn (bD.lh F) F [] 1 bD.code (argTm [(.int .i64 aa),(.int .i64 ad)]) H (fun tm H=>aresults tabs.ty H tm Try.f133.results.toList fun v=>some (v,H)) (fun _ _ _=>none) (fun tm H=>aresults tabs.ty H tm Try.f133.results.toList fun v=>some (v,H)) = bD.twX F aa ad H:=by kernel_rfl
theorem bD.cs_ok (F:Nat):∀ p ∈ bD.cs F,∀ args H v H',p.2 args H = some (v,H')→Go.AE.T Try.prog p.1 args H v H':=by
 intro p hp
 exact absurd (show p ∈ [] from hp) List.not_mem_nil
theorem bD.ok:codeOk bD.pn Try.f133.ntmps bD.tb bD.code = true:=by kernel_rfl
theorem bD.T {F:Nat} {aa:Int} {ad:Int} {H:Hp} {v:AV} {H':Hp} (h:bD.tw F aa ad H = some (v,H')):Go.AE.T Try.prog 133 [(.int .i64 aa),(.int .i64 ad)] H v H':=
 Go.AE.T.of (Y:=tabs) (C:=mkOrc (bD.cs F)) (PN:=bD.pn) (LH:=bD.lh F) (F:=F) (TB:=bD.tb) (fn:=Try.f133) (code:=bD.code) mixed tabs_ok (mkOrc_ok (bD.cs_ok F)) Try.func133 (by kernel_rfl) (by kernel_rfl) bD.ok (Nat.le_of_ble_eq_true (by kernel_rfl)) (bD.loops F) (Eq.trans (bD.eqX F aa ad H) h)
theorem bD.mk_T {F:Nat} {args:List AV} {H:Hp} {v:AV} {H':Hp} (h:bD.mk (bD.tw F) args H = some (v,H')):Go.AE.T Try.prog 133 args H v H':=by
 unfold bD.mk at h
 split at h
 ·exact bD.T h
 ·cases h
noncomputable def bI.twX (F:Nat) (aa:Int) (ab:Int) (ai:Sl) (av:Int) (cm:Int) (H:Hp):OA:=(Hp.new H [(.int .i64 aa),(.int .i64 ab),(.sl ai)]).bind fun H6=>(Hp.ldSl H6 H.length 2).bind fun s7=>(Hp.ldI H6 .i64 H.length 1).bind fun n8=>(Sl.idx s7 (IntKind.i64.wrap ((IntKind.i64.wrap (av * n8)) + cm)) 1).bind fun p9=>some ((.ptr p9.1 p9.2),H6)
noncomputable def bI.tw (F:Nat) (aa:Int) (ab:Int) (ai:Sl) (av:Int) (cm:Int) (H:Hp):OA:=bI.twX F aa ab ai av cm H
noncomputable def bI.code:Go.Code:=(Try.f134.body).getD .skip
noncomputable def bI.lh (F:Nat) (p:Nat) (ks:List Nat) (n:Nat) (tm:Tm) (H:Hp):OA:=none
def bI.pn:Nat→List Nat:=fun i=>(([]:List (Nat×List Nat)).lookup i).getD []
def bI.tb:Nat→List (List Nat):=fun i=>(([]:List (Nat×List (List Nat))).lookup i).getD []
noncomputable def bI.mk (g:Int→Int→Sl→Int→Int→Hp→OA) (args:List AV) (H:Hp):OA:=match args with
 | [(.agg [(.int .i64 aa),(.int .i64 ab),(.sl ai)]),(.int .i64 av),(.int .i64 cm)]=>g aa ab ai av cm H
 | _=>none
noncomputable def bI.cs (F:Nat):List (FuncId×(List AV→Hp→OA)):=[]
theorem bI.loops (F:Nat):LoopsOk tabs (mkOrc (bI.cs F)) bI.pn (bI.lh F) F [] 1 bI.code (fun tm H=>aresults tabs.ty H tm Try.f134.results.toList fun v=>some (v,H)) (fun _ _ _=>none) (fun tm H=>aresults tabs.ty H tm Try.f134.results.toList fun v=>some (v,H)):=by
 exact loops_none (by kernel_rfl)
theorem bI.eqX (F:Nat) (aa:Int) (ab:Int) (ai:Sl) (av:Int) (cm:Int) (H:Hp):aCode tabs (mkOrc (bI.cs F)) bI.pn (bI.lh F) F [] 1 bI.code (argTm [(.agg [(.int .i64 aa),(.int .i64 ab),(.sl ai)]),(.int .i64 av),(.int .i64 cm)]) H (fun tm H=>aresults tabs.ty H tm Try.f134.results.toList fun v=>some (v,H)) (fun _ _ _=>none) (fun tm H=>aresults tabs.ty H tm Try.f134.results.toList fun v=>some (v,H)) = bI.twX F aa ab ai av cm H:=by kernel_rfl
theorem bI.cs_ok (F:Nat):∀ p ∈ bI.cs F,∀ args H v H',p.2 args H = some (v,H')→Go.AE.T Try.prog p.1 args H v H':=by
 intro p hp
 exact absurd (show p ∈ [] from hp) List.not_mem_nil
theorem bI.ok:codeOk bI.pn Try.f134.ntmps bI.tb bI.code = true:=by kernel_rfl
theorem bI.T {F:Nat} {aa:Int} {ab:Int} {ai:Sl} {av:Int} {cm:Int} {H:Hp} {v:AV} {H':Hp} (h:bI.tw F aa ab ai av cm H = some (v,H')):Go.AE.T Try.prog 134 [(.agg [(.int .i64 aa),(.int .i64 ab),(.sl ai)]),(.int .i64 av),(.int .i64 cm)] H v H':=
 Go.AE.T.of (Y:=tabs) (C:=mkOrc (bI.cs F)) (PN:=bI.pn) (LH:=bI.lh F) (F:=F) (TB:=bI.tb) (fn:=Try.f134) (code:=bI.code) mixed tabs_ok (mkOrc_ok (bI.cs_ok F)) Try.func134 (by kernel_rfl) (by kernel_rfl) bI.ok (Nat.le_of_ble_eq_true (by kernel_rfl)) (bI.loops F) (Eq.trans (bI.eqX F aa ab ai av cm H) h)
theorem bI.mk_T {F:Nat} {args:List AV} {H:Hp} {v:AV} {H':Hp} (h:bI.mk (bI.tw F) args H = some (v,H')):Go.AE.T Try.prog 134 args H v H':=by
 unfold bI.mk at h
 split at h
 ·exact bI.T h
 ·cases h
noncomputable def aM.l61 (F:Nat) (dS:Sl→Int→Hp→OA) (aZ:Sl→Hp→OA) (dU:Int→Int→Hp→OA) (dg:Int→Int→Sl→Int→Int→Hp→OA) :Nat→Nat→Nat→Sl→Nat→Nat→Sl→Int→Int→Hp→OA
 | 0,_,_,_,_,_,_,_,_,_=>none
 | bg + 1,cX,ej,fl,cu,dh,gk,eC,cS,H42=>(bif (decide (cS < eC)) then ((Sl.idx gk cS 5).bind fun p94=>(Hp.ldI H42 .i64 p94.1 p94.2).bind fun n95=>(Hp.ldI H42 .i64 p94.1 (p94.2 + 1)).bind fun n96=>(Hp.ldI H42 .i64 p94.1 (p94.2 + 2)).bind fun n97=>(Hp.ldI H42 .i64 p94.1 (p94.2 + 3)).bind fun n98=>(Hp.ldI H42 .i64 p94.1 (p94.2 + 4)).bind fun n99=>(Hp.new H42 [.int .i64 0,.int .i64 0,.int .i64 0,.int .i64 0,.int .i64 0]).bind fun H100=>(Hp.st H100 H42.length 0 (.int .i64 n95)).bind fun H101=>(Hp.st H101 H42.length (0 + 1) (.int .i64 n96)).bind fun H102=>(Hp.st H102 H42.length (0 + 1 + 1) (.int .i64 n97)).bind fun H103=>(Hp.st H103 H42.length (0 + 1 + 1 + 1) (.int .i64 n98)).bind fun H104=>(Hp.st H104 H42.length (0 + 1 + 1 + 1 + 1) (.int .i64 n99)).bind fun H105=>(Hp.ldI H105 .i64 cu dh).bind fun n106=>(Hp.ldI H105 .i64 cu (dh + 1)).bind fun n107=>(Hp.ldSl H105 cu (dh + 2)).bind fun s108=>(Hp.ldI H105 .i64 H42.length 1).bind fun n109=>(Sl.idx fl n109 1).bind fun p110=>(Hp.ldI H105 .i64 p110.1 p110.2).bind fun n111=>(dg n106 n107 s108 cS n111 H105).bind fun r112=>((r112.1).asP).bind fun p113=>(Hp.ldI r112.2 .i64 p113.1 p113.2).bind fun n114=>(Hp.st r112.2 p113.1 p113.2 (.int .i64 (IntKind.i64.wrap (n114 + 2)))).bind fun H115=>(Hp.ldI H115 .i64 cu dh).bind fun n116=>(Hp.ldI H115 .i64 cu (dh + 1)).bind fun n117=>(Hp.ldSl H115 cu (dh + 2)).bind fun s118=>(Hp.ldI H115 .i64 H42.length 0).bind fun n119=>(Sl.idx fl n119 1).bind fun p120=>(Hp.ldI H115 .i64 p120.1 p120.2).bind fun n121=>(dg n116 n117 s118 cS n121 H115).bind fun r122=>((r122.1).asP).bind fun p123=>(Hp.ldI r122.2 .i64 p123.1 p123.2).bind fun n124=>(Hp.st r122.2 p123.1 p123.2 (.int .i64 (IntKind.i64.wrap (n124 - 1)))).bind fun H125=>(Hp.ldI H125 .i64 cu dh).bind fun n126=>(Hp.ldI H125 .i64 cu (dh + 1)).bind fun n127=>(Hp.ldSl H125 cu (dh + 2)).bind fun s128=>(Hp.ldI H125 .i64 H42.length 2).bind fun n129=>(Sl.idx fl n129 1).bind fun p130=>(Hp.ldI H125 .i64 p130.1 p130.2).bind fun n131=>(dg n126 n127 s128 cS n131 H125).bind fun r132=>((r132.1).asP).bind fun p133=>(Hp.ldI r132.2 .i64 p133.1 p133.2).bind fun n134=>(Hp.st r132.2 p133.1 p133.2 (.int .i64 (IntKind.i64.wrap (n134 - 1)))).bind fun H135=>aM.l61 F dS aZ dU dg bg cX ej fl cu dh gk eC (IntKind.i64.wrap (cS + 1)) H135) else ((Hp.ldI H42 .i64 cu dh).bind fun n136=>(Hp.ldI H42 .i64 cu (dh + 1)).bind fun n137=>(Hp.ldSl H42 cu (dh + 2)).bind fun s138=>(Hp.st H42 cX ej (.int .i64 n136)).bind fun H139=>(Hp.st H139 cX (ej + 1) (.int .i64 n137)).bind fun H140=>(Hp.st H140 cX (ej + 1 + 1) (.sl s138)).bind fun H141=>(Hp.ldI H141 .i64 cX ej).bind fun n142=>(Hp.ldI H141 .i64 cX (ej + 1)).bind fun n143=>(Hp.ldSl H141 cX (ej + 2)).bind fun s144=>some ((.agg [(.int .i64 n142),(.int .i64 n143),(.sl s144)]),H141)))
termination_by structural n=>n
noncomputable def aM.twX (F:Nat) (dS:Sl→Int→Hp→OA) (aZ:Sl→Hp→OA) (dU:Int→Int→Hp→OA) (dg:Int→Int→Sl→Int→Int→Hp→OA) (aa:Sl) (ab:Int) (H:Hp):OA:=(Hp.new H [(.sl aa),(.int .i64 ab)]).bind fun H3=>(Hp.new H3 [.int .i64 0,.int .i64 0,.sl ⟨none,0,.ex 0⟩]).bind fun H4=>(Hp.ldSl H4 H.length 0).bind fun s5=>(Hp.ldI H4 .i64 H.length (0 + 1)).bind fun n6=>(dS s5 n6 H4).bind fun r7=>((r7.1).asTup 2).bind fun l8=>(l8[0]?).bind fun v9=>((v9).asSl).bind fun s10=>(l8[1]?).bind fun v11=>((v11).asI .i64).bind fun n12=>(Hp.ldSl r7.2 H.length 0).bind fun s13=>(aZ s13 r7.2).bind fun r14=>((r14.1).asI .i64).bind fun n15=>(dU n15 n12 r14.2).bind fun r16=>((r16.1).asAgg 3).bind fun l17=>(l17[0]?).bind fun v18=>((v18).asI .i64).bind fun n19=>(l17[1]?).bind fun v20=>((v20).asI .i64).bind fun n21=>(l17[2]?).bind fun v22=>((v22).asSl).bind fun s23=>(Hp.new r16.2 [.int .i64 0,.int .i64 0,.sl ⟨none,0,.ex 0⟩]).bind fun H24=>(Hp.st H24 r16.2.length 0 (.int .i64 n19)).bind fun H25=>(Hp.st H25 r16.2.length (0 + 1) (.int .i64 n21)).bind fun H26=>(Hp.st H26 r16.2.length (0 + 1 + 1) (.sl s23)).bind fun H27=>(Hp.ldSl H27 H.length 0).bind fun s28=>aM.l61 F dS aZ dU dg F H3.length 0 s10 r16.2.length 0 s28 (s28.n:Int) 0 H27
noncomputable def aM.tw (F:Nat) (aa:Sl) (ab:Int) (H:Hp):OA:=aM.twX F (aB.tw F) (aE.tw F) (bD.tw F) (bI.tw F) aa ab H
noncomputable def aM.code:Go.Code:=(Try.f82.body).getD .skip
noncomputable def aM.lh61 (F:Nat) (dS:Sl→Int→Hp→OA) (aZ:Sl→Hp→OA) (dU:Int→Int→Hp→OA) (dg:Int→Int→Sl→Int→Int→Hp→OA) (ks:List Nat) (n:Nat) (tm:Tm) (H:Hp):OA:=match ks,tm 2,tm 3,tm 5,tm 19,tm 20,tm 21 with
 | [],(.ptr cX ej),(.sl fl),(.ptr cu dh),(.sl gk),(.int .i64 eC),(.int .i64 cS)=>aM.l61 F dS aZ dU dg n cX ej fl cu dh gk eC cS H
 | _,_,_,_,_,_,_=>none
theorem aM.lh61_inv {F:Nat} {dS:Sl→Int→Hp→OA} {aZ:Sl→Hp→OA} {dU:Int→Int→Hp→OA} {dg:Int→Int→Sl→Int→Int→Hp→OA} {ks:List Nat} {n:Nat} {tm:Tm} {H:Hp} {r:AV×Hp} (h:aM.lh61 F dS aZ dU dg ks n tm H = some r):∃ cX:Nat,∃ ej:Nat,∃ fl:Sl,∃ cu:Nat,∃ dh:Nat,∃ gk:Sl,∃ eC:Int,∃ cS:Int,ks = []∧tm 2 = (.ptr cX ej)∧tm 3 = (.sl fl)∧tm 5 = (.ptr cu dh)∧tm 19 = (.sl gk)∧tm 20 = (.int .i64 eC)∧tm 21 = (.int .i64 cS)∧aM.l61 F dS aZ dU dg n cX ej fl cu dh gk eC cS H = some r:=by
 unfold aM.lh61 at h
 split at h
 ·exact ⟨_,_,_,_,_,_,_,_,rfl,by assumption,by assumption,by assumption,by assumption,by assumption,by assumption,h⟩
 ·cases h
noncomputable def aM.lh (F:Nat) (dS:Sl→Int→Hp→OA) (aZ:Sl→Hp→OA) (dU:Int→Int→Hp→OA) (dg:Int→Int→Sl→Int→Int→Hp→OA) (p:Nat) (ks:List Nat) (n:Nat) (tm:Tm) (H:Hp):OA:=bif p.beq 61 then aM.lh61 F dS aZ dU dg ks n tm H else (none)
def aM.pn:Nat→List Nat:=fun i=>(([(6,[7,12]),(7,[7,12]),(8,[7,12])]:List (Nat×List Nat)).lookup i).getD []
def aM.tb:Nat→List (List Nat):=fun i=>(([(6,[[],[],[],[],[3],[2,3,4],[2,3,4,5],[0,1,2,3,4,5,6],[0,1,2,3,4,5,6,7],[0,1,2,3,4,5,6,7,8],[0,1,2,3,4,5,6,7,8,9],[0,1,2,3,4,5,6,7,8,9,10],[0,1,2,3,4,5,6,7,8,9,10,11]]),(7,[[],[],[],[],[3],[2,3,4],[2,3,4,5],[0,1,2,3,4,5,6],[0,1,2,3,4,5,6,7],[0,1,2,3,4,5,6,7,8],[0,1,2,3,4,5,6,7,8,9],[0,1,2,3,4,5,6,7,8,9,10],[0,1,2,3,4,5,6,7,8,9,10,11]]),(8,[[],[],[],[],[3],[2,3,4],[2,3,4,5],[0,1,2,3,4,5,6],[0,1,2,3,4,5,6,7],[0,1,2,3,4,5,6,7,8],[0,1,2,3,4,5,6,7,8,9],[0,1,2,3,4,5,6,7,8,9,10],[0,1,2,3,4,5,6,7,8,9,10,11]])]:List (Nat×List (List Nat))).lookup i).getD []
noncomputable def aM.mk (g:Sl→Int→Hp→OA) (args:List AV) (H:Hp):OA:=match args with
 | [(.agg [(.sl aa),(.int .i64 ab)])]=>g aa ab H
 | _=>none
noncomputable def aM.cs (F:Nat) (dS:Sl→Int→Hp→OA) (aZ:Sl→Hp→OA) (dU:Int→Int→Hp→OA) (dg:Int→Int→Sl→Int→Int→Hp→OA):List (FuncId×(List AV→Hp→OA)):=[(62,aB.mk dS),(117,aE.mk aZ),(133,bD.mk dU),(134,bI.mk dg)]
theorem aM.loops (F:Nat) (dS:Sl→Int→Hp→OA) (aZ:Sl→Hp→OA) (dU:Int→Int→Hp→OA) (dg:Int→Int→Sl→Int→Int→Hp→OA):LoopsOk tabs (mkOrc (aM.cs F dS aZ dU dg)) aM.pn (aM.lh F dS aZ dU dg) F [] 1 aM.code (fun tm H=>aresults tabs.ty H tm Try.f82.results.toList fun v=>some (v,H)) (fun _ _ _=>none) (fun tm H=>aresults tabs.ty H tm Try.f82.results.toList fun v=>some (v,H)):=by
 refine LoopsOk.seq ?_ ?_
 ·exact loops_none (by kernel_rfl)
 ·refine LoopsOk.seq ?_ ?_
  ·exact loops_none (by kernel_rfl)
  ·refine LoopsOk.seq ?_ ?_
   ·exact loops_none (by kernel_rfl)
   ·refine LoopsOk.seq ?_ ?_
    ·refine LoopsOk.seq ?_ ?_
     ·exact loops_none (by kernel_rfl)
     ·refine LoopsOk.block ?_
      refine LoopsOk.loop (fun tm H=>?_) (fun k61 tm H r h0=>?_) (fun k61=>?_)
      ·refine none_of fun r h0=>?_
       obtain ⟨cX,ej,fl,cu,dh,gk,eC,cS,hks,e2,e3,e5,e19,e20,e21,h⟩:=aM.lh61_inv (show aM.lh61 F dS aZ dU dg [] 0 tm H = some r from h0)
       cases h
      ·obtain ⟨cX,ej,fl,cu,dh,gk,eC,cS,hks,e2,e3,e5,e19,e20,e21,h⟩:=aM.lh61_inv (show aM.lh61 F dS aZ dU dg [] (k61 + 1) tm H = some r from h0)
       have q0:(Tm.put tm 2 (.ptr cX ej)) = tm:=by exact Tm.put_same e2
       have q1:(Tm.put (Tm.put tm 2 (.ptr cX ej)) 3 (.sl fl)) = tm:=by rw [q0]; exact Tm.put_same e3
       have q2:(Tm.put (Tm.put (Tm.put tm 2 (.ptr cX ej)) 3 (.sl fl)) 5 (.ptr cu dh)) = tm:=by rw [q1]; exact Tm.put_same e5
       have q3:(Tm.put (Tm.put (Tm.put (Tm.put tm 2 (.ptr cX ej)) 3 (.sl fl)) 5 (.ptr cu dh)) 19 (.sl gk)) = tm:=by rw [q2]; exact Tm.put_same e19
       have q4:(Tm.put (Tm.put (Tm.put (Tm.put (Tm.put tm 2 (.ptr cX ej)) 3 (.sl fl)) 5 (.ptr cu dh)) 19 (.sl gk)) 20 (.int .i64 eC)) = tm:=by rw [q3]; exact Tm.put_same e20
       have q5:(Tm.put (Tm.put (Tm.put (Tm.put (Tm.put (Tm.put tm 2 (.ptr cX ej)) 3 (.sl fl)) 5 (.ptr cu dh)) 19 (.sl gk)) 20 (.int .i64 eC)) 21 (.int .i64 cS)) = tm:=by rw [q4]; exact Tm.put_same e21
       rw [← q5]
       exact Eq.trans (by kernel_rfl) h
      ·exact loops_none (by kernel_rfl)
    ·exact loops_none (by kernel_rfl)
theorem aM.eqX (F:Nat) (dS:Sl→Int→Hp→OA) (aZ:Sl→Hp→OA) (dU:Int→Int→Hp→OA) (dg:Int→Int→Sl→Int→Int→Hp→OA) (aa:Sl) (ab:Int) (H:Hp):aCode tabs (mkOrc (aM.cs F dS aZ dU dg)) aM.pn (aM.lh F dS aZ dU dg) F [] 1 aM.code (argTm [(.agg [(.sl aa),(.int .i64 ab)])]) H (fun tm H=>aresults tabs.ty H tm Try.f82.results.toList fun v=>some (v,H)) (fun _ _ _=>none) (fun tm H=>aresults tabs.ty H tm Try.f82.results.toList fun v=>some (v,H)) = aM.twX F dS aZ dU dg aa ab H:=by kernel_rfl
theorem aM.cs_ok (F:Nat):∀ p ∈ aM.cs F (aB.tw F) (aE.tw F) (bD.tw F) (bI.tw F),∀ args H v H',p.2 args H = some (v,H')→Go.AE.T Try.prog p.1 args H v H':=by
 intro p hp
 simp only [aM.cs,List.mem_cons,List.not_mem_nil,or_false] at hp
 rcases hp with rfl | rfl | rfl | rfl
 ·exact fun args H v H' h=>aB.mk_T h
 ·exact fun args H v H' h=>aE.mk_T h
 ·exact fun args H v H' h=>bD.mk_T h
 ·exact fun args H v H' h=>bI.mk_T h
theorem aM.ok:codeOk aM.pn Try.f82.ntmps aM.tb aM.code = true:=by kernel_rfl
theorem aM.T {F:Nat} {aa:Sl} {ab:Int} {H:Hp} {v:AV} {H':Hp} (h:aM.tw F aa ab H = some (v,H')):Go.AE.T Try.prog 82 [(.agg [(.sl aa),(.int .i64 ab)])] H v H':=
 Go.AE.T.of (Y:=tabs) (C:=mkOrc (aM.cs F (aB.tw F) (aE.tw F) (bD.tw F) (bI.tw F))) (PN:=aM.pn) (LH:=aM.lh F (aB.tw F) (aE.tw F) (bD.tw F) (bI.tw F)) (F:=F) (TB:=aM.tb) (fn:=Try.f82) (code:=aM.code) mixed tabs_ok (mkOrc_ok (aM.cs_ok F)) Try.func82 (by kernel_rfl) (by kernel_rfl) aM.ok (Nat.le_of_ble_eq_true (by kernel_rfl)) (aM.loops F (aB.tw F) (aE.tw F) (bD.tw F) (bI.tw F)) (Eq.trans (aM.eqX F (aB.tw F) (aE.tw F) (bD.tw F) (bI.tw F) aa ab H) h)
theorem aM.mk_T {F:Nat} {args:List AV} {H:Hp} {v:AV} {H':Hp} (h:aM.mk (aM.tw F) args H = some (v,H')):Go.AE.T Try.prog 82 args H v H':=by
 unfold aM.mk at h
 split at h
 ·exact aM.T h
 ·cases h
noncomputable def bs.twX (F:Nat) (gO:Sl→Int→Hp→OA) (gP:Sl→Int→Hp→OA) (aa:Sl) (ab:Int) (H:Hp):OA:=(Hp.new H [(.sl aa),(.int .i64 ab)]).bind fun H3=>(Hp.new H3 [.int .i64 0,.int .i64 0,.sl ⟨none,0,.ex 0⟩]).bind fun H4=>(Hp.ldSl H4 H.length 0).bind fun s5=>(Hp.ldI H4 .i64 H.length (0 + 1)).bind fun n6=>(gO s5 n6 H4).bind fun r7=>((r7.1).asB).bind fun b8=>(bif (!b8) then ((Hp.st r7.2 H3.length 0 (.int .i64 0)).bind fun H9=>(Hp.st H9 H3.length (0 + 1) (.int .i64 0)).bind fun H10=>(Hp.st H10 H3.length (0 + 1 + 1) (.sl (⟨none,0,.ex 0⟩:Sl))).bind fun H11=>(Hp.ldI H11 .i64 H3.length 0).bind fun n12=>(Hp.ldI H11 .i64 H3.length (0 + 1)).bind fun n13=>(Hp.ldSl H11 H3.length (0 + 2)).bind fun s14=>some ((.tup [(.agg [(.int .i64 n12),(.int .i64 n13),(.sl s14)]),(.bool false)]),H11)) else ((Hp.ldSl r7.2 H.length 0).bind fun s15=>(Hp.ldI r7.2 .i64 H.length (0 + 1)).bind fun n16=>(gP s15 n16 r7.2).bind fun r17=>((r17.1).asAgg 3).bind fun l18=>(l18[0]?).bind fun v19=>((v19).asI .i64).bind fun n20=>(l18[1]?).bind fun v21=>((v21).asI .i64).bind fun n22=>(l18[2]?).bind fun v23=>((v23).asSl).bind fun s24=>(Hp.st r17.2 H3.length 0 (.int .i64 n20)).bind fun H25=>(Hp.st H25 H3.length (0 + 1) (.int .i64 n22)).bind fun H26=>(Hp.st H26 H3.length (0 + 1 + 1) (.sl s24)).bind fun H27=>(Hp.ldI H27 .i64 H3.length 0).bind fun n28=>(Hp.ldI H27 .i64 H3.length (0 + 1)).bind fun n29=>(Hp.ldSl H27 H3.length (0 + 2)).bind fun s30=>some ((.tup [(.agg [(.int .i64 n28),(.int .i64 n29),(.sl s30)]),(.bool true)]),H27)))
noncomputable def bs.tw (F:Nat) (aa:Sl) (ab:Int) (H:Hp):OA:=bs.twX F (br.tw F) (aM.tw F) aa ab H
noncomputable def bs.code:Go.Code:=(Try.f34.body).getD .skip
noncomputable def bs.lh (F:Nat) (gO:Sl→Int→Hp→OA) (gP:Sl→Int→Hp→OA) (p:Nat) (ks:List Nat) (n:Nat) (tm:Tm) (H:Hp):OA:=none
def bs.pn:Nat→List Nat:=fun i=>(([]:List (Nat×List Nat)).lookup i).getD []
def bs.tb:Nat→List (List Nat):=fun i=>(([]:List (Nat×List (List Nat))).lookup i).getD []
noncomputable def bs.mk (g:Sl→Int→Hp→OA) (args:List AV) (H:Hp):OA:=match args with
 | [(.agg [(.sl aa),(.int .i64 ab)])]=>g aa ab H
 | _=>none
noncomputable def bs.cs (F:Nat) (gO:Sl→Int→Hp→OA) (gP:Sl→Int→Hp→OA):List (FuncId×(List AV→Hp→OA)):=[(61,br.mk gO),(82,aM.mk gP)]
theorem bs.loops (F:Nat) (gO:Sl→Int→Hp→OA) (gP:Sl→Int→Hp→OA):LoopsOk tabs (mkOrc (bs.cs F gO gP)) bs.pn (bs.lh F gO gP) F [] 1 bs.code (fun tm H=>aresults tabs.ty H tm Try.f34.results.toList fun v=>some (v,H)) (fun _ _ _=>none) (fun tm H=>aresults tabs.ty H tm Try.f34.results.toList fun v=>some (v,H)):=by
 exact loops_none (by kernel_rfl)
theorem bs.eqX (F:Nat) (gO:Sl→Int→Hp→OA) (gP:Sl→Int→Hp→OA) (aa:Sl) (ab:Int) (H:Hp):aCode tabs (mkOrc (bs.cs F gO gP)) bs.pn (bs.lh F gO gP) F [] 1 bs.code (argTm [(.agg [(.sl aa),(.int .i64 ab)])]) H (fun tm H=>aresults tabs.ty H tm Try.f34.results.toList fun v=>some (v,H)) (fun _ _ _=>none) (fun tm H=>aresults tabs.ty H tm Try.f34.results.toList fun v=>some (v,H)) = bs.twX F gO gP aa ab H:=by kernel_rfl
theorem bs.cs_ok (F:Nat):∀ p ∈ bs.cs F (br.tw F) (aM.tw F),∀ args H v H',p.2 args H = some (v,H')→Go.AE.T Try.prog p.1 args H v H':=by
 intro p hp
 simp only [bs.cs,List.mem_cons,List.not_mem_nil,or_false] at hp
 rcases hp with rfl | rfl
 ·exact fun args H v H' h=>br.mk_T h
 ·exact fun args H v H' h=>aM.mk_T h
theorem bs.ok:codeOk bs.pn Try.f34.ntmps bs.tb bs.code = true:=by kernel_rfl
theorem bs.T {F:Nat} {aa:Sl} {ab:Int} {H:Hp} {v:AV} {H':Hp} (h:bs.tw F aa ab H = some (v,H')):Go.AE.T Try.prog 34 [(.agg [(.sl aa),(.int .i64 ab)])] H v H':=
 Go.AE.T.of (Y:=tabs) (C:=mkOrc (bs.cs F (br.tw F) (aM.tw F))) (PN:=bs.pn) (LH:=bs.lh F (br.tw F) (aM.tw F)) (F:=F) (TB:=bs.tb) (fn:=Try.f34) (code:=bs.code) mixed tabs_ok (mkOrc_ok (bs.cs_ok F)) Try.func34 (by kernel_rfl) (by kernel_rfl) bs.ok (Nat.le_of_ble_eq_true (by kernel_rfl)) (bs.loops F (br.tw F) (aM.tw F)) (Eq.trans (bs.eqX F (br.tw F) (aM.tw F) aa ab H) h)
theorem bs.mk_T {F:Nat} {args:List AV} {H:Hp} {v:AV} {H':Hp} (h:bs.mk (bs.tw F) args H = some (v,H')):Go.AE.T Try.prog 34 args H v H':=by
 unfold bs.mk at h
 split at h
 ·exact bs.T h
 ·cases h
noncomputable def aR.l29 (F:Nat) :Nat→Sl→Sl→Int→Hp→OA
 | 0,_,_,_,_=>none
 | ft + 1,aX,aF,bT,H8=>(bif (decide (bT < (aX.n:Int))) then ((Sl.idx aX bT 1).bind fun p13=>(Hp.ldI H8 .i64 p13.1 p13.2).bind fun n14=>(Sl.idx aF bT 1).bind fun p15=>(Hp.ldI H8 .i64 p15.1 p15.2).bind fun n16=>(bif (n14 != n16) then (some ((.bool false),H8)) else (aR.l29 F ft aX aF (IntKind.i64.wrap (bT + 1)) H8))) else (some ((.bool true),H8)))
termination_by structural n=>n
noncomputable def aR.twX (F:Nat) (aa:Sl) (ad:Sl) (H:Hp):OA:=(bif ((aa.n:Int) != (ad.n:Int)) then (some ((.bool false),H)) else (aR.l29 F F aa ad 0 H))
noncomputable def aR.tw (F:Nat) (aa:Sl) (ad:Sl) (H:Hp):OA:=aR.twX F aa ad H
noncomputable def aR.code:Go.Code:=(Try.f19.body).getD .skip
noncomputable def aR.lh29 (F:Nat) (ks:List Nat) (n:Nat) (tm:Tm) (H:Hp):OA:=match ks,tm 0,tm 1,tm 5 with
 | [],(.sl aX),(.sl aF),(.int .i64 bT)=>aR.l29 F n aX aF bT H
 | _,_,_,_=>none
theorem aR.lh29_inv {F:Nat} {ks:List Nat} {n:Nat} {tm:Tm} {H:Hp} {r:AV×Hp} (h:aR.lh29 F ks n tm H = some r):∃ aX:Sl,∃ aF:Sl,∃ bT:Int,ks = []∧tm 0 = (.sl aX)∧tm 1 = (.sl aF)∧tm 5 = (.int .i64 bT)∧aR.l29 F n aX aF bT H = some r:=by
 unfold aR.lh29 at h
 split at h
 ·exact ⟨_,_,_,rfl,by assumption,by assumption,by assumption,h⟩
 ·cases h
noncomputable def aR.lh (F:Nat) (p:Nat) (ks:List Nat) (n:Nat) (tm:Tm) (H:Hp):OA:=bif p.beq 29 then aR.lh29 F ks n tm H else (none)
def aR.pn:Nat→List Nat:=fun i=>(([(6,[])]:List (Nat×List Nat)).lookup i).getD []
def aR.tb:Nat→List (List Nat):=fun i=>(([(6,[[],[],[0,1],[0,1,2],[],[],[4,5],[4,5,6],[0,1,2,3,4,5,6,7]])]:List (Nat×List (List Nat))).lookup i).getD []
noncomputable def aR.mk (g:Sl→Sl→Hp→OA) (args:List AV) (H:Hp):OA:=match args with
 | [(.sl aa),(.sl ad)]=>g aa ad H
 | _=>none
noncomputable def aR.cs (F:Nat):List (FuncId×(List AV→Hp→OA)):=[]
theorem aR.loops (F:Nat):LoopsOk tabs (mkOrc (aR.cs F)) aR.pn (aR.lh F) F [] 1 aR.code (fun tm H=>aresults tabs.ty H tm Try.f19.results.toList fun v=>some (v,H)) (fun _ _ _=>none) (fun tm H=>aresults tabs.ty H tm Try.f19.results.toList fun v=>some (v,H)):=by
 refine LoopsOk.seq ?_ ?_
 ·exact loops_none (by kernel_rfl)
 ·refine LoopsOk.seq ?_ ?_
  ·exact loops_none (by kernel_rfl)
  ·refine LoopsOk.seq ?_ ?_
   ·refine LoopsOk.seq ?_ ?_
    ·exact loops_none (by kernel_rfl)
    ·refine LoopsOk.block ?_
     refine LoopsOk.loop (fun tm H=>?_) (fun k29 tm H r h0=>?_) (fun k29=>?_)
     ·refine none_of fun r h0=>?_
      obtain ⟨aX,aF,bT,hks,e0,e1,e5,h⟩:=aR.lh29_inv (show aR.lh29 F [] 0 tm H = some r from h0)
      cases h
     ·obtain ⟨aX,aF,bT,hks,e0,e1,e5,h⟩:=aR.lh29_inv (show aR.lh29 F [] (k29 + 1) tm H = some r from h0)
      have q0:(Tm.put tm 0 (.sl aX)) = tm:=by exact Tm.put_same e0
      have q1:(Tm.put (Tm.put tm 0 (.sl aX)) 1 (.sl aF)) = tm:=by rw [q0]; exact Tm.put_same e1
      have q2:(Tm.put (Tm.put (Tm.put tm 0 (.sl aX)) 1 (.sl aF)) 5 (.int .i64 bT)) = tm:=by rw [q1]; exact Tm.put_same e5
      rw [← q2]
      exact Eq.trans (by kernel_rfl) h
     ·exact loops_none (by kernel_rfl)
   ·exact loops_none (by kernel_rfl)
theorem aR.eqX (F:Nat) (aa:Sl) (ad:Sl) (H:Hp):aCode tabs (mkOrc (aR.cs F)) aR.pn (aR.lh F) F [] 1 aR.code (argTm [(.sl aa),(.sl ad)]) H (fun tm H=>aresults tabs.ty H tm Try.f19.results.toList fun v=>some (v,H)) (fun _ _ _=>none) (fun tm H=>aresults tabs.ty H tm Try.f19.results.toList fun v=>some (v,H)) = aR.twX F aa ad H:=by kernel_rfl
theorem aR.cs_ok (F:Nat):∀ p ∈ aR.cs F,∀ args H v H',p.2 args H = some (v,H')→Go.AE.T Try.prog p.1 args H v H':=by
 intro p hp
 exact absurd (show p ∈ [] from hp) List.not_mem_nil
theorem aR.ok:codeOk aR.pn Try.f19.ntmps aR.tb aR.code = true:=by kernel_rfl
theorem aR.T {F:Nat} {aa:Sl} {ad:Sl} {H:Hp} {v:AV} {H':Hp} (h:aR.tw F aa ad H = some (v,H')):Go.AE.T Try.prog 19 [(.sl aa),(.sl ad)] H v H':=
 Go.AE.T.of (Y:=tabs) (C:=mkOrc (aR.cs F)) (PN:=aR.pn) (LH:=aR.lh F) (F:=F) (TB:=aR.tb) (fn:=Try.f19) (code:=aR.code) mixed tabs_ok (mkOrc_ok (aR.cs_ok F)) Try.func19 (by kernel_rfl) (by kernel_rfl) aR.ok (Nat.le_of_ble_eq_true (by kernel_rfl)) (aR.loops F) (Eq.trans (aR.eqX F aa ad H) h)
theorem aR.mk_T {F:Nat} {args:List AV} {H:Hp} {v:AV} {H':Hp} (h:aR.mk (aR.tw F) args H = some (v,H')):Go.AE.T Try.prog 19 args H v H':=by
 unfold aR.mk at h
 split at h
 ·exact aR.T h
 ·cases h
noncomputable def bo.twX (F:Nat) (gQ:Sl→Sl→Hp→OA) (aa:Int) (ab:Int) (ai:Sl) (av:Int) (e_:Int) (aJ:Sl) (H:Hp):OA:=(Hp.new H [(.int .i64 aa),(.int .i64 ab),(.sl ai)]).bind fun H7=>(Hp.new H7 [(.int .i64 av),(.int .i64 e_),(.sl aJ)]).bind fun H8=>(Hp.ldI H8 .i64 H.length 0).bind fun n9=>(Hp.ldI H8 .i64 H7.length 0).bind fun n10=>(bif (n9 != n10) then (some ((.bool false),H8)) else ((Hp.ldI H8 .i64 H.length 1).bind fun n11=>(Hp.ldI H8 .i64 H7.length 1).bind fun n12=>(bif (n11 != n12) then (some ((.bool false),H8)) else ((Hp.ldSl H8 H.length 2).bind fun s13=>(Hp.ldSl H8 H7.length 2).bind fun s14=>(gQ s13 s14 H8).bind fun r15=>((r15.1).asB).bind fun b16=>(bif (!b16) then (some ((.bool false),r15.2)) else (some ((.bool true),r15.2)))))))
noncomputable def bo.tw (F:Nat) (aa:Int) (ab:Int) (ai:Sl) (av:Int) (e_:Int) (aJ:Sl) (H:Hp):OA:=bo.twX F (aR.tw F) aa ab ai av e_ aJ H
noncomputable def bo.code:Go.Code:=(Try.f35.body).getD .skip
noncomputable def bo.lh (F:Nat) (gQ:Sl→Sl→Hp→OA) (p:Nat) (ks:List Nat) (n:Nat) (tm:Tm) (H:Hp):OA:=none
def bo.pn:Nat→List Nat:=fun i=>(([]:List (Nat×List Nat)).lookup i).getD []
def bo.tb:Nat→List (List Nat):=fun i=>(([]:List (Nat×List (List Nat))).lookup i).getD []
noncomputable def bo.mk (g:Int→Int→Sl→Int→Int→Sl→Hp→OA) (args:List AV) (H:Hp):OA:=match args with
 | [(.agg [(.int .i64 aa),(.int .i64 ab),(.sl ai)]),(.agg [(.int .i64 av),(.int .i64 e_),(.sl aJ)])]=>g aa ab ai av e_ aJ H
 | _=>none
noncomputable def bo.cs (F:Nat) (gQ:Sl→Sl→Hp→OA):List (FuncId×(List AV→Hp→OA)):=[(19,aR.mk gQ)]
theorem bo.loops (F:Nat) (gQ:Sl→Sl→Hp→OA):LoopsOk tabs (mkOrc (bo.cs F gQ)) bo.pn (bo.lh F gQ) F [] 1 bo.code (fun tm H=>aresults tabs.ty H tm Try.f35.results.toList fun v=>some (v,H)) (fun _ _ _=>none) (fun tm H=>aresults tabs.ty H tm Try.f35.results.toList fun v=>some (v,H)):=by
 exact loops_none (by kernel_rfl)
theorem bo.eqX (F:Nat) (gQ:Sl→Sl→Hp→OA) (aa:Int) (ab:Int) (ai:Sl) (av:Int) (e_:Int) (aJ:Sl) (H:Hp):aCode tabs (mkOrc (bo.cs F gQ)) bo.pn (bo.lh F gQ) F [] 1 bo.code (argTm [(.agg [(.int .i64 aa),(.int .i64 ab),(.sl ai)]),(.agg [(.int .i64 av),(.int .i64 e_),(.sl aJ)])]) H (fun tm H=>aresults tabs.ty H tm Try.f35.results.toList fun v=>some (v,H)) (fun _ _ _=>none) (fun tm H=>aresults tabs.ty H tm Try.f35.results.toList fun v=>some (v,H)) = bo.twX F gQ aa ab ai av e_ aJ H:=by kernel_rfl
theorem bo.cs_ok (F:Nat):∀ p ∈ bo.cs F (aR.tw F),∀ args H v H',p.2 args H = some (v,H')→Go.AE.T Try.prog p.1 args H v H':=by
 intro p hp
 simp only [bo.cs,List.mem_cons,List.not_mem_nil,or_false] at hp
 subst hp
 exact fun args H v H' h=>aR.mk_T h
theorem bo.ok:codeOk bo.pn Try.f35.ntmps bo.tb bo.code = true:=by kernel_rfl
theorem bo.T {F:Nat} {aa:Int} {ab:Int} {ai:Sl} {av:Int} {e_:Int} {aJ:Sl} {H:Hp} {v:AV} {H':Hp} (h:bo.tw F aa ab ai av e_ aJ H = some (v,H')):Go.AE.T Try.prog 35 [(.agg [(.int .i64 aa),(.int .i64 ab),(.sl ai)]),(.agg [(.int .i64 av),(.int .i64 e_),(.sl aJ)])] H v H':=
 Go.AE.T.of (Y:=tabs) (C:=mkOrc (bo.cs F (aR.tw F))) (PN:=bo.pn) (LH:=bo.lh F (aR.tw F)) (F:=F) (TB:=bo.tb) (fn:=Try.f35) (code:=bo.code) mixed tabs_ok (mkOrc_ok (bo.cs_ok F)) Try.func35 (by kernel_rfl) (by kernel_rfl) bo.ok (Nat.le_of_ble_eq_true (by kernel_rfl)) (bo.loops F (aR.tw F)) (Eq.trans (bo.eqX F (aR.tw F) aa ab ai av e_ aJ H) h)
theorem bo.mk_T {F:Nat} {args:List AV} {H:Hp} {v:AV} {H':Hp} (h:bo.mk (bo.tw F) args H = some (v,H')):Go.AE.T Try.prog 35 args H v H':=by
 unfold bo.mk at h
 split at h
 ·exact bo.T h
 ·cases h
noncomputable def bE.twX (F:Nat) (aa:Int) (ab:Int) (ai:Int) (ay:Int) (aw:Int) (aJ:Int) (fa:Int) (fb:Int) (fc:Int) (fd:Int) (H:Hp):OA:=(Hp.new H [(.int .i64 aa),(.int .i64 ab),(.int .i64 ai),(.int .i64 ay),(.int .i64 aw)]).bind fun H11=>(Hp.new H11 [(.int .i64 aJ),(.int .i64 fa),(.int .i64 fb),(.int .i64 fc),(.int .i64 fd)]).bind fun H12=>(Hp.ldI H12 .i64 H.length 0).bind fun n13=>(Hp.ldI H12 .i64 H11.length 0).bind fun n14=>(bif (n13 != n14) then (some ((.bool false),H12)) else ((Hp.ldI H12 .i64 H.length 1).bind fun n15=>(Hp.ldI H12 .i64 H11.length 1).bind fun n16=>(bif (n15 != n16) then (some ((.bool false),H12)) else ((Hp.ldI H12 .i64 H.length 2).bind fun n17=>(Hp.ldI H12 .i64 H11.length 2).bind fun n18=>(bif (n17 != n18) then (some ((.bool false),H12)) else ((Hp.ldI H12 .i64 H.length 3).bind fun n19=>(Hp.ldI H12 .i64 H11.length 3).bind fun n20=>(bif (n19 != n20) then (some ((.bool false),H12)) else ((Hp.ldI H12 .i64 H.length 4).bind fun n21=>(Hp.ldI H12 .i64 H11.length 4).bind fun n22=>(bif (n21 != n22) then (some ((.bool false),H12)) else (some ((.bool true),H12)))))))))))
noncomputable def bE.tw (F:Nat) (aa:Int) (ab:Int) (ai:Int) (ay:Int) (aw:Int) (aJ:Int) (fa:Int) (fb:Int) (fc:Int) (fd:Int) (H:Hp):OA:=bE.twX F aa ab ai ay aw aJ fa fb fc fd H
noncomputable def bE.code:Go.Code:=(Try.f121.body).getD .skip
noncomputable def bE.lh (F:Nat) (p:Nat) (ks:List Nat) (n:Nat) (tm:Tm) (H:Hp):OA:=none
def bE.pn:Nat→List Nat:=fun i=>(([]:List (Nat×List Nat)).lookup i).getD []
def bE.tb:Nat→List (List Nat):=fun i=>(([]:List (Nat×List (List Nat))).lookup i).getD []
noncomputable def bE.mk (g:Int→Int→Int→Int→Int→Int→Int→Int→Int→Int→Hp→OA) (args:List AV) (H:Hp):OA:=match args with
 | [(.agg [(.int .i64 aa),(.int .i64 ab),(.int .i64 ai),(.int .i64 ay),(.int .i64 aw)]),(.agg [(.int .i64 aJ),(.int .i64 fa),(.int .i64 fb),(.int .i64 fc),(.int .i64 fd)])]=>g aa ab ai ay aw aJ fa fb fc fd H
 | _=>none
noncomputable def bE.cs (F:Nat):List (FuncId×(List AV→Hp→OA)):=[]
theorem bE.loops (F:Nat):LoopsOk tabs (mkOrc (bE.cs F)) bE.pn (bE.lh F) F [] 1 bE.code (fun tm H=>aresults tabs.ty H tm Try.f121.results.toList fun v=>some (v,H)) (fun _ _ _=>none) (fun tm H=>aresults tabs.ty H tm Try.f121.results.toList fun v=>some (v,H)):=by
 exact loops_none (by kernel_rfl)
theorem bE.eqX (F:Nat) (aa:Int) (ab:Int) (ai:Int) (ay:Int) (aw:Int) (aJ:Int) (fa:Int) (fb:Int) (fc:Int) (fd:Int) (H:Hp):aCode tabs (mkOrc (bE.cs F)) bE.pn (bE.lh F) F [] 1 bE.code (argTm [(.agg [(.int .i64 aa),(.int .i64 ab),(.int .i64 ai),(.int .i64 ay),(.int .i64 aw)]),(.agg [(.int .i64 aJ),(.int .i64 fa),(.int .i64 fb),(.int .i64 fc),(.int .i64 fd)])]) H (fun tm H=>aresults tabs.ty H tm Try.f121.results.toList fun v=>some (v,H)) (fun _ _ _=>none) (fun tm H=>aresults tabs.ty H tm Try.f121.results.toList fun v=>some (v,H)) = bE.twX F aa ab ai ay aw aJ fa fb fc fd H:=by kernel_rfl
theorem bE.cs_ok (F:Nat):∀ p ∈ bE.cs F,∀ args H v H',p.2 args H = some (v,H')→Go.AE.T Try.prog p.1 args H v H':=by
 intro p hp
 exact absurd (show p ∈ [] from hp) List.not_mem_nil
theorem bE.ok:codeOk bE.pn Try.f121.ntmps bE.tb bE.code = true:=by kernel_rfl
theorem bE.T {F:Nat} {aa:Int} {ab:Int} {ai:Int} {ay:Int} {aw:Int} {aJ:Int} {fa:Int} {fb:Int} {fc:Int} {fd:Int} {H:Hp} {v:AV} {H':Hp} (h:bE.tw F aa ab ai ay aw aJ fa fb fc fd H = some (v,H')):Go.AE.T Try.prog 121 [(.agg [(.int .i64 aa),(.int .i64 ab),(.int .i64 ai),(.int .i64 ay),(.int .i64 aw)]),(.agg [(.int .i64 aJ),(.int .i64 fa),(.int .i64 fb),(.int .i64 fc),(.int .i64 fd)])] H v H':=
 Go.AE.T.of (Y:=tabs) (C:=mkOrc (bE.cs F)) (PN:=bE.pn) (LH:=bE.lh F) (F:=F) (TB:=bE.tb) (fn:=Try.f121) (code:=bE.code) mixed tabs_ok (mkOrc_ok (bE.cs_ok F)) Try.func121 (by kernel_rfl) (by kernel_rfl) bE.ok (Nat.le_of_ble_eq_true (by kernel_rfl)) (bE.loops F) (Eq.trans (bE.eqX F aa ab ai ay aw aJ fa fb fc fd H) h)
theorem bE.mk_T {F:Nat} {args:List AV} {H:Hp} {v:AV} {H':Hp} (h:bE.mk (bE.tw F) args H = some (v,H')):Go.AE.T Try.prog 121 args H v H':=by
 unfold bE.mk at h
 split at h
 ·exact bE.T h
 ·cases h
noncomputable def aS.l29 (F:Nat) (dV:Int→Int→Int→Int→Int→Int→Int→Int→Int→Int→Hp→OA) :Nat→Sl→Sl→Int→Hp→OA
 | 0,_,_,_,_=>none
 | ft + 1,aX,aF,bT,H8=>(bif (decide (bT < (aX.n:Int))) then ((Sl.idx aX bT 5).bind fun p23=>(Hp.ldI H8 .i64 p23.1 p23.2).bind fun n24=>(Hp.ldI H8 .i64 p23.1 (p23.2 + 1)).bind fun n25=>(Hp.ldI H8 .i64 p23.1 (p23.2 + 2)).bind fun n26=>(Hp.ldI H8 .i64 p23.1 (p23.2 + 3)).bind fun n27=>(Hp.ldI H8 .i64 p23.1 (p23.2 + 4)).bind fun n28=>(Sl.idx aF bT 5).bind fun p29=>(Hp.ldI H8 .i64 p29.1 p29.2).bind fun n30=>(Hp.ldI H8 .i64 p29.1 (p29.2 + 1)).bind fun n31=>(Hp.ldI H8 .i64 p29.1 (p29.2 + 2)).bind fun n32=>(Hp.ldI H8 .i64 p29.1 (p29.2 + 3)).bind fun n33=>(Hp.ldI H8 .i64 p29.1 (p29.2 + 4)).bind fun n34=>(dV n24 n25 n26 n27 n28 n30 n31 n32 n33 n34 H8).bind fun r35=>((r35.1).asB).bind fun b36=>(bif (!b36) then (some ((.bool false),r35.2)) else (aS.l29 F dV ft aX aF (IntKind.i64.wrap (bT + 1)) r35.2))) else (some ((.bool true),H8)))
termination_by structural n=>n
noncomputable def aS.twX (F:Nat) (dV:Int→Int→Int→Int→Int→Int→Int→Int→Int→Int→Hp→OA) (aa:Sl) (ad:Sl) (H:Hp):OA:=(bif ((aa.n:Int) != (ad.n:Int)) then (some ((.bool false),H)) else (aS.l29 F dV F aa ad 0 H))
noncomputable def aS.tw (F:Nat) (aa:Sl) (ad:Sl) (H:Hp):OA:=aS.twX F (bE.tw F) aa ad H
noncomputable def aS.code:Go.Code:=(Try.f63.body).getD .skip
noncomputable def aS.lh29 (F:Nat) (dV:Int→Int→Int→Int→Int→Int→Int→Int→Int→Int→Hp→OA) (ks:List Nat) (n:Nat) (tm:Tm) (H:Hp):OA:=match ks,tm 0,tm 1,tm 5 with
 | [],(.sl aX),(.sl aF),(.int .i64 bT)=>aS.l29 F dV n aX aF bT H
 | _,_,_,_=>none
theorem aS.lh29_inv {F:Nat} {dV:Int→Int→Int→Int→Int→Int→Int→Int→Int→Int→Hp→OA} {ks:List Nat} {n:Nat} {tm:Tm} {H:Hp} {r:AV×Hp} (h:aS.lh29 F dV ks n tm H = some r):∃ aX:Sl,∃ aF:Sl,∃ bT:Int,ks = []∧tm 0 = (.sl aX)∧tm 1 = (.sl aF)∧tm 5 = (.int .i64 bT)∧aS.l29 F dV n aX aF bT H = some r:=by
 unfold aS.lh29 at h
 split at h
 ·exact ⟨_,_,_,rfl,by assumption,by assumption,by assumption,h⟩
 ·cases h
noncomputable def aS.lh (F:Nat) (dV:Int→Int→Int→Int→Int→Int→Int→Int→Int→Int→Hp→OA) (p:Nat) (ks:List Nat) (n:Nat) (tm:Tm) (H:Hp):OA:=bif p.beq 29 then aS.lh29 F dV ks n tm H else (none)
def aS.pn:Nat→List Nat:=fun i=>(([(6,[8])]:List (Nat×List Nat)).lookup i).getD []
def aS.tb:Nat→List (List Nat):=fun i=>(([(6,[[],[],[0,1],[0,1,2],[],[],[4,5],[4,5,6],[0,1,2,3,4,5,6,7],[0,1,2,3,4,5,6,7,8]])]:List (Nat×List (List Nat))).lookup i).getD []
noncomputable def aS.mk (g:Sl→Sl→Hp→OA) (args:List AV) (H:Hp):OA:=match args with
 | [(.sl aa),(.sl ad)]=>g aa ad H
 | _=>none
noncomputable def aS.cs (F:Nat) (dV:Int→Int→Int→Int→Int→Int→Int→Int→Int→Int→Hp→OA):List (FuncId×(List AV→Hp→OA)):=[(121,bE.mk dV)]
theorem aS.loops (F:Nat) (dV:Int→Int→Int→Int→Int→Int→Int→Int→Int→Int→Hp→OA):LoopsOk tabs (mkOrc (aS.cs F dV)) aS.pn (aS.lh F dV) F [] 1 aS.code (fun tm H=>aresults tabs.ty H tm Try.f63.results.toList fun v=>some (v,H)) (fun _ _ _=>none) (fun tm H=>aresults tabs.ty H tm Try.f63.results.toList fun v=>some (v,H)):=by
 refine LoopsOk.seq ?_ ?_
 ·exact loops_none (by kernel_rfl)
 ·refine LoopsOk.seq ?_ ?_
  ·exact loops_none (by kernel_rfl)
  ·refine LoopsOk.seq ?_ ?_
   ·refine LoopsOk.seq ?_ ?_
    ·exact loops_none (by kernel_rfl)
    ·refine LoopsOk.block ?_
     refine LoopsOk.loop (fun tm H=>?_) (fun k29 tm H r h0=>?_) (fun k29=>?_)
     ·refine none_of fun r h0=>?_
      obtain ⟨aX,aF,bT,hks,e0,e1,e5,h⟩:=aS.lh29_inv (show aS.lh29 F dV [] 0 tm H = some r from h0)
      cases h
     ·obtain ⟨aX,aF,bT,hks,e0,e1,e5,h⟩:=aS.lh29_inv (show aS.lh29 F dV [] (k29 + 1) tm H = some r from h0)
      have q0:(Tm.put tm 0 (.sl aX)) = tm:=by exact Tm.put_same e0
      have q1:(Tm.put (Tm.put tm 0 (.sl aX)) 1 (.sl aF)) = tm:=by rw [q0]; exact Tm.put_same e1
      have q2:(Tm.put (Tm.put (Tm.put tm 0 (.sl aX)) 1 (.sl aF)) 5 (.int .i64 bT)) = tm:=by rw [q1]; exact Tm.put_same e5
      rw [← q2]
      exact Eq.trans (by kernel_rfl) h
     ·exact loops_none (by kernel_rfl)
   ·exact loops_none (by kernel_rfl)
theorem aS.eqX (F:Nat) (dV:Int→Int→Int→Int→Int→Int→Int→Int→Int→Int→Hp→OA) (aa:Sl) (ad:Sl) (H:Hp):aCode tabs (mkOrc (aS.cs F dV)) aS.pn (aS.lh F dV) F [] 1 aS.code (argTm [(.sl aa),(.sl ad)]) H (fun tm H=>aresults tabs.ty H tm Try.f63.results.toList fun v=>some (v,H)) (fun _ _ _=>none) (fun tm H=>aresults tabs.ty H tm Try.f63.results.toList fun v=>some (v,H)) = aS.twX F dV aa ad H:=by kernel_rfl
theorem aS.cs_ok (F:Nat):∀ p ∈ aS.cs F (bE.tw F),∀ args H v H',p.2 args H = some (v,H')→Go.AE.T Try.prog p.1 args H v H':=by
 intro p hp
 simp only [aS.cs,List.mem_cons,List.not_mem_nil,or_false] at hp
 subst hp
 exact fun args H v H' h=>bE.mk_T h
theorem aS.ok:codeOk aS.pn Try.f63.ntmps aS.tb aS.code = true:=by kernel_rfl
end Go.Proofs.Ythfinhmkgdmelaa.AE
