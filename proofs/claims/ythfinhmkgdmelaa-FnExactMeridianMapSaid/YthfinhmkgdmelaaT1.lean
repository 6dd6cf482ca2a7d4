import Derived.Test.YthfinhmkgdmelaaTab1
import Derived.Test.YthfinhmkgdmelaaE2
set_option linter.unusedVariables false
set_option linter.unusedSimpArgs false
namespace Go.Proofs.Ythfinhmkgdmelaa.AE
open Go Go.AE Go.Proofs Go.RowKit Go.Maps
set_option linter.unusedVariables false
set_option maxHeartbeats 4000000
set_option maxRecDepth 100000
noncomputable def bA.twX (F:Nat) (aa:Sl) (ae:Int) (H:Hp):OA:=(bif (decide ((IntKind.i64.wrap (ae - (aa.n:Int))) < 0)) then (some ((.int .i64 (-1)),H)) else (some ((.int .i64 (IntKind.i64.wrap (ae - (aa.n:Int)))),H)))
noncomputable def bA.tw (F:Nat) (aa:Sl) (ae:Int) (H:Hp):OA:=bA.twX F aa ae H
noncomputable def bA.code:Go.Code:=(Try.f58.body).getD .skip
noncomputable def bA.lh (F:Nat) (p:Nat) (ks:List Nat) (n:Nat) (tm:Tm) (H:Hp):OA:=none
def bA.pn:Nat→List Nat:=fun i=>(([]:List (Nat×List Nat)).lookup i).getD []
def bA.tb:Nat→List (List Nat):=fun i=>(([]:List (Nat×List (List Nat))).lookup i).getD []
noncomputable def bA.mk (g:Sl→Int→Hp→OA) (args:List AV) (H:Hp):OA:=match args with
 | [(.sl aa),(.int .i64 ae)]=>g aa ae H
 | _=>none
noncomputable def bA.cs (F:Nat):List (FuncId×(List AV→Hp→OA)):=[]
theorem bA.loops (F:Nat):LoopsOk tabs (mkOrc (bA.cs F)) bA.pn (bA.lh F) F [] 1 bA.code (fun tm H=>aresults tabs.ty H tm Try.f58.results.toList fun v=>some (v,H)) (fun _ _ _=>none) (fun tm H=>aresults tabs.ty H tm Try.f58.results.toList fun v=>some (v,H)):=by
 exact loops_none (by kernel_rfl)
theorem bA.eqX (F:Nat) (aa:Sl) (ae:Int) (H:Hp):aCode tabs (mkOrc (bA.cs F)) bA.pn (bA.lh F) F [] 1 bA.code (argTm [(.sl aa),(.int .i64 ae)]) H (fun tm H=>aresults tabs.ty H tm Try.f58.results.toList fun v=>some (v,H)) (fun _ _ _=>none) (fun tm H=>aresults tabs.ty H tm Try.f58.results.toList fun v=>some (v,H)) = bA.twX F aa ae H:=by kernel_rfl
theorem bA.cs_ok (F:Nat):∀ p ∈ bA.cs F,∀ args H v H',p.2 args H = some (v,H')→Go.AE.T Try.prog p.1 args H v H':=by
 intro p hp
 exact absurd (show p ∈ [] from hp) List.not_mem_nil
theorem bA.ok:codeOk bA.pn Try.f58.ntmps bA.tb bA.code = true:=by kernel_rfl
theorem bA.T {F:Nat} {aa:Sl} {ae:Int} {H:Hp} {v:AV} {H':Hp} (h:bA.tw F aa ae H = some (v,H')):Go.AE.T Try.prog 58 [(.sl aa),(.int .i64 ae)] H v H':=
 Go.AE.T.of (Y:=tabs) (C:=mkOrc (bA.cs F)) (PN:=bA.pn) (LH:=bA.lh F) (F:=F) (TB:=bA.tb) (fn:=Try.f58) (code:=bA.code) mixed tabs_ok (mkOrc_ok (bA.cs_ok F)) Try.func58 (by kernel_rfl) (by kernel_rfl) bA.ok (Nat.le_of_ble_eq_true (by kernel_rfl)) (bA.loops F) (Eq.trans (bA.eqX F aa ae H) h)
theorem bA.mk_T {F:Nat} {args:List AV} {H:Hp} {v:AV} {H':Hp} (h:bA.mk (bA.tw F) args H = some (v,H')):Go.AE.T Try.prog 58 args H v H':=by
 unfold bA.mk at h
 split at h
 ·exact bA.T h
 ·cases h
noncomputable def bv.twX (F:Nat) (iF:Sl→Int→Hp→OA) (aa:Sl) (ab:Int) (af:Int) (H:Hp):OA:=(Hp.new H [(.sl aa),(.int .i64 ab)]).bind fun H4=>(Hp.ldSl H4 H.length 0).bind fun s5=>(iF s5 af H4).bind fun r6=>((r6.1).asI .i64).bind fun n7=>(bif (decide (n7 < 0)) then (some ((.int .i64 (-1)),r6.2)) else (some ((.int .i64 n7),r6.2)))
noncomputable def bv.tw (F:Nat) (aa:Sl) (ab:Int) (af:Int) (H:Hp):OA:=bv.twX F (bA.tw F) aa ab af H
noncomputable def bv.code:Go.Code:=(Try.f15.body).getD .skip
noncomputable def bv.lh (F:Nat) (iF:Sl→Int→Hp→OA) (p:Nat) (ks:List Nat) (n:Nat) (tm:Tm) (H:Hp):OA:=none
def bv.pn:Nat→List Nat:=fun i=>(([]:List (Nat×List Nat)).lookup i).getD []
def bv.tb:Nat→List (List Nat):=fun i=>(([]:List (Nat×List (List Nat))).lookup i).getD []
noncomputable def bv.mk (g:Sl→Int→Int→Hp→OA) (args:List AV) (H:Hp):OA:=match args with
 | [(.agg [(.sl aa),(.int .i64 ab)]),(.int .i64 af)]=>g aa ab af H
 | _=>none
noncomputable def bv.cs (F:Nat) (iF:Sl→Int→Hp→OA):List (FuncId×(List AV→Hp→OA)):=[(58,bA.mk iF)]
theorem bv.loops (F:Nat) (iF:Sl→Int→Hp→OA):LoopsOk tabs (mkOrc (bv.cs F iF)) bv.pn (bv.lh F iF) F [] 1 bv.code (fun tm H=>aresults tabs.ty H tm Try.f15.results.toList fun v=>some (v,H)) (fun _ _ _=>none) (fun tm H=>aresults tabs.ty H tm Try.f15.results.toList fun v=>some (v,H)):=by
 exact loops_none (by kernel_rfl)
theorem bv.eqX (F:Nat) (iF:Sl→Int→Hp→OA) (aa:Sl) (ab:Int) (af:Int) (H:Hp):aCode tabs (mkOrc (bv.cs F iF)) bv.pn (bv.lh F iF) F [] 1 bv.code (argTm [(.agg [(.sl aa),(.int .i64 ab)]),(.int .i64 af)]) H (fun tm H=>aresults tabs.ty H tm Try.f15.results.toList fun v=>some (v,H)) (fun _ _ _=>none) (fun tm H=>aresults tabs.ty H tm Try.f15.results.toList fun v=>some (v,H)) = bv.twX F iF aa ab af H:=by kernel_rfl
theorem bv.cs_ok (F:Nat):∀ p ∈ bv.cs F (bA.tw F),∀ args H v H',p.2 args H = some (v,H')→Go.AE.T Try.prog p.1 args H v H':=by
 intro p hp
 simp only [bv.cs,List.mem_cons,List.not_mem_nil,or_false] at hp
 subst hp
 exact fun args H v H' h=>bA.mk_T h
theorem bv.ok:codeOk bv.pn Try.f15.ntmps bv.tb bv.code = true:=by kernel_rfl
theorem bv.T {F:Nat} {aa:Sl} {ab:Int} {af:Int} {H:Hp} {v:AV} {H':Hp} (h:bv.tw F aa ab af H = some (v,H')):Go.AE.T Try.prog 15 [(.agg [(.sl aa),(.int .i64 ab)]),(.int .i64 af)] H v H':=
 Go.AE.T.of (Y:=tabs) (C:=mkOrc (bv.cs F (bA.tw F))) (PN:=bv.pn) (LH:=bv.lh F (bA.tw F)) (F:=F) (TB:=bv.tb) (fn:=Try.f15) (code:=bv.code) mixed tabs_ok (mkOrc_ok (bv.cs_ok F)) Try.func15 (by kernel_rfl) (by kernel_rfl) bv.ok (Nat.le_of_ble_eq_true (by kernel_rfl)) (bv.loops F (bA.tw F)) (Eq.trans (bv.eqX F (bA.tw F) aa ab af H) h)
theorem bv.mk_T {F:Nat} {args:List AV} {H:Hp} {v:AV} {H':Hp} (h:bv.mk (bv.tw F) args H = some (v,H')):Go.AE.T Try.prog 15 args H v H':=by
 unfold bv.mk at h
 split at h
 ·exact bv.T h
 ·cases h
noncomputable def bB.twX (F:Nat) (aa:Int) (ab:Int) (aC:Int) (aD:Int) (aA:Int) (H:Hp):OA:=(Hp.new H [(.int .i64 aa),(.int .i64 ab),(.int .i64 aC),(.int .i64 aD),(.int .i64 aA)]).bind fun H6=>(Hp.new H6 [.int .i64 0,.int .i64 0,.int .i64 0,.int .i64 0,.int .i64 0]).bind fun H7=>(Hp.new H7 [.int .i64 0,.int .i64 0,.int .i64 0,.int .i64 0,.int .i64 0]).bind fun H8=>(Hp.ldI H8 .i64 H.length 0).bind fun n9=>(Hp.st H8 H7.length 0 (.int .i64 n9)).bind fun H10=>(Hp.ldI H10 .i64 H.length 1).bind fun n11=>(Hp.st H10 H7.length 1 (.int .i64 n11)).bind fun H12=>(Hp.ldI H12 .i64 H.length 2).bind fun n13=>(Hp.st H12 H7.length 2 (.int .i64 n13)).bind fun H14=>(Hp.ldI H14 .i64 H.length 3).bind fun n15=>(Hp.st H14 H7.length 3 (.int .i64 n15)).bind fun H16=>(Hp.ldI H16 .i64 H.length 4).bind fun n17=>(Hp.st H16 H7.length 4 (.int .i64 n17)).bind fun H18=>(Hp.ldI H18 .i64 H7.length 0).bind fun n19=>(Hp.ldI H18 .i64 H7.length (0 + 1)).bind fun n20=>(Hp.ldI H18 .i64 H7.length (0 + 2)).bind fun n21=>(Hp.ldI H18 .i64 H7.length (0 + 3)).bind fun n22=>(Hp.ldI H18 .i64 H7.length (0 + 4)).bind fun n23=>(Hp.st H18 H6.length 0 (.int .i64 n19)).bind fun H24=>(Hp.st H24 H6.length (0 + 1) (.int .i64 n20)).bind fun H25=>(Hp.st H25 H6.length (0 + 1 + 1) (.int .i64 n21)).bind fun H26=>(Hp.st H26 H6.length (0 + 1 + 1 + 1) (.int .i64 n22)).bind fun H27=>(Hp.st H27 H6.length (0 + 1 + 1 + 1 + 1) (.int .i64 n23)).bind fun H28=>(Hp.ldI H28 .i64 H6.length 0).bind fun n29=>(Hp.ldI H28 .i64 H6.length (0 + 1)).bind fun n30=>(Hp.ldI H28 .i64 H6.length (0 + 2)).bind fun n31=>(Hp.ldI H28 .i64 H6.length (0 + 3)).bind fun n32=>(Hp.ldI H28 .i64 H6.length (0 + 4)).bind fun n33=>some ((.agg [(.int .i64 n29),(.int .i64 n30),(.int .i64 n31),(.int .i64 n32),(.int .i64 n33)]),H28)
noncomputable def bB.tw (F:Nat) (aa:Int) (ab:Int) (aC:Int) (aD:Int) (aA:Int) (H:Hp):OA:=bB.twX F aa ab aC aD aA H
noncomputable def bB.code:Go.Code:=(Try.f115.body).getD .skip
noncomputable def bB.lh (F:Nat) (p:Nat) (ks:List Nat) (n:Nat) (tm:Tm) (H:Hp):OA:=none
def bB.pn:Nat→List Nat:=fun i=>(([]:List (Nat×List Nat)).lookup i).getD []
def bB.tb:Nat→List (List Nat):=fun i=>(([]:List (Nat×List (List Nat))).lookup i).getD []
noncomputable def bB.mk (g:Int→Int→Int→Int→Int→Hp→OA) (args:List AV) (H:Hp):OA:=match args with
 | [(.agg [(.int .i64 aa),(.int .i64 ab),(.int .i64 aC),(.int .i64 aD),(.int .i64 aA)])]=>g aa ab aC aD aA H
 | _=>none
noncomputable def bB.cs (F:Nat):List (FuncId×(List AV→Hp→OA)):=[]
theorem bB.loops (F:Nat):LoopsOk tabs (mkOrc (bB.cs F)) bB.pn (bB.lh F) F [] 1 bB.code (fun tm H=>aresults tabs.ty H tm Try.f115.results.toList fun v=>some (v,H)) (fun _ _ _=>none) (fun tm H=>aresults tabs.ty H tm Try.f115.results.toList fun v=>some (v,H)):=by
 exact loops_none (by kernel_rfl)
theorem bB.eqX (F:Nat) (aa:Int) (ab:Int) (aC:Int) (aD:Int) (aA:Int) (H:Hp):aCode tabs (mkOrc (bB.cs F)) bB.pn (bB.lh F) F [] 1 bB.code (argTm [(.agg [(.int .i64 aa),(.int .i64 ab),(.int .i64 aC),(.int .i64 aD),(.int .i64 aA)])]) H (fun tm H=>aresults tabs.ty H tm Try.f115.results.toList fun v=>some (v,H)) (fun _ _ _=>none) (fun tm H=>aresults tabs.ty H tm Try.f115.results.toList fun v=>some (v,H)) = bB.twX F aa ab aC aD aA H:=by kernel_rfl
theorem bB.cs_ok (F:Nat):∀ p ∈ bB.cs F,∀ args H v H',p.2 args H = some (v,H')→Go.AE.T Try.prog p.1 args H v H':=by
 intro p hp
 exact absurd (show p ∈ [] from hp) List.not_mem_nil
theorem bB.ok:codeOk bB.pn Try.f115.ntmps bB.tb bB.code = true:=by kernel_rfl
theorem bB.T {F:Nat} {aa:Int} {ab:Int} {aC:Int} {aD:Int} {aA:Int} {H:Hp} {v:AV} {H':Hp} (h:bB.tw F aa ab aC aD aA H = some (v,H')):Go.AE.T Try.prog 115 [(.agg [(.int .i64 aa),(.int .i64 ab),(.int .i64 aC),(.int .i64 aD),(.int .i64 aA)])] H v H':=
 Go.AE.T.of (Y:=tabs) (C:=mkOrc (bB.cs F)) (PN:=bB.pn) (LH:=bB.lh F) (F:=F) (TB:=bB.tb) (fn:=Try.f115) (code:=bB.code) mixed tabs_ok (mkOrc_ok (bB.cs_ok F)) Try.func115 (by kernel_rfl) (by kernel_rfl) bB.ok (Nat.le_of_ble_eq_true (by kernel_rfl)) (bB.loops F) (Eq.trans (bB.eqX F aa ab aC aD aA H) h)
theorem bB.mk_T {F:Nat} {args:List AV} {H:Hp} {v:AV} {H':Hp} (h:bB.mk (bB.tw F) args H = some (v,H')):Go.AE.T Try.prog 115 args H v H':=by
 unfold bB.mk at h
 split at h
 ·exact bB.T h
 ·cases h
noncomputable def aS.l29 (F:Nat) (dY:Int→Int→Int→Int→Int→Hp→OA) :Nat→Sl→Sl→Int→Hp→OA
 | 0,_,_,_,_=>none
 | dr + 1,a_,ig,dZ,H7=>(bif (decide (dZ < (a_.n:Int))) then ((Sl.idx a_ dZ 5).bind fun p32=>(Hp.ldI H7 .i64 p32.1 p32.2).bind fun n33=>(Hp.ldI H7 .i64 p32.1 (p32.2 + 1)).bind fun n34=>(Hp.ldI H7 .i64 p32.1 (p32.2 + 2)).bind fun n35=>(Hp.ldI H7 .i64 p32.1 (p32.2 + 3)).bind fun n36=>(Hp.ldI H7 .i64 p32.1 (p32.2 + 4)).bind fun n37=>(dY n33 n34 n35 n36 n37 H7).bind fun r38=>((r38.1).asAgg 5).bind fun l39=>(l39[0]?).bind fun v40=>((v40).asI .i64).bind fun n41=>(l39[1]?).bind fun v42=>((v42).asI .i64).bind fun n43=>(l39[2]?).bind fun v44=>((v44).asI .i64).bind fun n45=>(l39[3]?).bind fun v46=>((v46).asI .i64).bind fun n47=>(l39[4]?).bind fun v48=>((v48).asI .i64).bind fun n49=>(Sl.idx ig dZ 5).bind fun p50=>(Hp.st r38.2 p50.1 p50.2 (.int .i64 n41)).bind fun H51=>(Hp.st H51 p50.1 (p50.2 + 1) (.int .i64 n43)).bind fun H52=>(Hp.st H52 p50.1 (p50.2 + 1 + 1) (.int .i64 n45)).bind fun H53=>(Hp.st H53 p50.1 (p50.2 + 1 + 1 + 1) (.int .i64 n47)).bind fun H54=>(Hp.st H54 p50.1 (p50.2 + 1 + 1 + 1 + 1) (.int .i64 n49)).bind fun H55=>aS.l29 F dY dr a_ ig (IntKind.i64.wrap (dZ + 1)) H55) else (some ((.sl ig),H7)))
termination_by structural n=>n
noncomputable def aS.twX (F:Nat) (dY:Int→Int→Int→Int→Int→Hp→OA) (aa:Sl) (H:Hp):OA:=(Hp.mk H [.int .i64 0,.int .i64 0,.int .i64 0,.int .i64 0,.int .i64 0] 40 (aa.n:Int) (aa.n:Int)).bind fun m2=>aS.l29 F dY F aa m2.1 0 m2.2
noncomputable def aS.tw (F:Nat) (aa:Sl) (H:Hp):OA:=aS.twX F (bB.tw F) aa H
noncomputable def aS.code:Go.Code:=(Try.f60.body).getD .skip
noncomputable def aS.lh29 (F:Nat) (dY:Int→Int→Int→Int→Int→Hp→OA) (ks:List Nat) (n:Nat) (tm:Tm) (H:Hp):OA:=match ks,tm 0,tm 3,tm 4 with
 | [],(.sl a_),(.sl ig),(.int .i64 dZ)=>aS.l29 F dY n a_ ig dZ H
 | _,_,_,_=>none
theorem aS.lh29_inv {F:Nat} {dY:Int→Int→Int→Int→Int→Hp→OA} {ks:List Nat} {n:Nat} {tm:Tm} {H:Hp} {r:AV×Hp} (h:aS.lh29 F dY ks n tm H = some r):∃ a_:Sl,∃ ig:Sl,∃ dZ:Int,ks = []∧tm 0 = (.sl a_)∧tm 3 = (.sl ig)∧tm 4 = (.int .i64 dZ)∧aS.l29 F dY n a_ ig dZ H = some r:=by
 unfold aS.lh29 at h
 split at h
 ·exact ⟨_,_,_,rfl,by assumption,by assumption,by assumption,h⟩
 ·cases h
noncomputable def aS.lh (F:Nat) (dY:Int→Int→Int→Int→Int→Hp→OA) (p:Nat) (ks:List Nat) (n:Nat) (tm:Tm) (H:Hp):OA:=bif p.beq 29 then aS.lh29 F dY ks n tm H else (none)
def aS.pn:Nat→List Nat:=fun i=>(([]:List (Nat×List Nat)).lookup i).getD []
def aS.tb:Nat→List (List Nat):=fun i=>(([]:List (Nat×List (List Nat))).lookup i).getD []
noncomputable def aS.mk (g:Sl→Hp→OA) (args:List AV) (H:Hp):OA:=match args with
 | [(.sl aa)]=>g aa H
 | _=>none
noncomputable def aS.cs (F:Nat) (dY:Int→Int→Int→Int→Int→Hp→OA):List (FuncId×(List AV→Hp→OA)):=[(115,bB.mk dY)]
theorem aS.loops (F:Nat) (dY:Int→Int→Int→Int→Int→Hp→OA):LoopsOk tabs (mkOrc (aS.cs F dY)) aS.pn (aS.lh F dY) F [] 1 aS.code (fun tm H=>aresults tabs.ty H tm Try.f60.results.toList fun v=>some (v,H)) (fun _ _ _=>none) (fun tm H=>aresults tabs.ty H tm Try.f60.results.toList fun v=>some (v,H)):=by
 refine LoopsOk.seq ?_ ?_
 ·exact loops_none (by kernel_rfl)
 ·refine LoopsOk.seq ?_ ?_
  ·exact loops_none (by kernel_rfl)
  ·refine LoopsOk.seq ?_ ?_
   ·refine LoopsOk.seq ?_ ?_
    ·exact loops_none (by kernel_rfl)
    ·refine LoopsOk.block ?_
     refine LoopsOk.loop (fun tm H=>?_) (fun k29 tm H r h0=>?_) (fun k29=>?_)
     ·refine none_of fun r h0=>?_
      obtain ⟨a_,ig,dZ,hks,e0,e3,e4,h⟩:=aS.lh29_inv (show aS.lh29 F dY [] 0 tm H = some r from h0)
      cases h
     ·obtain ⟨a_,ig,dZ,hks,e0,e3,e4,h⟩:=aS.lh29_inv (show aS.lh29 F dY [] (k29 + 1) tm H = some r from h0)
      have q0:(Tm.put tm 0 (.sl a_)) = tm:=by exact Tm.put_same e0
      have q1:(Tm.put (Tm.put tm 0 (.sl a_)) 3 (.sl ig)) = tm:=by rw [q0]; exact Tm.put_same e3
      have q2:(Tm.put (Tm.put (Tm.put tm 0 (.sl a_)) 3 (.sl ig)) 4 (.int .i64 dZ)) = tm:=by rw [q1]; exact Tm.put_same e4
      rw [← q2]
      exact Eq.trans (by kernel_rfl) h
     ·exact loops_none (by kernel_rfl)
   ·exact loops_none (by kernel_rfl)
theorem aS.eqX (F:Nat) (dY:Int→Int→Int→Int→Int→Hp→OA) (aa:Sl) (H:Hp):aCode tabs (mkOrc (aS.cs F dY)) aS.pn (aS.lh F dY) F [] 1 aS.code (argTm [(.sl aa)]) H (fun tm H=>aresults tabs.ty H tm Try.f60.results.toList fun v=>some (v,H)) (fun _ _ _=>none) (fun tm H=>aresults tabs.ty H tm Try.f60.results.toList fun v=>some (v,H)) = aS.twX F dY aa H:=by kernel_rfl
theorem aS.cs_ok (F:Nat):∀ p ∈ aS.cs F (bB.tw F),∀ args H v H',p.2 args H = some (v,H')→Go.AE.T Try.prog p.1 args H v H':=by
 intro p hp
 simp only [aS.cs,List.mem_cons,List.not_mem_nil,or_false] at hp
 subst hp
 exact fun args H v H' h=>bB.mk_T h
theorem aS.ok:codeOk aS.pn Try.f60.ntmps aS.tb aS.code = true:=by kernel_rfl
theorem aS.T {F:Nat} {aa:Sl} {H:Hp} {v:AV} {H':Hp} (h:aS.tw F aa H = some (v,H')):Go.AE.T Try.prog 60 [(.sl aa)] H v H':=
 Go.AE.T.of (Y:=tabs) (C:=mkOrc (aS.cs F (bB.tw F))) (PN:=aS.pn) (LH:=aS.lh F (bB.tw F)) (F:=F) (TB:=aS.tb) (fn:=Try.f60) (code:=aS.code) mixed tabs_ok (mkOrc_ok (aS.cs_ok F)) Try.func60 (by kernel_rfl) (by kernel_rfl) aS.ok (Nat.le_of_ble_eq_true (by kernel_rfl)) (aS.loops F (bB.tw F)) (Eq.trans (aS.eqX F (bB.tw F) aa H) h)
theorem aS.mk_T {F:Nat} {args:List AV} {H:Hp} {v:AV} {H':Hp} (h:aS.mk (aS.tw F) args H = some (v,H')):Go.AE.T Try.prog 60 args H v H':=by
 unfold aS.mk at h
 split at h
 ·exact aS.T h
 ·cases h
noncomputable def bp.twX (F:Nat) (iG:Sl→Hp→OA) (aa:Sl) (ab:Int) (H:Hp):OA:=(Hp.new H [(.sl aa),(.int .i64 ab)]).bind fun H3=>(Hp.new H3 [.sl ⟨none,0,.ex 0⟩,.int .i64 0]).bind fun H4=>(Hp.new H4 [.sl ⟨none,0,.ex 0⟩,.int .i64 0]).bind fun H5=>(Hp.ldSl H5 H.length 0).bind fun s6=>(iG s6 H5).bind fun r7=>((r7.1).asSl).bind fun s8=>(Hp.st r7.2 H4.length 0 (.sl s8)).bind fun H9=>(Hp.ldI H9 .i64 H.length 1).bind fun n10=>(Hp.st H9 H4.length 1 (.int .i64 n10)).bind fun H11=>(Hp.ldSl H11 H4.length 0).bind fun s12=>(Hp.ldI H11 .i64 H4.length (0 + 1)).bind fun n13=>(Hp.st H11 H3.length 0 (.sl s12)).bind fun H14=>(Hp.st H14 H3.length (0 + 1) (.int .i64 n13)).bind fun H15=>(Hp.ldSl H15 H3.length 0).bind fun s16=>(Hp.ldI H15 .i64 H3.length (0 + 1)).bind fun n17=>some ((.agg [(.sl s16),(.int .i64 n17)]),H15)
noncomputable def bp.tw (F:Nat) (aa:Sl) (ab:Int) (H:Hp):OA:=bp.twX F (aS.tw F) aa ab H
noncomputable def bp.code:Go.Code:=(Try.f17.body).getD .skip
noncomputable def bp.lh (F:Nat) (iG:Sl→Hp→OA) (p:Nat) (ks:List Nat) (n:Nat) (tm:Tm) (H:Hp):OA:=none
def bp.pn:Nat→List Nat:=fun i=>(([]:List (Nat×List Nat)).lookup i).getD []
def bp.tb:Nat→List (List Nat):=fun i=>(([]:List (Nat×List (List Nat))).lookup i).getD []
noncomputable def bp.mk (g:Sl→Int→Hp→OA) (args:List AV) (H:Hp):OA:=match args with
 | [(.agg [(.sl aa),(.int .i64 ab)])]=>g aa ab H
 | _=>none
noncomputable def bp.cs (F:Nat) (iG:Sl→Hp→OA):List (FuncId×(List AV→Hp→OA)):=[(60,aS.mk iG)]
theorem bp.loops (F:Nat) (iG:Sl→Hp→OA):LoopsOk tabs (mkOrc (bp.cs F iG)) bp.pn (bp.lh F iG) F [] 1 bp.code (fun tm H=>aresults tabs.ty H tm Try.f17.results.toList fun v=>some (v,H)) (fun _ _ _=>none) (fun tm H=>aresults tabs.ty H tm Try.f17.results.toList fun v=>some (v,H)):=by
 exact loops_none (by kernel_rfl)
theorem bp.eqX (F:Nat) (iG:Sl→Hp→OA) (aa:Sl) (ab:Int) (H:Hp):aCode tabs (mkOrc (bp.cs F iG)) bp.pn (bp.lh F iG) F [] 1 bp.code (argTm [(.agg [(.sl aa),(.int .i64 ab)])]) H (fun tm H=>aresults tabs.ty H tm Try.f17.results.toList fun v=>some (v,H)) (fun _ _ _=>none) (fun tm H=>aresults tabs.ty H tm Try.f17.results.toList fun v=>some (v,H)) = bp.twX F iG aa ab H:=by kernel_rfl
theorem bp.cs_ok (F:Nat):∀ p ∈ bp.cs F (aS.tw F),∀ args H v H',p.2 args H = some (v,H')→Go.AE.T Try.prog p.1 args H v H':=by
 intro p hp
 simp only [bp.cs,List.mem_cons,List.not_mem_nil,or_false] at hp
 subst hp
 exact fun args H v H' h=>aS.mk_T h
theorem bp.ok:codeOk bp.pn Try.f17.ntmps bp.tb bp.code = true:=by kernel_rfl
theorem bp.T {F:Nat} {aa:Sl} {ab:Int} {H:Hp} {v:AV} {H':Hp} (h:bp.tw F aa ab H = some (v,H')):Go.AE.T Try.prog 17 [(.agg [(.sl aa),(.int .i64 ab)])] H v H':=
 Go.AE.T.of (Y:=tabs) (C:=mkOrc (bp.cs F (aS.tw F))) (PN:=bp.pn) (LH:=bp.lh F (aS.tw F)) (F:=F) (TB:=bp.tb) (fn:=Try.f17) (code:=bp.code) mixed tabs_ok (mkOrc_ok (bp.cs_ok F)) Try.func17 (by kernel_rfl) (by kernel_rfl) bp.ok (Nat.le_of_ble_eq_true (by kernel_rfl)) (bp.loops F (aS.tw F)) (Eq.trans (bp.eqX F (aS.tw F) aa ab H) h)
theorem bp.mk_T {F:Nat} {args:List AV} {H:Hp} {v:AV} {H':Hp} (h:bp.mk (bp.tw F) args H = some (v,H')):Go.AE.T Try.prog 17 args H v H':=by
 unfold bp.mk at h
 split at h
 ·exact bp.T h
 ·cases h
noncomputable def aX.twX (F:Nat) (aa:Int) (ae:Int) (bM:Int) (H:Hp):OA:=(bif (decide (aa ≥ ae)) then (some ((.bool (decide (aa ≤ bM))),H)) else (some ((.bool false),H)))
noncomputable def aX.tw (F:Nat) (aa:Int) (ae:Int) (bM:Int) (H:Hp):OA:=aX.twX F aa ae bM H
noncomputable def aX.code:Go.Code:=(Try.f65.body).getD .skip
noncomputable def aX.lh (F:Nat) (p:Nat) (ks:List Nat) (n:Nat) (tm:Tm) (H:Hp):OA:=none
def aX.pn:Nat→List Nat:=fun i=>(([]:List (Nat×List Nat)).lookup i).getD []
def aX.tb:Nat→List (List Nat):=fun i=>(([]:List (Nat×List (List Nat))).lookup i).getD []
noncomputable def aX.mk (g:Int→Int→Int→Hp→OA) (args:List AV) (H:Hp):OA:=match args with
 | [(.int .i64 aa),(.int .i64 ae),(.int .i64 bM)]=>g aa ae bM H
 | _=>none
noncomputable def aX.cs (F:Nat):List (FuncId×(List AV→Hp→OA)):=[]
theorem aX.loops (F:Nat):LoopsOk tabs (mkOrc (aX.cs F)) aX.pn (aX.lh F) F [] 1 aX.code (fun tm H=>aresults tabs.ty H tm Try.f65.results.toList fun v=>some (v,H)) (fun _ _ _=>none) (fun tm H=>aresults tabs.ty H tm Try.f65.results.toList fun v=>some (v,H)):=by
 exact loops_none (by kernel_rfl)
theorem aX.eqX (F:Nat) (aa:Int) (ae:Int) (bM:Int) (H:Hp):aCode tabs (mkOrc (aX.cs F)) aX.pn (aX.lh F) F [] 1 aX.code (argTm [(.int .i64 aa),(.int .i64 ae),(.int .i64 bM)]) H (fun tm H=>aresults tabs.ty H tm Try.f65.results.toList fun v=>some (v,H)) (fun _ _ _=>none) (fun tm H=>aresults tabs.ty H tm Try.f65.results.toList fun v=>some (v,H)) = aX.twX F aa ae bM H:=by kernel_rfl
theorem aX.cs_ok (F:Nat):∀ p ∈ aX.cs F,∀ args H v H',p.2 args H = some (v,H')→Go.AE.T Try.prog p.1 args H v H':=by
 intro p hp
 exact absurd (show p ∈ [] from hp) List.not_mem_nil
theorem aX.ok:codeOk aX.pn Try.f65.ntmps aX.tb aX.code = true:=by kernel_rfl
theorem aX.T {F:Nat} {aa:Int} {ae:Int} {bM:Int} {H:Hp} {v:AV} {H':Hp} (h:aX.tw F aa ae bM H = some (v,H')):Go.AE.T Try.prog 65 [(.int .i64 aa),(.int .i64 ae),(.int .i64 bM)] H v H':=
 Go.AE.T.of (Y:=tabs) (C:=mkOrc (aX.cs F)) (PN:=aX.pn) (LH:=aX.lh F) (F:=F) (TB:=aX.tb) (fn:=Try.f65) (code:=aX.code) mixed tabs_ok (mkOrc_ok (aX.cs_ok F)) Try.func65 (by kernel_rfl) (by kernel_rfl) aX.ok (Nat.le_of_ble_eq_true (by kernel_rfl)) (aX.loops F) (Eq.trans (aX.eqX F aa ae bM H) h)
theorem aX.mk_T {F:Nat} {args:List AV} {H:Hp} {v:AV} {H':Hp} (h:aX.mk (aX.tw F) args H = some (v,H')):Go.AE.T Try.prog 65 args H v H':=by
 unfold aX.mk at h
 split at h
 ·exact aX.T h
 ·cases h
noncomputable def aM.twX (F:Nat) (aa:Int) (ab:Int) (aC:Int) (aD:Int) (aA:Int) (bh:Int) (H:Hp):OA:=(Hp.new H [(.int .i64 aa),(.int .i64 ab),(.int .i64 aC),(.int .i64 aD),(.int .i64 aA)]).bind fun H7=>(Hp.ldI H7 .i64 H.length 0).bind fun n8=>(Hp.ldI H7 .i64 H.length 1).bind fun n9=>(Hp.ldI H7 .i64 H.length 2).bind fun n10=>(Hp.ldI H7 .i64 H.length 3).bind fun n11=>(Hp.new H7 [(.int .i64 n8),(.int .i64 n9),(.int .i64 n10),(.int .i64 n11)]).bind fun H12=>(Sl.idx (⟨some (H7.length,0),4,.ex 4⟩:Sl) bh 1).bind fun p13=>(Hp.ldI H12 .i64 p13.1 p13.2).bind fun n14=>some ((.int .i64 n14),H12)
noncomputable def aM.tw (F:Nat) (aa:Int) (ab:Int) (aC:Int) (aD:Int) (aA:Int) (bh:Int) (H:Hp):OA:=aM.twX F aa ab aC aD aA bh H
noncomputable def aM.code:Go.Code:=(Try.f140.body).getD .skip
noncomputable def aM.lh (F:Nat) (p:Nat) (ks:List Nat) (n:Nat) (tm:Tm) (H:Hp):OA:=none
def aM.pn:Nat→List Nat:=fun i=>(([]:List (Nat×List Nat)).lookup i).getD []
def aM.tb:Nat→List (List Nat):=fun i=>(([]:List (Nat×List (List Nat))).lookup i).getD []
noncomputable def aM.mk (g:Int→Int→Int→Int→Int→Int→Hp→OA) (args:List AV) (H:Hp):OA:=match args with
 | [(.agg [(.int .i64 aa),(.int .i64 ab),(.int .i64 aC),(.int .i64 aD),(.int .i64 aA)]),(.int .i64 bh)]=>g aa ab aC aD aA bh H
 | _=>none
noncomputable def aM.cs (F:Nat):List (FuncId×(List AV→Hp→OA)):=[]
theorem aM.loops (F:Nat):LoopsOk tabs (mkOrc (aM.cs F)) aM.pn (aM.lh F) F [] 1 aM.code (fun tm H=>aresults tabs.ty H tm Try.f140.results.toList fun v=>some (v,H)) (fun _ _ _=>none) (fun tm H=>aresults tabs.ty H tm Try.f140.results.toList fun v=>some (v,H)):=by
 exact loops_none (by kernel_rfl)
theorem aM.eqX (F:Nat) (aa:Int) (ab:Int) (aC:Int) (aD:Int) (aA:Int) (bh:Int) (H:Hp):aCode tabs (mkOrc (aM.cs F)) aM.pn (aM.lh F) F [] 1 aM.code (argTm [(.agg [(.int .i64 aa),(.int .i64 ab),(.int .i64 aC),(.int .i64 aD),(.int .i64 aA)]),(.int .i64 bh)]) H (fun tm H=>aresults tabs.ty H tm Try.f140.results.toList fun v=>some (v,H)) (fun _ _ _=>none) (fun tm H=>aresults tabs.ty H tm Try.f140.results.toList fun v=>some (v,H)) = aM.twX F aa ab aC aD aA bh H:=by kernel_rfl
theorem aM.cs_ok (F:Nat):∀ p ∈ aM.cs F,∀ args H v H',p.2 args H = some (v,H')→Go.AE.T Try.prog p.1 args H v H':=by
 intro p hp
 exact absurd (show p ∈ [] from hp) List.not_mem_nil
theorem aM.ok:codeOk aM.pn Try.f140.ntmps aM.tb aM.code = true:=by kernel_rfl
theorem aM.T {F:Nat} {aa:Int} {ab:Int} {aC:Int} {aD:Int} {aA:Int} {bh:Int} {H:Hp} {v:AV} {H':Hp} (h:aM.tw F aa ab aC aD aA bh H = some (v,H')):Go.AE.T Try.prog 140 [(.agg [(.int .i64 aa),(.int .i64 ab),(.int .i64 aC),(.int .i64 aD),(.int .i64 aA)]),(.int .i64 bh)] H v H':=
 Go.AE.T.of (Y:=tabs) (C:=mkOrc (aM.cs F)) (PN:=aM.pn) (LH:=aM.lh F) (F:=F) (TB:=aM.tb) (fn:=Try.f140) (code:=aM.code) mixed tabs_ok (mkOrc_ok (aM.cs_ok F)) Try.func140 (by kernel_rfl) (by kernel_rfl) aM.ok (Nat.le_of_ble_eq_true (by kernel_rfl)) (aM.loops F) (Eq.trans (aM.eqX F aa ab aC aD aA bh H) h)
theorem aM.mk_T {F:Nat} {args:List AV} {H:Hp} {v:AV} {H':Hp} (h:aM.mk (aM.tw F) args H = some (v,H')):Go.AE.T Try.prog 140 args H v H':=by
 unfold aM.mk at h
 split at h
 ·exact aM.T h
 ·cases h
noncomputable def aZ.twX (F:Nat) (aa:Int) (ab:Int) (aC:Int) (aD:Int) (aA:Int) (bh:Int) (H:Hp):OA:=(Hp.new H [(.int .i64 aa),(.int .i64 ab),(.int .i64 aC),(.int .i64 aD),(.int .i64 aA)]).bind fun H7=>(bif (bh == 0) then (some ((.bool true),H7)) else ((bif (bh == 3) then ((Hp.ldI H7 .i64 H.length 4).bind fun n8=>(bif (n8 == 1) then (some ((.bool true),H7)) else ((bif (bh == 1) then ((Hp.ldI H7 .i64 H.length 4).bind fun n9=>some ((.bool (n9 == (-1))),H7)) else (some ((.bool false),H7)))))) else ((bif (bh == 1) then ((Hp.ldI H7 .i64 H.length 4).bind fun n10=>some ((.bool (n10 == (-1))),H7)) else (some ((.bool false),H7)))))))
noncomputable def aZ.tw (F:Nat) (aa:Int) (ab:Int) (aC:Int) (aD:Int) (aA:Int) (bh:Int) (H:Hp):OA:=aZ.twX F aa ab aC aD aA bh H
noncomputable def aZ.code:Go.Code:=(Try.f141.body).getD .skip
noncomputable def aZ.lh (F:Nat) (p:Nat) (ks:List Nat) (n:Nat) (tm:Tm) (H:Hp):OA:=none
def aZ.pn:Nat→List Nat:=fun i=>(([]:List (Nat×List Nat)).lookup i).getD []
def aZ.tb:Nat→List (List Nat):=fun i=>(([]:List (Nat×List (List Nat))).lookup i).getD []
noncomputable def aZ.mk (g:Int→Int→Int→Int→Int→Int→Hp→OA) (args:List AV) (H:Hp):OA:=match args with
 | [(.agg [(.int .i64 aa),(.int .i64 ab),(.int .i64 aC),(.int .i64 aD),(.int .i64 aA)]),(.int .i64 bh)]=>g aa ab aC aD aA bh H
 | _=>none
noncomputable def aZ.cs (F:Nat):List (FuncId×(List AV→Hp→OA)):=[]
theorem aZ.loops (F:Nat):LoopsOk tabs (mkOrc (aZ.cs F)) aZ.pn (aZ.lh F) F [] 1 aZ.code (fun tm H=>aresults tabs.ty H tm Try.f141.results.toList fun v=>some (v,H)) (fun _ _ _=>none) (fun tm H=>aresults tabs.ty H tm Try.f141.results.toList fun v=>some (v,H)):=by
 exact loops_none (by kernel_rfl)
theorem aZ.eqX (F:Nat) (aa:Int) (ab:Int) (aC:Int) (aD:Int) (aA:Int) (bh:Int) (H:Hp):aCode tabs (mkOrc (aZ.cs F)) aZ.pn (aZ.lh F) F [] 1 aZ.code (argTm [(.agg [(.int .i64 aa),(.int .i64 ab),(.int .i64 aC),(.int .i64 aD),(.int .i64 aA)]),(.int .i64 bh)]) H (fun tm H=>aresults tabs.ty H tm Try.f141.results.toList fun v=>some (v,H)) (fun _ _ _=>none) (fun tm H=>aresults tabs.ty H tm Try.f141.results.toList fun v=>some (v,H)) = aZ.twX F aa ab aC aD aA bh H:=by kernel_rfl
theorem aZ.cs_ok (F:Nat):∀ p ∈ aZ.cs F,∀ args H v H',p.2 args H = some (v,H')→Go.AE.T Try.prog p.1 args H v H':=by
 intro p hp
 exact absurd (show p ∈ [] from hp) List.not_mem_nil
theorem aZ.ok:codeOk aZ.pn Try.f141.ntmps aZ.tb aZ.code = true:=by kernel_rfl
theorem aZ.T {F:Nat} {aa:Int} {ab:Int} {aC:Int} {aD:Int} {aA:Int} {bh:Int} {H:Hp} {v:AV} {H':Hp} (h:aZ.tw F aa ab aC aD aA bh H = some (v,H')):Go.AE.T Try.prog 141 [(.agg [(.int .i64 aa),(.int .i64 ab),(.int .i64 aC),(.int .i64 aD),(.int .i64 aA)]),(.int .i64 bh)] H v H':=
 Go.AE.T.of (Y:=tabs) (C:=mkOrc (aZ.cs F)) (PN:=aZ.pn) (LH:=aZ.lh F) (F:=F) (TB:=aZ.tb) (fn:=Try.f141) (code:=aZ.code) mixed tabs_ok (mkOrc_ok (aZ.cs_ok F)) Try.func141 (by kernel_rfl) (by kernel_rfl) aZ.ok (Nat.le_of_ble_eq_true (by kernel_rfl)) (aZ.loops F) (Eq.trans (aZ.eqX F aa ab aC aD aA bh H) h)
theorem aZ.mk_T {F:Nat} {args:List AV} {H:Hp} {v:AV} {H':Hp} (h:aZ.mk (aZ.tw F) args H = some (v,H')):Go.AE.T Try.prog 141 args H v H':=by
 unfold aZ.mk at h
 split at h
 ·exact aZ.T h
 ·cases h
noncomputable def aw.l3927 (F:Nat) (aJ:Int→Int→Int→Int→Int→Int→Hp→OA) (aK:Int→Int→Int→Hp→OA) (aT:Int→Int→Int→Int→Int→Int→Hp→OA) (C61_:Nat→Nat→Int→Sl→Sl→Int→Hp→OA):Nat→Nat→Nat→Int→Sl→Sl→Int→Nat→Nat→Int→Hp→OA
 | 0,_,_,_,_,_,_,_,_,_,_=>none
 | zx + 1,d_,fL,db,fM,ga,bY,dh,eA,dy,H126=>(bif (decide (dy < 4)) then ((Hp.ldI H126 .i64 dh eA).bind fun n151=>(Hp.ldI H126 .i64 dh (eA + 1)).bind fun n152=>(Hp.ldI H126 .i64 dh (eA + 2)).bind fun n153=>(Hp.ldI H126 .i64 dh (eA + 3)).bind fun n154=>(Hp.ldI H126 .i64 dh (eA + 4)).bind fun n155=>(aJ n151 n152 n153 n154 n155 dy H126).bind fun r156=>((r156.1).asI .i64).bind fun n157=>(aK n157 0 (IntKind.i64.wrap (db - 1)) r156.2).bind fun r158=>((r158.1).asB).bind fun b159=>(bif (!b159) then (some ((.bool false),r158.2)) else ((Hp.ldI r158.2 .i64 dh eA).bind fun n160=>(Hp.ldI r158.2 .i64 dh (eA + 1)).bind fun n161=>(Hp.ldI r158.2 .i64 dh (eA + 2)).bind fun n162=>(Hp.ldI r158.2 .i64 dh (eA + 3)).bind fun n163=>(Hp.ldI r158.2 .i64 dh (eA + 4)).bind fun n164=>(aT n160 n161 n162 n163 n164 dy r158.2).bind fun r165=>((r165.1).asB).bind fun b166=>(bif b166 then ((Sl.idx fM n157 1).bind fun p167=>(Hp.ldB r165.2 p167.1 p167.2).bind fun b168=>(bif b168 then (some ((.bool false),r165.2)) else ((Sl.idx fM n157 1).bind fun p169=>(Hp.st r165.2 p169.1 p169.2 (.bool true)).bind fun H170=>aw.l3927 F aJ aK aT C61_ zx d_ fL db fM ga bY dh eA (IntKind.i64.wrap (dy + 1)) H170))) else ((Sl.idx ga n157 1).bind fun p171=>(Hp.ldB r165.2 p171.1 p171.2).bind fun b172=>(bif b172 then (some ((.bool false),r165.2)) else ((Sl.idx ga n157 1).bind fun p173=>(Hp.st r165.2 p173.1 p173.2 (.bool true)).bind fun H174=>aw.l3927 F aJ aK aT C61_ zx d_ fL db fM ga bY dh eA (IntKind.i64.wrap (dy + 1)) H174))))))) else (C61_ d_ fL db fM ga (IntKind.i64.wrap (bY + 1)) H126))
termination_by structural n=>n
noncomputable def aw.l61 (F:Nat) (aJ:Int→Int→Int→Int→Int→Int→Hp→OA) (aK:Int→Int→Int→Hp→OA) (aT:Int→Int→Int→Int→Int→Int→Hp→OA) :Nat→Nat→Nat→Int→Sl→Sl→Int→Hp→OA
 | 0,_,_,_,_,_,_,_=>none
 | ba + 1,bH,cb,bQ,cj,bE,ea,H16=>(Hp.ldSl H16 bH cb).bind fun s96=>(bif (decide (ea < (s96.n:Int))) then ((Hp.ldSl H16 bH cb).bind fun s97=>(Sl.idx s97 ea 5).bind fun p98=>(Hp.ldI H16 .i64 p98.1 p98.2).bind fun n99=>(Hp.ldI H16 .i64 p98.1 (p98.2 + 1)).bind fun n100=>(Hp.ldI H16 .i64 p98.1 (p98.2 + 2)).bind fun n101=>(Hp.ldI H16 .i64 p98.1 (p98.2 + 3)).bind fun n102=>(Hp.ldI H16 .i64 p98.1 (p98.2 + 4)).bind fun n103=>(Hp.new H16 [.int .i64 0,.int .i64 0,.int .i64 0,.int .i64 0,.int .i64 0]).bind fun H104=>(Hp.st H104 H16.length 0 (.int .i64 n99)).bind fun H105=>(Hp.st H105 H16.length (0 + 1) (.int .i64 n100)).bind fun H106=>(Hp.st H106 H16.length (0 + 1 + 1) (.int .i64 n101)).bind fun H107=>(Hp.st H107 H16.length (0 + 1 + 1 + 1) (.int .i64 n102)).bind fun H108=>(Hp.st H108 H16.length (0 + 1 + 1 + 1 + 1) (.int .i64 n103)).bind fun H109=>(Hp.ldI H109 .i64 H16.length 4).bind fun n110=>(bif (n110 != 1) then ((Hp.ldI H109 .i64 H16.length 4).bind fun n111=>(bif (n111 != (-1)) then (some ((.bool false),H109)) else (aw.l3927 F aJ aK aT (aw.l61 F aJ aK aT ba) F bH cb bQ cj bE ea H16.length 0 0 H109))) else (aw.l3927 F aJ aK aT (aw.l61 F aJ aK aT ba) F bH cb bQ cj bE ea H16.length 0 0 H109))) else (some ((.bool true),H16)))
termination_by structural n=>n
noncomputable def aw.twX (F:Nat) (aJ:Int→Int→Int→Int→Int→Int→Hp→OA) (aK:Int→Int→Int→Hp→OA) (aT:Int→Int→Int→Int→Int→Int→Hp→OA) (aa:Sl) (ab:Int) (H:Hp):OA:=(Hp.new H [(.sl aa),(.int .i64 ab)]).bind fun H3=>(Hp.ldSl H3 H.length 0).bind fun s4=>(Hp.mk H3 [.bool false] 1 (IntKind.i64.wrap (2 * (s4.n:Int))) (IntKind.i64.wrap (2 * (s4.n:Int)))).bind fun m5=>(Hp.mk m5.2 [.bool false] 1 (IntKind.i64.wrap (2 * (s4.n:Int))) (IntKind.i64.wrap (2 * (s4.n:Int)))).bind fun m6=>aw.l61 F aJ aK aT F H.length 0 (IntKind.i64.wrap (2 * (s4.n:Int))) m5.1 m6.1 0 m6.2
noncomputable def aw.tw (F:Nat) (aa:Sl) (ab:Int) (H:Hp):OA:=aw.twX F (aM.tw F) (aX.tw F) (aZ.tw F) aa ab H
noncomputable def aw.code:Go.Code:=(Try.f104.body).getD .skip
noncomputable def aw.lh61 (F:Nat) (aJ:Int→Int→Int→Int→Int→Int→Hp→OA) (aK:Int→Int→Int→Hp→OA) (aT:Int→Int→Int→Int→Int→Int→Hp→OA) (ks:List Nat) (n:Nat) (tm:Tm) (H:Hp):OA:=match ks,tm 1,tm 3,tm 4,tm 5,tm 6 with
 | [],(.ptr bH cb),(.int .i64 bQ),(.sl cj),(.sl bE),(.int .i64 ea)=>aw.l61 F aJ aK aT n bH cb bQ cj bE ea H
 | _,_,_,_,_,_=>none
theorem aw.lh61_inv {F:Nat} {aJ:Int→Int→Int→Int→Int→Int→Hp→OA} {aK:Int→Int→Int→Hp→OA} {aT:Int→Int→Int→Int→Int→Int→Hp→OA} {ks:List Nat} {n:Nat} {tm:Tm} {H:Hp} {r:AV×Hp} (h:aw.lh61 F aJ aK aT ks n tm H = some r):∃ bH:Nat,∃ cb:Nat,∃ bQ:Int,∃ cj:Sl,∃ bE:Sl,∃ ea:Int,ks = []∧tm 1 = (.ptr bH cb)∧tm 3 = (.int .i64 bQ)∧tm 4 = (.sl cj)∧tm 5 = (.sl bE)∧tm 6 = (.int .i64 ea)∧aw.l61 F aJ aK aT n bH cb bQ cj bE ea H = some r:=by
 unfold aw.lh61 at h
 split at h
 ·exact ⟨_,_,_,_,_,_,rfl,by assumption,by assumption,by assumption,by assumption,by assumption,h⟩
 ·cases h
noncomputable def aw.lh3927 (F:Nat) (aJ:Int→Int→Int→Int→Int→Int→Hp→OA) (aK:Int→Int→Int→Hp→OA) (aT:Int→Int→Int→Int→Int→Int→Hp→OA) (ks:List Nat) (n:Nat) (tm:Tm) (H:Hp):OA:=match ks,tm 1,tm 3,tm 4,tm 5,tm 6,tm 7,tm 8 with
 | [ba],(.ptr d_ fL),(.int .i64 db),(.sl fM),(.sl ga),(.int .i64 bY),(.ptr dh eA),(.int .i64 dy)=>aw.l3927 F aJ aK aT (aw.l61 F aJ aK aT ba) n d_ fL db fM ga bY dh eA dy H
 | _,_,_,_,_,_,_,_=>none
theorem aw.lh3927_inv {F:Nat} {aJ:Int→Int→Int→Int→Int→Int→Hp→OA} {aK:Int→Int→Int→Hp→OA} {aT:Int→Int→Int→Int→Int→Int→Hp→OA} {ks:List Nat} {n:Nat} {tm:Tm} {H:Hp} {r:AV×Hp} (h:aw.lh3927 F aJ aK aT ks n tm H = some r):∃ ba:Nat,∃ d_:Nat,∃ fL:Nat,∃ db:Int,∃ fM:Sl,∃ ga:Sl,∃ bY:Int,∃ dh:Nat,∃ eA:Nat,∃ dy:Int,ks = [ba]∧tm 1 = (.ptr d_ fL)∧tm 3 = (.int .i64 db)∧tm 4 = (.sl fM)∧tm 5 = (.sl ga)∧tm 6 = (.int .i64 bY)∧tm 7 = (.ptr dh eA)∧tm 8 = (.int .i64 dy)∧aw.l3927 F aJ aK aT (aw.l61 F aJ aK aT ba) n d_ fL db fM ga bY dh eA dy H = some r:=by
 unfold aw.lh3927 at h
 split at h
 ·exact ⟨_,_,_,_,_,_,_,_,_,_,rfl,by assumption,by assumption,by assumption,by assumption,by assumption,by assumption,by assumption,h⟩
 ·cases h
noncomputable def aw.lh (F:Nat) (aJ:Int→Int→Int→Int→Int→Int→Hp→OA) (aK:Int→Int→Int→Hp→OA) (aT:Int→Int→Int→Int→Int→Int→Hp→OA) (p:Nat) (ks:List Nat) (n:Nat) (tm:Tm) (H:Hp):OA:=bif p.beq 3927 then aw.lh3927 F aJ aK aT ks n tm H else (bif p.beq 61 then aw.lh61 F aJ aK aT ks n tm H else (none))
def aw.pn:Nat→List Nat:=fun i=>(([(2,[])]:List (Nat×List Nat)).lookup i).getD []
def aw.tb:Nat→List (List Nat):=fun i=>(([(2,[[],[0],[],[2],[0,1],[0,1,2,3,4]])]:List (Nat×List (List Nat))).lookup i).getD []
noncomputable def aw.mk (g:Sl→Int→Hp→OA) (args:List AV) (H:Hp):OA:=match args with
 | [(.agg [(.sl aa),(.int .i64 ab)])]=>g aa ab H
 | _=>none
noncomputable def aw.cs (F:Nat) (aJ:Int→Int→Int→Int→Int→Int→Hp→OA) (aK:Int→Int→Int→Hp→OA) (aT:Int→Int→Int→Int→Int→Int→Hp→OA):List (FuncId×(List AV→Hp→OA)):=[(140,aM.mk aJ),(65,aX.mk aK),(141,aZ.mk aT)]
theorem aw.loops (F:Nat) (aJ:Int→Int→Int→Int→Int→Int→Hp→OA) (aK:Int→Int→Int→Hp→OA) (aT:Int→Int→Int→Int→Int→Int→Hp→OA):LoopsOk tabs (mkOrc (aw.cs F aJ aK aT)) aw.pn (aw.lh F aJ aK aT) F [] 1 aw.code (fun tm H=>aresults tabs.ty H tm Try.f104.results.toList fun v=>some (v,H)) (fun _ _ _=>none) (fun tm H=>aresults tabs.ty H tm Try.f104.results.toList fun v=>some (v,H)):=by
 refine LoopsOk.seq ?_ ?_
 ·exact loops_none (by kernel_rfl)
 ·refine LoopsOk.seq ?_ ?_
  ·exact loops_none (by kernel_rfl)
  ·refine LoopsOk.seq ?_ ?_
   ·exact loops_none (by kernel_rfl)
   ·refine LoopsOk.seq ?_ ?_
    ·refine LoopsOk.seq ?_ ?_
     ·exact loops_none (by kernel_rfl)
     ·refine LoopsOk.block ?_
      refine LoopsOk.loop (fun tm H=>?_) (fun k61 tm H r h0=>?_) (fun k61=>?_)
      ·refine none_of fun r h0=>?_
       obtain ⟨bH,cb,bQ,cj,bE,ea,hks,e1,e3,e4,e5,e6,h⟩:=aw.lh61_inv (show aw.lh61 F aJ aK aT [] 0 tm H = some r from h0)
       cases h
      ·obtain ⟨bH,cb,bQ,cj,bE,ea,hks,e1,e3,e4,e5,e6,h⟩:=aw.lh61_inv (show aw.lh61 F aJ aK aT [] (k61 + 1) tm H = some r from h0)
       have q0:(Tm.put tm 1 (.ptr bH cb)) = tm:=by exact Tm.put_same e1
       have q1:(Tm.put (Tm.put tm 1 (.ptr bH cb)) 3 (.int .i64 bQ)) = tm:=by rw [q0]; exact Tm.put_same e3
       have q2:(Tm.put (Tm.put (Tm.put tm 1 (.ptr bH cb)) 3 (.int .i64 bQ)) 4 (.sl cj)) = tm:=by rw [q1]; exact Tm.put_same e4
       have q3:(Tm.put (Tm.put (Tm.put (Tm.put tm 1 (.ptr bH cb)) 3 (.int .i64 bQ)) 4 (.sl cj)) 5 (.sl bE)) = tm:=by rw [q2]; exact Tm.put_same e5
       have q4:(Tm.put (Tm.put (Tm.put (Tm.put (Tm.put tm 1 (.ptr bH cb)) 3 (.int .i64 bQ)) 4 (.sl cj)) 5 (.sl bE)) 6 (.int .i64 ea)) = tm:=by rw [q3]; exact Tm.put_same e6
       rw [← q4]
       exact Eq.trans (by kernel_rfl) h
      ·refine LoopsOk.seq ?_ ?_
       ·exact loops_none (by kernel_rfl)
       ·refine LoopsOk.seq ?_ ?_
        ·refine LoopsOk.block ?_
         refine LoopsOk.seq ?_ ?_
         ·exact loops_none (by kernel_rfl)
         ·refine LoopsOk.seq ?_ ?_
          ·exact loops_none (by kernel_rfl)
          ·refine LoopsOk.seq ?_ ?_
           ·exact loops_none (by kernel_rfl)
           ·refine LoopsOk.block ?_
            refine LoopsOk.loop (fun tm H=>?_) (fun k3927 tm H r h0=>?_) (fun k3927=>?_)
            ·refine none_of fun r h0=>?_
             obtain ⟨ba,d_,fL,db,fM,ga,bY,dh,eA,dy,hks,e1,e3,e4,e5,e6,e7,e8,h⟩:=aw.lh3927_inv (show aw.lh3927 F aJ aK aT [k61] 0 tm H = some r from h0)
             cases h
            ·obtain ⟨ba,d_,fL,db,fM,ga,bY,dh,eA,dy,hks,e1,e3,e4,e5,e6,e7,e8,h⟩:=aw.lh3927_inv (show aw.lh3927 F aJ aK aT [k61] (k3927 + 1) tm H = some r from h0)
             obtain rfl:ba = k61:=by simpa [eq_comm] using hks
             have q0:(Tm.put tm 1 (.ptr d_ fL)) = tm:=by exact Tm.put_same e1
             have q1:(Tm.put (Tm.put tm 1 (.ptr d_ fL)) 3 (.int .i64 db)) = tm:=by rw [q0]; exact Tm.put_same e3
             have q2:(Tm.put (Tm.put (Tm.put tm 1 (.ptr d_ fL)) 3 (.int .i64 db)) 4 (.sl fM)) = tm:=by rw [q1]; exact Tm.put_same e4
             have q3:(Tm.put (Tm.put (Tm.put (Tm.put tm 1 (.ptr d_ fL)) 3 (.int .i64 db)) 4 (.sl fM)) 5 (.sl ga)) = tm:=by rw [q2]; exact Tm.put_same e5
             have q4:(Tm.put (Tm.put (Tm.put (Tm.put (Tm.put tm 1 (.ptr d_ fL)) 3 (.int .i64 db)) 4 (.sl fM)) 5 (.sl ga)) 6 (.int .i64 bY)) = tm:=by rw [q3]; exact Tm.put_same e6
             have q5:(Tm.put (Tm.put (Tm.put (Tm.put (Tm.put (Tm.put tm 1 (.ptr d_ fL)) 3 (.int .i64 db)) 4 (.sl fM)) 5 (.sl ga)) 6 (.int .i64 bY)) 7 (.ptr dh eA)) = tm:=by rw [q4]; exact Tm.put_same e7
             have q6:(Tm.put (Tm.put (Tm.put (Tm.put (Tm.put (Tm.put (Tm.put tm 1 (.ptr d_ fL)) 3 (.int .i64 db)) 4 (.sl fM)) 5 (.sl ga)) 6 (.int .i64 bY)) 7 (.ptr dh eA)) 8 (.int .i64 dy)) = tm:=by rw [q5]; exact Tm.put_same e8
             rw [← q6]
             exact Eq.trans (by kernel_rfl) h
            ·exact loops_none (by kernel_rfl)
        ·exact loops_none (by kernel_rfl)
    ·exact loops_none (by kernel_rfl)
theorem aw.eqX (F:Nat) (aJ:Int→Int→Int→Int→Int→Int→Hp→OA) (aK:Int→Int→Int→Hp→OA) (aT:Int→Int→Int→Int→Int→Int→Hp→OA) (aa:Sl) (ab:Int) (H:Hp):aCode tabs (mkOrc (aw.cs F aJ aK aT)) aw.pn (aw.lh F aJ aK aT) F [] 1 aw.code (argTm [(.agg [(.sl aa),(.int .i64 ab)])]) H (fun tm H=>aresults tabs.ty H tm Try.f104.results.toList fun v=>some (v,H)) (fun _ _ _=>none) (fun tm H=>aresults tabs.ty H tm Try.f104.results.toList fun v=>some (v,H)) = aw.twX F aJ aK aT aa ab H:=by kernel_rfl
theorem aw.cs_ok (F:Nat):∀ p ∈ aw.cs F (aM.tw F) (aX.tw F) (aZ.tw F),∀ args H v H',p.2 args H = some (v,H')→Go.AE.T Try.prog p.1 args H v H':=by
 intro p hp
 simp only [aw.cs,List.mem_cons,List.not_mem_nil,or_false] at hp
 rcases hp with rfl | rfl | rfl
 ·exact fun args H v H' h=>aM.mk_T h
 ·exact fun args H v H' h=>aX.mk_T h
 ·exact fun args H v H' h=>aZ.mk_T h
theorem aw.ok:codeOk aw.pn Try.f104.ntmps aw.tb aw.code = true:=by kernel_rfl
theorem aw.T {F:Nat} {aa:Sl} {ab:Int} {H:Hp} {v:AV} {H':Hp} (h:aw.tw F aa ab H = some (v,H')):Go.AE.T Try.prog 104 [(.agg [(.sl aa),(.int .i64 ab)])] H v H':=
 Go.AE.T.of (Y:=tabs) (C:=mkOrc (aw.cs F (aM.tw F) (aX.tw F) (aZ.tw F))) (PN:=aw.pn) (LH:=aw.lh F (aM.tw F) (aX.tw F) (aZ.tw F)) (F:=F) (TB:=aw.tb) (fn:=Try.f104) (code:=aw.code) mixed tabs_ok (mkOrc_ok (aw.cs_ok F)) Try.func104 (by kernel_rfl) (by kernel_rfl) aw.ok (Nat.le_of_ble_eq_true (by kernel_rfl)) (aw.loops F (aM.tw F) (aX.tw F) (aZ.tw F)) (Eq.trans (aw.eqX F (aM.tw F) (aX.tw F) (aZ.tw F) aa ab H) h)
theorem aw.mk_T {F:Nat} {args:List AV} {H:Hp} {v:AV} {H':Hp} (h:aw.mk (aw.tw F) args H = some (v,H')):Go.AE.T Try.prog 104 args H v H':=by
 unfold aw.mk at h
 split at h
 ·exact aw.T h
 ·cases h
noncomputable def aj.j3 (F:Nat) (aJ:Int→Int→Int→Int→Int→Int→Hp→OA) (aT:Int→Int→Int→Int→Int→Int→Hp→OA) (C13_:Int→Bool→Nat→Nat→Int→Hp→OA) (jD:Int) (mj:Bool) (kR:Nat) (FX:Nat) (ml:Int) (H147:Hp):OA:=C13_ jD mj kR FX (IntKind.i64.wrap (ml + 1)) H147
noncomputable def aj.j4 (F:Nat) (aJ:Int→Int→Int→Int→Int→Int→Hp→OA) (aT:Int→Int→Int→Int→Int→Int→Hp→OA) (C13_:Int→Bool→Nat→Nat→Int→Hp→OA) (mm:Int) (mn:Bool) (rA:Nat) (FY:Nat) (mo:Int) (H134:Hp):OA:=aj.j3 F aJ aT C13_ mm mn rA FY mo H134
noncomputable def aj.l213 (F:Nat) (aJ:Int→Int→Int→Int→Int→Int→Hp→OA) (aT:Int→Int→Int→Int→Int→Int→Hp→OA) (C13_:Int→Bool→Nat→Nat→Int→Hp→OA):Nat→Int→Bool→Nat→Nat→Int→Int→Hp→OA
 | 0,_,_,_,_,_,_,_=>none
 | zy + 1,di,dt,eJ,gn,dc,dj,H103=>(bif (decide (dj < 4)) then ((Hp.ldSl H103 eJ gn).bind fun s148=>(Sl.idx s148 dc 5).bind fun p149=>(Hp.ldI H103 .i64 p149.1 p149.2).bind fun n150=>(Hp.ldI H103 .i64 p149.1 (p149.2 + 1)).bind fun n151=>(Hp.ldI H103 .i64 p149.1 (p149.2 + 2)).bind fun n152=>(Hp.ldI H103 .i64 p149.1 (p149.2 + 3)).bind fun n153=>(Hp.ldI H103 .i64 p149.1 (p149.2 + 4)).bind fun n154=>(aJ n150 n151 n152 n153 n154 dj H103).bind fun r155=>((r155.1).asI .i64).bind fun n156=>(bif (n156 == di) then ((Hp.ldSl r155.2 eJ gn).bind fun s157=>(Sl.idx s157 dc 5).bind fun p158=>(Hp.ldI r155.2 .i64 p158.1 p158.2).bind fun n159=>(Hp.ldI r155.2 .i64 p158.1 (p158.2 + 1)).bind fun n160=>(Hp.ldI r155.2 .i64 p158.1 (p158.2 + 2)).bind fun n161=>(Hp.ldI r155.2 .i64 p158.1 (p158.2 + 3)).bind fun n162=>(Hp.ldI r155.2 .i64 p158.1 (p158.2 + 4)).bind fun n163=>(aT n159 n160 n161 n162 n163 dj r155.2).bind fun r164=>((r164.1).asB).bind fun b165=>(bif (b165 == dt) then (some ((.tup [(.int .i64 dc),(.int .i64 dj)]),r164.2)) else (aj.l213 F aJ aT C13_ zy di dt eJ gn dc (IntKind.i64.wrap (dj + 1)) r164.2))) else (aj.l213 F aJ aT C13_ zy di dt eJ gn dc (IntKind.i64.wrap (dj + 1)) r155.2))) else (aj.j4 F aJ aT C13_ di dt eJ gn dc H103))
termination_by structural n=>n
noncomputable def aj.l13 (F:Nat) (aJ:Int→Int→Int→Int→Int→Int→Hp→OA) (aT:Int→Int→Int→Int→Int→Int→Hp→OA) :Nat→Int→Bool→Nat→Nat→Int→Hp→OA
 | 0,_,_,_,_,_,_=>none
 | fN + 1,bT,fw,cR,cI,fx,H15=>(Hp.ldSl H15 cR cI).bind fun s91=>(bif (decide (fx < (s91.n:Int))) then (aj.l213 F aJ aT (aj.l13 F aJ aT fN) F bT fw cR cI fx 0 H15) else (some ((.tup [(.int .i64 (-1)),(.int .i64 (-1))]),H15)))
termination_by structural n=>n
noncomputable def aj.twX (F:Nat) (aJ:Int→Int→Int→Int→Int→Int→Hp→OA) (aT:Int→Int→Int→Int→Int→Int→Hp→OA) (aa:Sl) (ab:Int) (af:Int) (fO:Bool) (H:Hp):OA:=(Hp.new H [(.sl aa),(.int .i64 ab)]).bind fun H5=>aj.l13 F aJ aT F af fO H.length 0 0 H5
noncomputable def aj.tw (F:Nat) (aa:Sl) (ab:Int) (af:Int) (fO:Bool) (H:Hp):OA:=aj.twX F (aM.tw F) (aZ.tw F) aa ab af fO H
noncomputable def aj.code:Go.Code:=(Try.f152.body).getD .skip
noncomputable def aj.lh13 (F:Nat) (aJ:Int→Int→Int→Int→Int→Int→Hp→OA) (aT:Int→Int→Int→Int→Int→Int→Hp→OA) (ks:List Nat) (n:Nat) (tm:Tm) (H:Hp):OA:=match ks,tm 1,tm 2,tm 3,tm 8 with
 | [],(.int .i64 bT),(.bool fw),(.ptr cR cI),(.int .i64 fx)=>aj.l13 F aJ aT n bT fw cR cI fx H
 | _,_,_,_,_=>none
theorem aj.lh13_inv {F:Nat} {aJ:Int→Int→Int→Int→Int→Int→Hp→OA} {aT:Int→Int→Int→Int→Int→Int→Hp→OA} {ks:List Nat} {n:Nat} {tm:Tm} {H:Hp} {r:AV×Hp} (h:aj.lh13 F aJ aT ks n tm H = some r):∃ bT:Int,∃ fw:Bool,∃ cR:Nat,∃ cI:Nat,∃ fx:Int,ks = []∧tm 1 = (.int .i64 bT)∧tm 2 = (.bool fw)∧tm 3 = (.ptr cR cI)∧tm 8 = (.int .i64 fx)∧aj.l13 F aJ aT n bT fw cR cI fx H = some r:=by
 unfold aj.lh13 at h
 split at h
 ·exact ⟨_,_,_,_,_,rfl,by assumption,by assumption,by assumption,by assumption,h⟩
 ·cases h
noncomputable def aj.lh213 (F:Nat) (aJ:Int→Int→Int→Int→Int→Int→Hp→OA) (aT:Int→Int→Int→Int→Int→Int→Hp→OA) (ks:List Nat) (n:Nat) (tm:Tm) (H:Hp):OA:=match ks,tm 1,tm 2,tm 3,tm 8,tm 9 with
 | [fN],(.int .i64 di),(.bool dt),(.ptr eJ gn),(.int .i64 dc),(.int .i64 dj)=>aj.l213 F aJ aT (aj.l13 F aJ aT fN) n di dt eJ gn dc dj H
 | _,_,_,_,_,_=>none
theorem aj.lh213_inv {F:Nat} {aJ:Int→Int→Int→Int→Int→Int→Hp→OA} {aT:Int→Int→Int→Int→Int→Int→Hp→OA} {ks:List Nat} {n:Nat} {tm:Tm} {H:Hp} {r:AV×Hp} (h:aj.lh213 F aJ aT ks n tm H = some r):∃ fN:Nat,∃ di:Int,∃ dt:Bool,∃ eJ:Nat,∃ gn:Nat,∃ dc:Int,∃ dj:Int,ks = [fN]∧tm 1 = (.int .i64 di)∧tm 2 = (.bool dt)∧tm 3 = (.ptr eJ gn)∧tm 8 = (.int .i64 dc)∧tm 9 = (.int .i64 dj)∧aj.l213 F aJ aT (aj.l13 F aJ aT fN) n di dt eJ gn dc dj H = some r:=by
 unfold aj.lh213 at h
 split at h
 ·exact ⟨_,_,_,_,_,_,_,rfl,by assumption,by assumption,by assumption,by assumption,by assumption,h⟩
 ·cases h
noncomputable def aj.lh (F:Nat) (aJ:Int→Int→Int→Int→Int→Int→Hp→OA) (aT:Int→Int→Int→Int→Int→Int→Hp→OA) (p:Nat) (ks:List Nat) (n:Nat) (tm:Tm) (H:Hp):OA:=bif p.beq 213 then aj.lh213 F aJ aT ks n tm H else (bif p.beq 13 then aj.lh13 F aJ aT ks n tm H else (none))
def aj.pn:Nat→List Nat:=fun i=>(([]:List (Nat×List Nat)).lookup i).getD []
def aj.tb:Nat→List (List Nat):=fun i=>(([]:List (Nat×List (List Nat))).lookup i).getD []
noncomputable def aj.mk (g:Sl→Int→Int→Bool→Hp→OA) (args:List AV) (H:Hp):OA:=match args with
 | [(.agg [(.sl aa),(.int .i64 ab)]),(.int .i64 af),(.bool fO)]=>g aa ab af fO H
 | _=>none
noncomputable def aj.cs (F:Nat) (aJ:Int→Int→Int→Int→Int→Int→Hp→OA) (aT:Int→Int→Int→Int→Int→Int→Hp→OA):List (FuncId×(List AV→Hp→OA)):=[(140,aM.mk aJ),(141,aZ.mk aT)]
theorem aj.loops (F:Nat) (aJ:Int→Int→Int→Int→Int→Int→Hp→OA) (aT:Int→Int→Int→Int→Int→Int→Hp→OA):LoopsOk tabs (mkOrc (aj.cs F aJ aT)) aj.pn (aj.lh F aJ aT) F [] 1 aj.code (fun tm H=>aresults tabs.ty H tm Try.f152.results.toList fun v=>some (v,H)) (fun _ _ _=>none) (fun tm H=>aresults tabs.ty H tm Try.f152.results.toList fun v=>some (v,H)):=by
 refine LoopsOk.seq ?_ ?_
 ·exact loops_none (by kernel_rfl)
 ·refine LoopsOk.seq ?_ ?_
  ·refine LoopsOk.seq ?_ ?_
   ·exact loops_none (by kernel_rfl)
   ·refine LoopsOk.block ?_
    refine LoopsOk.loop (fun tm H=>?_) (fun k13 tm H r h0=>?_) (fun k13=>?_)
    ·refine none_of fun r h0=>?_
     obtain ⟨bT,fw,cR,cI,fx,hks,e1,e2,e3,e8,h⟩:=aj.lh13_inv (show aj.lh13 F aJ aT [] 0 tm H = some r from h0)
     cases h
    ·obtain ⟨bT,fw,cR,cI,fx,hks,e1,e2,e3,e8,h⟩:=aj.lh13_inv (show aj.lh13 F aJ aT [] (k13 + 1) tm H = some r from h0)
     have q0:(Tm.put tm 1 (.int .i64 bT)) = tm:=by exact Tm.put_same e1
     have q1:(Tm.put (Tm.put tm 1 (.int .i64 bT)) 2 (.bool fw)) = tm:=by rw [q0]; exact Tm.put_same e2
     have q2:(Tm.put (Tm.put (Tm.put tm 1 (.int .i64 bT)) 2 (.bool fw)) 3 (.ptr cR cI)) = tm:=by rw [q1]; exact Tm.put_same e3
     have q3:(Tm.put (Tm.put (Tm.put (Tm.put tm 1 (.int .i64 bT)) 2 (.bool fw)) 3 (.ptr cR cI)) 8 (.int .i64 fx)) = tm:=by rw [q2]; exact Tm.put_same e8
     rw [← q3]
     exact Eq.trans (by kernel_rfl) h
    ·refine LoopsOk.seq ?_ ?_
     ·exact loops_none (by kernel_rfl)
     ·refine LoopsOk.seq ?_ ?_
      ·refine LoopsOk.block ?_
       refine LoopsOk.seq ?_ ?_
       ·exact loops_none (by kernel_rfl)
       ·refine LoopsOk.block ?_
        refine LoopsOk.loop (fun tm H=>?_) (fun k213 tm H r h0=>?_) (fun k213=>?_)
        ·refine none_of fun r h0=>?_
         obtain ⟨fN,di,dt,eJ,gn,dc,dj,hks,e1,e2,e3,e8,e9,h⟩:=aj.lh213_inv (show aj.lh213 F aJ aT [k13] 0 tm H = some r from h0)
         cases h
        ·obtain ⟨fN,di,dt,eJ,gn,dc,dj,hks,e1,e2,e3,e8,e9,h⟩:=aj.lh213_inv (show aj.lh213 F aJ aT [k13] (k213 + 1) tm H = some r from h0)
         obtain rfl:fN = k13:=by simpa [eq_comm] using hks
         have q0:(Tm.put tm 1 (.int .i64 di)) = tm:=by exact Tm.put_same e1
         have q1:(Tm.put (Tm.put tm 1 (.int .i64 di)) 2 (.bool dt)) = tm:=by rw [q0]; exact Tm.put_same e2
         have q2:(Tm.put (Tm.put (Tm.put tm 1 (.int .i64 di)) 2 (.bool dt)) 3 (.ptr eJ gn)) = tm:=by rw [q1]; exact Tm.put_same e3
         have q3:(Tm.put (Tm.put (Tm.put (Tm.put tm 1 (.int .i64 di)) 2 (.bool dt)) 3 (.ptr eJ gn)) 8 (.int .i64 dc)) = tm:=by rw [q2]; exact Tm.put_same e8
         have q4:(Tm.put (Tm.put (Tm.put (Tm.put (Tm.put tm 1 (.int .i64 di)) 2 (.bool dt)) 3 (.ptr eJ gn)) 8 (.int .i64 dc)) 9 (.int .i64 dj)) = tm:=by rw [q3]; exact Tm.put_same e9
         rw [← q4]
         exact Eq.trans (by kernel_rfl) h
        ·exact loops_none (by kernel_rfl)
      ·exact loops_none (by kernel_rfl)
  ·exact loops_none (by kernel_rfl)
theorem aj.eqX (F:Nat) (aJ:Int→Int→Int→Int→Int→Int→Hp→OA) (aT:Int→Int→Int→Int→Int→Int→Hp→OA) (aa:Sl) (ab:Int) (af:Int) (fO:Bool) (H:Hp):aCode tabs (mkOrc (aj.cs F aJ aT)) aj.pn (aj.lh F aJ aT) F [] 1 aj.code (argTm [(.agg [(.sl aa),(.int .i64 ab)]),(.int .i64 af),(.bool fO)]) H (fun tm H=>aresults tabs.ty H tm Try.f152.results.toList fun v=>some (v,H)) (fun _ _ _=>none) (fun tm H=>aresults tabs.ty H tm Try.f152.results.toList fun v=>some (v,H)) = aj.twX F aJ aT aa ab af fO H:=by kernel_rfl
theorem aj.cs_ok (F:Nat):∀ p ∈ aj.cs F (aM.tw F) (aZ.tw F),∀ args H v H',p.2 args H = some (v,H')→Go.AE.T Try.prog p.1 args H v H':=by
 intro p hp
 simp only [aj.cs,List.mem_cons,List.not_mem_nil,or_false] at hp
 rcases hp with rfl | rfl
 ·exact fun args H v H' h=>aM.mk_T h
 ·exact fun args H v H' h=>aZ.mk_T h
theorem aj.ok:codeOk aj.pn Try.f152.ntmps aj.tb aj.code = true:=by kernel_rfl
theorem aj.T {F:Nat} {aa:Sl} {ab:Int} {af:Int} {fO:Bool} {H:Hp} {v:AV} {H':Hp} (h:aj.tw F aa ab af fO H = some (v,H')):Go.AE.T Try.prog 152 [(.agg [(.sl aa),(.int .i64 ab)]),(.int .i64 af),(.bool fO)] H v H':=
 Go.AE.T.of (Y:=tabs) (C:=mkOrc (aj.cs F (aM.tw F) (aZ.tw F))) (PN:=aj.pn) (LH:=aj.lh F (aM.tw F) (aZ.tw F)) (F:=F) (TB:=aj.tb) (fn:=Try.f152) (code:=aj.code) mixed tabs_ok (mkOrc_ok (aj.cs_ok F)) Try.func152 (by kernel_rfl) (by kernel_rfl) aj.ok (Nat.le_of_ble_eq_true (by kernel_rfl)) (aj.loops F (aM.tw F) (aZ.tw F)) (Eq.trans (aj.eqX F (aM.tw F) (aZ.tw F) aa ab af fO H) h)
theorem aj.mk_T {F:Nat} {args:List AV} {H:Hp} {v:AV} {H':Hp} (h:aj.mk (aj.tw F) args H = some (v,H')):Go.AE.T Try.prog 152 args H v H':=by
 unfold aj.mk at h
 split at h
 ·exact aj.T h
 ·cases h
noncomputable def br.twX (F:Nat) (aJ:Int→Int→Int→Int→Int→Int→Hp→OA) (aT:Int→Int→Int→Int→Int→Int→Hp→OA) (bg:Sl→Int→Int→Bool→Hp→OA) (aa:Sl) (ab:Int) (af:Int) (H:Hp):OA:=(Hp.new H [(.sl aa),(.int .i64 ab)]).bind fun H4=>(Hp.ldSl H4 H.length 0).bind fun s5=>(Sl.idx s5 (IntKind.i64.wrap (Int.tdiv af 4)) 5).bind fun p6=>(Hp.ldI H4 .i64 p6.1 p6.2).bind fun n7=>(Hp.ldI H4 .i64 p6.1 (p6.2 + 1)).bind fun n8=>(Hp.ldI H4 .i64 p6.1 (p6.2 + 2)).bind fun n9=>(Hp.ldI H4 .i64 p6.1 (p6.2 + 3)).bind fun n10=>(Hp.ldI H4 .i64 p6.1 (p6.2 + 4)).bind fun n11=>(Hp.new H4 [.int .i64 0,.int .i64 0,.int .i64 0,.int .i64 0,.int .i64 0]).bind fun H12=>(Hp.st H12 H4.length 0 (.int .i64 n7)).bind fun H13=>(Hp.st H13 H4.length (0 + 1) (.int .i64 n8)).bind fun H14=>(Hp.st H14 H4.length (0 + 1 + 1) (.int .i64 n9)).bind fun H15=>(Hp.st H15 H4.length (0 + 1 + 1 + 1) (.int .i64 n10)).bind fun H16=>(Hp.st H16 H4.length (0 + 1 + 1 + 1 + 1) (.int .i64 n11)).bind fun H17=>(Hp.ldSl H17 H.length 0).bind fun s18=>(Hp.ldI H17 .i64 H.length (0 + 1)).bind fun n19=>(Hp.ldI H17 .i64 H4.length 0).bind fun n20=>(Hp.ldI H17 .i64 H4.length (0 + 1)).bind fun n21=>(Hp.ldI H17 .i64 H4.length (0 + 2)).bind fun n22=>(Hp.ldI H17 .i64 H4.length (0 + 3)).bind fun n23=>(Hp.ldI H17 .i64 H4.length (0 + 4)).bind fun n24=>(aJ n20 n21 n22 n23 n24 (Int.tmod (IntKind.i64.wrap ((Int.tmod af 4) + 1)) 4) H17).bind fun r25=>((r25.1).asI .i64).bind fun n26=>(if Cons H17 r25.2 then ((Hp.ldI r25.2 .i64 H4.length 0).bind fun n27=>(Hp.ldI r25.2 .i64 H4.length (0 + 1)).bind fun n28=>(Hp.ldI r25.2 .i64 H4.length (0 + 2)).bind fun n29=>(Hp.ldI r25.2 .i64 H4.length (0 + 3)).bind fun n30=>(Hp.ldI r25.2 .i64 H4.length (0 + 4)).bind fun n31=>(aT n27 n28 n29 n30 n31 (Int.tmod (IntKind.i64.wrap ((Int.tmod af 4) + 1)) 4) r25.2).bind fun r32=>((r32.1).asB).bind fun b33=>(if Cons r25.2 r32.2 then ((bg s18 n19 n26 (!b33) r32.2).bind fun r34=>((r34.1).asTup 2).bind fun l35=>(l35[0]?).bind fun v36=>((v36).asI .i64).bind fun n37=>(l35[1]?).bind fun v38=>((v38).asI .i64).bind fun n39=>some ((.int .i64 (IntKind.i64.wrap ((IntKind.i64.wrap (4 * n37)) + n39))),r34.2)) else none)) else none)
noncomputable def br.tw (F:Nat) (aa:Sl) (ab:Int) (af:Int) (H:Hp):OA:=br.twX F (aM.tw F) (aZ.tw F) (aj.tw F) aa ab af H
noncomputable def br.code:Go.Code:=(Try.f142.body).getD .skip
noncomputable def br.lh (F:Nat) (aJ:Int→Int→Int→Int→Int→Int→Hp→OA) (aT:Int→Int→Int→Int→Int→Int→Hp→OA) (bg:Sl→Int→Int→Bool→Hp→OA) (p:Nat) (ks:List Nat) (n:Nat) (tm:Tm) (H:Hp):OA:=none
def br.pn:Nat→List Nat:=fun i=>(([(3,[8])]:List (Nat×List Nat)).lookup i).getD []
def br.tb:Nat→List (List Nat):=fun i=>(([(3,[[],[],[],[1,2],[],[],[1,2,3,4,5],[1,2,3,4,5,6],[0,1,2,3,4,5,6,7],[0,1,2,3,4,5,6,7,8],[0,1,2,3,4,5,6,7,8,9],[0,1,2,3,4,5,6,7,8,9],[0,1,2,3,4,5,6,7,8,9,10],[0,1,2,3,4,5,6,7,8,9,10,11,12]])]:List (Nat×List (List Nat))).lookup i).getD []
noncomputable def br.mk (g:Sl→Int→Int→Hp→OA) (args:List AV) (H:Hp):OA:=match args with
 | [(.agg [(.sl aa),(.int .i64 ab)]),(.int .i64 af)]=>g aa ab af H
 | _=>none
noncomputable def br.cs (F:Nat) (aJ:Int→Int→Int→Int→Int→Int→Hp→OA) (aT:Int→Int→Int→Int→Int→Int→Hp→OA) (bg:Sl→Int→Int→Bool→Hp→OA):List (FuncId×(List AV→Hp→OA)):=[(140,aM.mk aJ),(141,aZ.mk aT),(152,aj.mk bg)]
theorem br.loops (F:Nat) (aJ:Int→Int→Int→Int→Int→Int→Hp→OA) (aT:Int→Int→Int→Int→Int→Int→Hp→OA) (bg:Sl→Int→Int→Bool→Hp→OA):LoopsOk tabs (mkOrc (br.cs F aJ aT bg)) br.pn (br.lh F aJ aT bg) F [] 1 br.code (fun tm H=>aresults tabs.ty H tm Try.f142.results.toList fun v=>some (v,H)) (fun _ _ _=>none) (fun tm H=>aresults tabs.ty H tm Try.f142.results.toList fun v=>some (v,H)):=by
 exact loops_none (by kernel_rfl)
theorem br.eqX (F:Nat) (aJ:Int→Int→Int→Int→Int→Int→Hp→OA) (aT:Int→Int→Int→Int→Int→Int→Hp→OA) (bg:Sl→Int→Int→Bool→Hp→OA) (aa:Sl) (ab:Int) (af:Int) (H:Hp):aCode tabs (mkOrc (br.cs F aJ aT bg)) br.pn (br.lh F aJ aT bg) F [] 1 br.code (argTm [(.agg [(.sl aa),(.int .i64 ab)]),(.int .i64 af)]) H (fun tm H=>aresults tabs.ty H tm Try.f142.results.toList fun v=>some (v,H)) (fun _ _ _=>none) (fun tm H=>aresults tabs.ty H tm Try.f142.results.toList fun v=>some (v,H)) = br.twX F aJ aT bg aa ab af H:=by kernel_rfl
theorem br.cs_ok (F:Nat):∀ p ∈ br.cs F (aM.tw F) (aZ.tw F) (aj.tw F),∀ args H v H',p.2 args H = some (v,H')→Go.AE.T Try.prog p.1 args H v H':=by
 intro p hp
 simp only [br.cs,List.mem_cons,List.not_mem_nil,or_false] at hp
 rcases hp with rfl | rfl | rfl
 ·exact fun args H v H' h=>aM.mk_T h
 ·exact fun args H v H' h=>aZ.mk_T h
 ·exact fun args H v H' h=>aj.mk_T h
theorem br.ok:codeOk br.pn Try.f142.ntmps br.tb br.code = true:=by kernel_rfl
theorem br.T {F:Nat} {aa:Sl} {ab:Int} {af:Int} {H:Hp} {v:AV} {H':Hp} (h:br.tw F aa ab af H = some (v,H')):Go.AE.T Try.prog 142 [(.agg [(.sl aa),(.int .i64 ab)]),(.int .i64 af)] H v H':=
 Go.AE.T.of (Y:=tabs) (C:=mkOrc (br.cs F (aM.tw F) (aZ.tw F) (aj.tw F))) (PN:=br.pn) (LH:=br.lh F (aM.tw F) (aZ.tw F) (aj.tw F)) (F:=F) (TB:=br.tb) (fn:=Try.f142) (code:=br.code) mixed tabs_ok (mkOrc_ok (br.cs_ok F)) Try.func142 (by kernel_rfl) (by kernel_rfl) br.ok (Nat.le_of_ble_eq_true (by kernel_rfl)) (br.loops F (aM.tw F) (aZ.tw F) (aj.tw F)) (Eq.trans (br.eqX F (aM.tw F) (aZ.tw F) (aj.tw F) aa ab af H) h)
theorem br.mk_T {F:Nat} {args:List AV} {H:Hp} {v:AV} {H':Hp} (h:br.mk (br.tw F) args H = some (v,H')):Go.AE.T Try.prog 142 args H v H':=by
 unfold br.mk at h
 split at h
 ·exact br.T h
 ·cases h
noncomputable def aq.j4 (F:Nat) (cc:Sl→Int→Int→Hp→OA) (C61_:Nat→Nat→Sl→Sl→Int→Hp→OA) (jL:Nat) (wC:Nat) (wD:Sl) (wE:Sl) (ho:Int) (H108:Hp):OA:=C61_ jL wC wD wE (IntKind.i64.wrap (ho + 1)) H108
noncomputable def aq.j5 (F:Nat) (cc:Sl→Int→Int→Hp→OA) (C61_:Nat→Nat→Sl→Sl→Int→Hp→OA) (jM:Nat) (wF:Nat) (wG:Sl) (wH:Sl) (hB:Int) (H164:Hp):OA:=C61_ jM wF wG wH (IntKind.i64.wrap (hB + 1)) H164
noncomputable def aq.j6 (F:Nat) (cc:Sl→Int→Int→Hp→OA) (C61_:Nat→Nat→Sl→Sl→Int→Hp→OA) (jN:Nat) (jD:Nat) (kR:Sl) (wI:Sl) (hC:Int) (wJ:Sl) (H147:Hp):OA:=(Hp.new H147 [(.sl wJ)]).bind fun H148=>(Sl.row H148 (⟨some (H147.length,0),1,.ex 1⟩:Sl) 1).bind fun xs150=>(Hp.app H148 1 24 kR (⟨some (H147.length,0),1,.ex 1⟩:Sl).n xs150).bind fun a149=>aq.j5 F cc C61_ jN jD a149.1 wI hC a149.2
noncomputable def aq.l7853 (F:Nat) (cc:Sl→Int→Int→Hp→OA) (C61_:Nat→Nat→Sl→Sl→Int→Hp→OA):Nat→Nat→Nat→Sl→Sl→Int→Sl→Int→Hp→OA
 | 0,_,_,_,_,_,_,_,_=>none
 | wK + 1,b_,cz,cO,cL,ch,bY,bR,H122=>(Sl.idx cL bR 1).bind fun p165=>(Hp.ldB H122 p165.1 p165.2).bind fun b166=>(bif (!b166) then ((Sl.idx cL bR 1).bind fun p167=>(Hp.st H122 p167.1 p167.2 (.bool true)).bind fun H168=>(Hp.new H168 [(.int .i64 bR)]).bind fun H169=>(Sl.row H169 (⟨some (H168.length,0),1,.ex 1⟩:Sl) 1).bind fun xs171=>(Hp.app H169 1 8 bY (⟨some (H168.length,0),1,.ex 1⟩:Sl).n xs171).bind fun a170=>(Hp.ldSl a170.2 b_ cz).bind fun s172=>(Hp.ldI a170.2 .i64 b_ (cz + 1)).bind fun n173=>(cc s172 n173 bR a170.2).bind fun r174=>((r174.1).asI .i64).bind fun n175=>aq.l7853 F cc C61_ wK b_ cz cO cL ch a170.1 n175 r174.2) else (aq.j6 F cc C61_ b_ cz cO cL ch bY H122))
termination_by structural n=>n
noncomputable def aq.l61 (F:Nat) (cc:Sl→Int→Int→Hp→OA) :Nat→Nat→Nat→Sl→Sl→Int→Hp→OA
 | 0,_,_,_,_,_,_=>none
 | ba + 1,bH,cb,bQ,cj,bE,H15=>(bif (decide (bE < (cj.n:Int))) then ((Sl.idx cj bE 1).bind fun p96=>(Hp.ldB H15 p96.1 p96.2).bind fun b97=>(bif b97 then (aq.j4 F cc (aq.l61 F cc ba) bH cb bQ cj bE H15) else ((Hp.new H15 []).bind fun H109=>aq.l7853 F cc (aq.l61 F cc ba) F bH cb bQ cj bE (⟨some (H15.length,0),0,.ex 0⟩:Sl) bE H109))) else (some ((.sl bQ),H15)))
termination_by structural n=>n
noncomputable def aq.twX (F:Nat) (cc:Sl→Int→Int→Hp→OA) (aa:Sl) (ab:Int) (H:Hp):OA:=(Hp.new H [(.sl aa),(.int .i64 ab)]).bind fun H3=>(Hp.new H3 []).bind fun H4=>(Hp.ldSl H4 H.length 0).bind fun s5=>(Hp.mk H4 [.bool false] 1 (IntKind.i64.wrap (4 * (s5.n:Int))) (IntKind.i64.wrap (4 * (s5.n:Int)))).bind fun m6=>aq.l61 F cc F H.length 0 (⟨some (H3.length,0),0,.ex 0⟩:Sl) m6.1 0 m6.2
noncomputable def aq.tw (F:Nat) (aa:Sl) (ab:Int) (H:Hp):OA:=aq.twX F (br.tw F) aa ab H
noncomputable def aq.code:Go.Code:=(Try.f105.body).getD .skip
noncomputable def aq.lh61 (F:Nat) (cc:Sl→Int→Int→Hp→OA) (ks:List Nat) (n:Nat) (tm:Tm) (H:Hp):OA:=match ks,tm 1,tm 3,tm 4,tm 5 with
 | [],(.ptr bH cb),(.sl bQ),(.sl cj),(.int .i64 bE)=>aq.l61 F cc n bH cb bQ cj bE H
 | _,_,_,_,_=>none
theorem aq.lh61_inv {F:Nat} {cc:Sl→Int→Int→Hp→OA} {ks:List Nat} {n:Nat} {tm:Tm} {H:Hp} {r:AV×Hp} (h:aq.lh61 F cc ks n tm H = some r):∃ bH:Nat,∃ cb:Nat,∃ bQ:Sl,∃ cj:Sl,∃ bE:Int,ks = []∧tm 1 = (.ptr bH cb)∧tm 3 = (.sl bQ)∧tm 4 = (.sl cj)∧tm 5 = (.int .i64 bE)∧aq.l61 F cc n bH cb bQ cj bE H = some r:=by
 unfold aq.lh61 at h
 split at h
 ·exact ⟨_,_,_,_,_,rfl,by assumption,by assumption,by assumption,by assumption,h⟩
 ·cases h
noncomputable def aq.lh7853 (F:Nat) (cc:Sl→Int→Int→Hp→OA) (ks:List Nat) (n:Nat) (tm:Tm) (H:Hp):OA:=match ks,tm 1,tm 3,tm 4,tm 5,tm 6,tm 7 with
 | [ba],(.ptr b_ cz),(.sl cO),(.sl cL),(.int .i64 ch),(.sl bY),(.int .i64 bR)=>aq.l7853 F cc (aq.l61 F cc ba) n b_ cz cO cL ch bY bR H
 | _,_,_,_,_,_,_=>none
theorem aq.lh7853_inv {F:Nat} {cc:Sl→Int→Int→Hp→OA} {ks:List Nat} {n:Nat} {tm:Tm} {H:Hp} {r:AV×Hp} (h:aq.lh7853 F cc ks n tm H = some r):∃ ba:Nat,∃ b_:Nat,∃ cz:Nat,∃ cO:Sl,∃ cL:Sl,∃ ch:Int,∃ bY:Sl,∃ bR:Int,ks = [ba]∧tm 1 = (.ptr b_ cz)∧tm 3 = (.sl cO)∧tm 4 = (.sl cL)∧tm 5 = (.int .i64 ch)∧tm 6 = (.sl bY)∧tm 7 = (.int .i64 bR)∧aq.l7853 F cc (aq.l61 F cc ba) n b_ cz cO cL ch bY bR H = some r:=by
 unfold aq.lh7853 at h
 split at h
 ·exact ⟨_,_,_,_,_,_,_,_,rfl,by assumption,by assumption,by assumption,by assumption,by assumption,by assumption,h⟩
 ·cases h
noncomputable def aq.lh (F:Nat) (cc:Sl→Int→Int→Hp→OA) (p:Nat) (ks:List Nat) (n:Nat) (tm:Tm) (H:Hp):OA:=bif p.beq 7853 then aq.lh7853 F cc ks n tm H else (bif p.beq 61 then aq.lh61 F cc ks n tm H else (none))
def aq.pn:Nat→List Nat:=fun i=>(([]:List (Nat×List Nat)).lookup i).getD []
def aq.tb:Nat→List (List Nat):=fun i=>(([]:List (Nat×List (List Nat))).lookup i).getD []
noncomputable def aq.mk (g:Sl→Int→Hp→OA) (args:List AV) (H:Hp):OA:=match args with
 | [(.agg [(.sl aa),(.int .i64 ab)])]=>g aa ab H
 | _=>none
noncomputable def aq.cs (F:Nat) (cc:Sl→Int→Int→Hp→OA):List (FuncId×(List AV→Hp→OA)):=[(142,br.mk cc)]
theorem aq.loops (F:Nat) (cc:Sl→Int→Int→Hp→OA):LoopsOk tabs (mkOrc (aq.cs F cc)) aq.pn (aq.lh F cc) F [] 1 aq.code (fun tm H=>aresults tabs.ty H tm Try.f105.results.toList fun v=>some (v,H)) (fun _ _ _=>none) (fun tm H=>aresults tabs.ty H tm Try.f105.results.toList fun v=>some (v,H)):=by
 refine LoopsOk.seq ?_ ?_
 ·exact loops_none (by kernel_rfl)
 ·refine LoopsOk.seq ?_ ?_
  ·exact loops_none (by kernel_rfl)
  ·refine LoopsOk.seq ?_ ?_
   ·exact loops_none (by kernel_rfl)
   ·refine LoopsOk.seq ?_ ?_
    ·refine LoopsOk.seq ?_ ?_
     ·exact loops_none (by kernel_rfl)
     ·refine LoopsOk.block ?_
      refine LoopsOk.loop (fun tm H=>?_) (fun k61 tm H r h0=>?_) (fun k61=>?_)
      ·refine none_of fun r h0=>?_
       obtain ⟨bH,cb,bQ,cj,bE,hks,e1,e3,e4,e5,h⟩:=aq.lh61_inv (show aq.lh61 F cc [] 0 tm H = some r from h0)
       cases h
      ·obtain ⟨bH,cb,bQ,cj,bE,hks,e1,e3,e4,e5,h⟩:=aq.lh61_inv (show aq.lh61 F cc [] (k61 + 1) tm H = some r from h0)
       have q0:(Tm.put tm 1 (.ptr bH cb)) = tm:=by exact Tm.put_same e1
       have q1:(Tm.put (Tm.put tm 1 (.ptr bH cb)) 3 (.sl bQ)) = tm:=by rw [q0]; exact Tm.put_same e3
       have q2:(Tm.put (Tm.put (Tm.put tm 1 (.ptr bH cb)) 3 (.sl bQ)) 4 (.sl cj)) = tm:=by rw [q1]; exact Tm.put_same e4
       have q3:(Tm.put (Tm.put (Tm.put (Tm.put tm 1 (.ptr bH cb)) 3 (.sl bQ)) 4 (.sl cj)) 5 (.int .i64 bE)) = tm:=by rw [q2]; exact Tm.put_same e5
       rw [← q3]
       exact Eq.trans (by kernel_rfl) h
      ·refine LoopsOk.seq ?_ ?_
       ·exact loops_none (by kernel_rfl)
       ·refine LoopsOk.seq ?_ ?_
        ·refine LoopsOk.block ?_
         refine LoopsOk.seq ?_ ?_
         ·exact loops_none (by kernel_rfl)
         ·refine LoopsOk.seq ?_ ?_
          ·exact loops_none (by kernel_rfl)
          ·refine LoopsOk.seq ?_ ?_
           ·refine LoopsOk.seq ?_ ?_
            ·exact loops_none (by kernel_rfl)
            ·refine LoopsOk.block ?_
             refine LoopsOk.loop (fun tm H=>?_) (fun k7853 tm H r h0=>?_) (fun k7853=>?_)
             ·refine none_of fun r h0=>?_
              obtain ⟨ba,b_,cz,cO,cL,ch,bY,bR,hks,e1,e3,e4,e5,e6,e7,h⟩:=aq.lh7853_inv (show aq.lh7853 F cc [k61] 0 tm H = some r from h0)
              cases h
             ·obtain ⟨ba,b_,cz,cO,cL,ch,bY,bR,hks,e1,e3,e4,e5,e6,e7,h⟩:=aq.lh7853_inv (show aq.lh7853 F cc [k61] (k7853 + 1) tm H = some r from h0)
              obtain rfl:ba = k61:=by simpa [eq_comm] using hks
              have q0:(Tm.put tm 1 (.ptr b_ cz)) = tm:=by exact Tm.put_same e1
              have q1:(Tm.put (Tm.put tm 1 (.ptr b_ cz)) 3 (.sl cO)) = tm:=by rw [q0]; exact Tm.put_same e3
              have q2:(Tm.put (Tm.put (Tm.put tm 1 (.ptr b_ cz)) 3 (.sl cO)) 4 (.sl cL)) = tm:=by rw [q1]; exact Tm.put_same e4
              have q3:(Tm.put (Tm.put (Tm.put (Tm.put tm 1 (.ptr b_ cz)) 3 (.sl cO)) 4 (.sl cL)) 5 (.int .i64 ch)) = tm:=by rw [q2]; exact Tm.put_same e5
              have q4:(Tm.put (Tm.put (Tm.put (Tm.put (Tm.put tm 1 (.ptr b_ cz)) 3 (.sl cO)) 4 (.sl cL)) 5 (.int .i64 ch)) 6 (.sl bY)) = tm:=by rw [q3]; exact Tm.put_same e6
              have q5:(Tm.put (Tm.put (Tm.put (Tm.put (Tm.put (Tm.put tm 1 (.ptr b_ cz)) 3 (.sl cO)) 4 (.sl cL)) 5 (.int .i64 ch)) 6 (.sl bY)) 7 (.int .i64 bR)) = tm:=by rw [q4]; exact Tm.put_same e7
              rw [← q5]
              exact Eq.trans (by kernel_rfl) h
             ·exact loops_none (by kernel_rfl)
           ·exact loops_none (by kernel_rfl)
        ·exact loops_none (by kernel_rfl)
    ·exact loops_none (by kernel_rfl)
theorem aq.eqX (F:Nat) (cc:Sl→Int→Int→Hp→OA) (aa:Sl) (ab:Int) (H:Hp):aCode tabs (mkOrc (aq.cs F cc)) aq.pn (aq.lh F cc) F [] 1 aq.code (argTm [(.agg [(.sl aa),(.int .i64 ab)])]) H (fun tm H=>aresults tabs.ty H tm Try.f105.results.toList fun v=>some (v,H)) (fun _ _ _=>none) (fun tm H=>aresults tabs.ty H tm Try.f105.results.toList fun v=>some (v,H)) = aq.twX F cc aa ab H:=by kernel_rfl
theorem aq.cs_ok (F:Nat):∀ p ∈ aq.cs F (br.tw F),∀ args H v H',p.2 args H = some (v,H')→Go.AE.T Try.prog p.1 args H v H':=by
 intro p hp
 simp only [aq.cs,List.mem_cons,List.not_mem_nil,or_false] at hp
 subst hp
 exact fun args H v H' h=>br.mk_T h
theorem aq.ok:codeOk aq.pn Try.f105.ntmps aq.tb aq.code = true:=by kernel_rfl
theorem aq.T {F:Nat} {aa:Sl} {ab:Int} {H:Hp} {v:AV} {H':Hp} (h:aq.tw F aa ab H = some (v,H')):Go.AE.T Try.prog 105 [(.agg [(.sl aa),(.int .i64 ab)])] H v H':=
 Go.AE.T.of (Y:=tabs) (C:=mkOrc (aq.cs F (br.tw F))) (PN:=aq.pn) (LH:=aq.lh F (br.tw F)) (F:=F) (TB:=aq.tb) (fn:=Try.f105) (code:=aq.code) mixed tabs_ok (mkOrc_ok (aq.cs_ok F)) Try.func105 (by kernel_rfl) (by kernel_rfl) aq.ok (Nat.le_of_ble_eq_true (by kernel_rfl)) (aq.loops F (br.tw F)) (Eq.trans (aq.eqX F (br.tw F) aa ab H) h)
theorem aq.mk_T {F:Nat} {args:List AV} {H:Hp} {v:AV} {H':Hp} (h:aq.mk (aq.tw F) args H = some (v,H')):Go.AE.T Try.prog 105 args H v H':=by
 unfold aq.mk at h
 split at h
 ·exact aq.T h
 ·cases h
noncomputable def ag.j6 (F:Nat) (bg:Sl→Int→Int→Bool→Hp→OA) (C61_:Nat→Nat→Sl→Int→Hp→OA) (rB:Nat) (FZ:Nat) (F_:Sl) (mp:Int) (H243:Hp):OA:=C61_ rB FZ F_ (IntKind.i64.wrap (mp + 1)) H243
noncomputable def ag.j7 (F:Nat) (bg:Sl→Int→Int→Bool→Hp→OA) (C61_:Nat→Nat→Sl→Int→Hp→OA) (rC:Nat) (Ga:Nat) (mq:Sl) (kS:Int) (H226:Hp):OA:=ag.j6 F bg C61_ rC Ga mq kS H226
noncomputable def ag.j8 (F:Nat) (bg:Sl→Int→Int→Bool→Hp→OA) (C7855_:Nat→Nat→Sl→Int→Int→Int→Int→Hp→OA) (rD:Nat) (Gb:Nat) (Gc:Sl) (mr:Int) (ms:Int) (mu:Int) (mv:Int) (H265:Hp):OA:=C7855_ rD Gb Gc mr ms mu (IntKind.i64.wrap (mv + 1)) H265
noncomputable def ag.l7855 (F:Nat) (bg:Sl→Int→Int→Bool→Hp→OA) (C61_:Nat→Nat→Sl→Int→Hp→OA):Nat→Nat→Nat→Sl→Int→Int→Int→Int→Hp→OA
 | 0,_,_,_,_,_,_,_,_=>none
 | zz + 1,eB,gb,fy,dK,cS,dd,dz,H187=>(bif (decide (dz < (fy.n:Int))) then ((Sl.idx fy dz 1).bind fun p244=>(Hp.ldI H187 .i64 p244.1 p244.2).bind fun n245=>(bif (n245 == (if dd > cS then dd else cS)) then ((Sl.idx fy dz 1).bind fun p246=>(Hp.st H187 p246.1 p246.2 (.int .i64 (if dd < cS then dd else cS))).bind fun H247=>ag.j8 F bg (ag.l7855 F bg C61_ zz) eB gb fy dK cS dd dz H247) else (ag.j8 F bg (ag.l7855 F bg C61_ zz) eB gb fy dK cS dd dz H187))) else (ag.j7 F bg C61_ eB gb fy dK H187))
termination_by structural n=>n
noncomputable def ag.l61 (F:Nat) (bg:Sl→Int→Int→Bool→Hp→OA) :Nat→Nat→Nat→Sl→Int→Hp→OA
 | 0,_,_,_,_,_=>none
 | ba + 1,bZ,gc,hG,eb,H35=>(Hp.ldSl H35 bZ gc).bind fun s151=>(bif (decide (eb < (IntKind.i64.wrap (2 * (s151.n:Int))))) then ((Hp.ldSl H35 bZ gc).bind fun s152=>(Hp.ldI H35 .i64 bZ (gc + 1)).bind fun n153=>(bg s152 n153 eb true H35).bind fun r154=>((r154.1).asTup 2).bind fun l155=>(l155[0]?).bind fun v156=>((v156).asI .i64).bind fun n157=>(l155[1]?).bind fun v158=>((v158).asI .i64).bind fun n159=>(Hp.ldSl r154.2 bZ gc).bind fun s160=>(Hp.ldI r154.2 .i64 bZ (gc + 1)).bind fun n161=>(bg s160 n161 eb false r154.2).bind fun r162=>((r162.1).asTup 2).bind fun l163=>(l163[0]?).bind fun v164=>((v164).asI .i64).bind fun n165=>(l163[1]?).bind fun v166=>((v166).asI .i64).bind fun n167=>(Sl.idx hG n157 1).bind fun p168=>(Hp.ldI r162.2 .i64 p168.1 p168.2).bind fun n169=>(Sl.idx hG n165 1).bind fun p170=>(Hp.ldI r162.2 .i64 p170.1 p170.2).bind fun n171=>ag.l7855 F bg (ag.l61 F bg ba) F bZ gc hG eb n169 n171 0 r162.2) else (some ((.sl hG),H35)))
termination_by structural n=>n
noncomputable def ag.j9 (F:Nat) (bg:Sl→Int→Int→Bool→Hp→OA) (rE:Nat) (mw:Nat) (Gd:Sl) (H25:Hp):OA:=ag.l61 F bg F rE mw Gd 0 H25
noncomputable def ag.l29 (F:Nat) (bg:Sl→Int→Int→Bool→Hp→OA) :Nat→Nat→Nat→Sl→Int→Hp→OA
 | 0,_,_,_,_,_=>none
 | dr + 1,cq,bT,cR,cH,H12=>(Hp.ldSl H12 cq bT).bind fun s266=>(bif (decide (cH < (s266.n:Int))) then ((Hp.new H12 [(.int .i64 cH)]).bind fun H267=>(Sl.row H267 (⟨some (H12.length,0),1,.ex 1⟩:Sl) 1).bind fun xs269=>(Hp.app H267 1 8 cR (⟨some (H12.length,0),1,.ex 1⟩:Sl).n xs269).bind fun a268=>ag.l29 F bg dr cq bT a268.1 (IntKind.i64.wrap (cH + 1)) a268.2) else (ag.j9 F bg cq bT cR H12))
termination_by structural n=>n
noncomputable def ag.twX (F:Nat) (bg:Sl→Int→Int→Bool→Hp→OA) (aa:Sl) (ab:Int) (H:Hp):OA:=(Hp.new H [(.sl aa),(.int .i64 ab)]).bind fun H3=>(Hp.new H3 []).bind fun H4=>ag.l29 F bg F H.length 0 (⟨some (H3.length,0),0,.ex 0⟩:Sl) 0 H4
noncomputable def ag.tw (F:Nat) (aa:Sl) (ab:Int) (H:Hp):OA:=ag.twX F (aj.tw F) aa ab H
noncomputable def ag.code:Go.Code:=(Try.f122.body).getD .skip
noncomputable def ag.lh29 (F:Nat) (bg:Sl→Int→Int→Bool→Hp→OA) (ks:List Nat) (n:Nat) (tm:Tm) (H:Hp):OA:=match ks,tm 1,tm 3,tm 4 with
 | [],(.ptr cq bT),(.sl cR),(.int .i64 cH)=>ag.l29 F bg n cq bT cR cH H
 | _,_,_,_=>none
theorem ag.lh29_inv {F:Nat} {bg:Sl→Int→Int→Bool→Hp→OA} {ks:List Nat} {n:Nat} {tm:Tm} {H:Hp} {r:AV×Hp} (h:ag.lh29 F bg ks n tm H = some r):∃ cq:Nat,∃ bT:Nat,∃ cR:Sl,∃ cH:Int,ks = []∧tm 1 = (.ptr cq bT)∧tm 3 = (.sl cR)∧tm 4 = (.int .i64 cH)∧ag.l29 F bg n cq bT cR cH H = some r:=by
 unfold ag.lh29 at h
 split at h
 ·exact ⟨_,_,_,_,rfl,by assumption,by assumption,by assumption,h⟩
 ·cases h
noncomputable def ag.lh61 (F:Nat) (bg:Sl→Int→Int→Bool→Hp→OA) (ks:List Nat) (n:Nat) (tm:Tm) (H:Hp):OA:=match ks,tm 1,tm 3,tm 5 with
 | [],(.ptr bZ gc),(.sl hG),(.int .i64 eb)=>ag.l61 F bg n bZ gc hG eb H
 | _,_,_,_=>none
theorem ag.lh61_inv {F:Nat} {bg:Sl→Int→Int→Bool→Hp→OA} {ks:List Nat} {n:Nat} {tm:Tm} {H:Hp} {r:AV×Hp} (h:ag.lh61 F bg ks n tm H = some r):∃ bZ:Nat,∃ gc:Nat,∃ hG:Sl,∃ eb:Int,ks = []∧tm 1 = (.ptr bZ gc)∧tm 3 = (.sl hG)∧tm 5 = (.int .i64 eb)∧ag.l61 F bg n bZ gc hG eb H = some r:=by
 unfold ag.lh61 at h
 split at h
 ·exact ⟨_,_,_,_,rfl,by assumption,by assumption,by assumption,h⟩
 ·cases h
noncomputable def ag.lh7855 (F:Nat) (bg:Sl→Int→Int→Bool→Hp→OA) (ks:List Nat) (n:Nat) (tm:Tm) (H:Hp):OA:=match ks,tm 1,tm 3,tm 5,tm 10,tm 11,tm 12 with
 | [ba],(.ptr eB gb),(.sl fy),(.int .i64 dK),(.int .i64 cS),(.int .i64 dd),(.int .i64 dz)=>ag.l7855 F bg (ag.l61 F bg ba) n eB gb fy dK cS dd dz H
 | _,_,_,_,_,_,_=>none
theorem ag.lh7855_inv {F:Nat} {bg:Sl→Int→Int→Bool→Hp→OA} {ks:List Nat} {n:Nat} {tm:Tm} {H:Hp} {r:AV×Hp} (h:ag.lh7855 F bg ks n tm H = some r):∃ ba:Nat,∃ eB:Nat,∃ gb:Nat,∃ fy:Sl,∃ dK:Int,∃ cS:Int,∃ dd:Int,∃ dz:Int,ks = [ba]∧tm 1 = (.ptr eB gb)∧tm 3 = (.sl fy)∧tm 5 = (.int .i64 dK)∧tm 10 = (.int .i64 cS)∧tm 11 = (.int .i64 dd)∧tm 12 = (.int .i64 dz)∧ag.l7855 F bg (ag.l61 F bg ba) n eB gb fy dK cS dd dz H = some r:=by
 unfold ag.lh7855 at h
 split at h
 ·exact ⟨_,_,_,_,_,_,_,_,rfl,by assumption,by assumption,by assumption,by assumption,by assumption,by assumption,h⟩
 ·cases h
noncomputable def ag.lh (F:Nat) (bg:Sl→Int→Int→Bool→Hp→OA) (p:Nat) (ks:List Nat) (n:Nat) (tm:Tm) (H:Hp):OA:=bif p.beq 7855 then ag.lh7855 F bg ks n tm H else (bif p.beq 61 then ag.lh61 F bg ks n tm H else (bif p.beq 29 then ag.lh29 F bg ks n tm H else (none)))
def ag.pn:Nat→List Nat:=fun i=>(([(11,[])]:List (Nat×List Nat)).lookup i).getD []
def ag.tb:Nat→List (List Nat):=fun i=>(([(11,[[],[],[0,1],[0,1,2],[],[],[4,5],[4,5,6],[0,1,2,3],[0,1,2,3,4,5,6,7,8]])]:List (Nat×List (List Nat))).lookup i).getD []
noncomputable def ag.mk (g:Sl→Int→Hp→OA) (args:List AV) (H:Hp):OA:=match args with
 | [(.agg [(.sl aa),(.int .i64 ab)])]=>g aa ab H
 | _=>none
noncomputable def ag.cs (F:Nat) (bg:Sl→Int→Int→Bool→Hp→OA):List (FuncId×(List AV→Hp→OA)):=[(152,aj.mk bg)]
theorem ag.loops (F:Nat) (bg:Sl→Int→Int→Bool→Hp→OA):LoopsOk tabs (mkOrc (ag.cs F bg)) ag.pn (ag.lh F bg) F [] 1 ag.code (fun tm H=>aresults tabs.ty H tm Try.f122.results.toList fun v=>some (v,H)) (fun _ _ _=>none) (fun tm H=>aresults tabs.ty H tm Try.f122.results.toList fun v=>some (v,H)):=by
 refine LoopsOk.seq ?_ ?_
 ·exact loops_none (by kernel_rfl)
 ·refine LoopsOk.seq ?_ ?_
  ·exact loops_none (by kernel_rfl)
  ·refine LoopsOk.seq ?_ ?_
   ·refine LoopsOk.seq ?_ ?_
    ·exact loops_none (by kernel_rfl)
    ·refine LoopsOk.block ?_
     refine LoopsOk.loop (fun tm H=>?_) (fun k29 tm H r h0=>?_) (fun k29=>?_)
     ·refine none_of fun r h0=>?_
      obtain ⟨cq,bT,cR,cH,hks,e1,e3,e4,h⟩:=ag.lh29_inv (show ag.lh29 F bg [] 0 tm H = some r from h0)
      cases h
     ·obtain ⟨cq,bT,cR,cH,hks,e1,e3,e4,h⟩:=ag.lh29_inv (show ag.lh29 F bg [] (k29 + 1) tm H = some r from h0)
      have q0:(Tm.put tm 1 (.ptr cq bT)) = tm:=by exact Tm.put_same e1
      have q1:(Tm.put (Tm.put tm 1 (.ptr cq bT)) 3 (.sl cR)) = tm:=by rw [q0]; exact Tm.put_same e3
      have q2:(Tm.put (Tm.put (Tm.put tm 1 (.ptr cq bT)) 3 (.sl cR)) 4 (.int .i64 cH)) = tm:=by rw [q1]; exact Tm.put_same e4
      rw [← q2]
      exact Eq.trans (by kernel_rfl) h
     ·exact loops_none (by kernel_rfl)
   ·refine LoopsOk.seq ?_ ?_
    ·refine LoopsOk.seq ?_ ?_
     ·exact loops_none (by kernel_rfl)
     ·refine LoopsOk.block ?_
      refine LoopsOk.loop (fun tm H=>?_) (fun k61 tm H r h0=>?_) (fun k61=>?_)
      ·refine none_of fun r h0=>?_
       obtain ⟨bZ,gc,hG,eb,hks,e1,e3,e5,h⟩:=ag.lh61_inv (show ag.lh61 F bg [] 0 tm H = some r from h0)
       cases h
      ·obtain ⟨bZ,gc,hG,eb,hks,e1,e3,e5,h⟩:=ag.lh61_inv (show ag.lh61 F bg [] (k61 + 1) tm H = some r from h0)
       have q0:(Tm.put tm 1 (.ptr bZ gc)) = tm:=by exact Tm.put_same e1
       have q1:(Tm.put (Tm.put tm 1 (.ptr bZ gc)) 3 (.sl hG)) = tm:=by rw [q0]; exact Tm.put_same e3
       have q2:(Tm.put (Tm.put (Tm.put tm 1 (.ptr bZ gc)) 3 (.sl hG)) 5 (.int .i64 eb)) = tm:=by rw [q1]; exact Tm.put_same e5
       rw [← q2]
       exact Eq.trans (by kernel_rfl) h
      ·refine LoopsOk.seq ?_ ?_
       ·exact loops_none (by kernel_rfl)
       ·refine LoopsOk.seq ?_ ?_
        ·refine LoopsOk.block ?_
         refine LoopsOk.seq ?_ ?_
         ·exact loops_none (by kernel_rfl)
         ·refine LoopsOk.seq ?_ ?_
          ·exact loops_none (by kernel_rfl)
          ·refine LoopsOk.seq ?_ ?_
           ·exact loops_none (by kernel_rfl)
           ·refine LoopsOk.seq ?_ ?_
            ·exact loops_none (by kernel_rfl)
            ·refine LoopsOk.block ?_
             refine LoopsOk.loop (fun tm H=>?_) (fun k7855 tm H r h0=>?_) (fun k7855=>?_)
             ·refine none_of fun r h0=>?_
              obtain ⟨ba,eB,gb,fy,dK,cS,dd,dz,hks,e1,e3,e5,e10,e11,e12,h⟩:=ag.lh7855_inv (show ag.lh7855 F bg [k61] 0 tm H = some r from h0)
              cases h
             ·obtain ⟨ba,eB,gb,fy,dK,cS,dd,dz,hks,e1,e3,e5,e10,e11,e12,h⟩:=ag.lh7855_inv (show ag.lh7855 F bg [k61] (k7855 + 1) tm H = some r from h0)
              obtain rfl:ba = k61:=by simpa [eq_comm] using hks
              have q0:(Tm.put tm 1 (.ptr eB gb)) = tm:=by exact Tm.put_same e1
              have q1:(Tm.put (Tm.put tm 1 (.ptr eB gb)) 3 (.sl fy)) = tm:=by rw [q0]; exact Tm.put_same e3
              have q2:(Tm.put (Tm.put (Tm.put tm 1 (.ptr eB gb)) 3 (.sl fy)) 5 (.int .i64 dK)) = tm:=by rw [q1]; exact Tm.put_same e5
              have q3:(Tm.put (Tm.put (Tm.put (Tm.put tm 1 (.ptr eB gb)) 3 (.sl fy)) 5 (.int .i64 dK)) 10 (.int .i64 cS)) = tm:=by rw [q2]; exact Tm.put_same e10
              have q4:(Tm.put (Tm.put (Tm.put (Tm.put (Tm.put tm 1 (.ptr eB gb)) 3 (.sl fy)) 5 (.int .i64 dK)) 10 (.int .i64 cS)) 11 (.int .i64 dd)) = tm:=by rw [q3]; exact Tm.put_same e11
              have q5:(Tm.put (Tm.put (Tm.put (Tm.put (Tm.put (Tm.put tm 1 (.ptr eB gb)) 3 (.sl fy)) 5 (.int .i64 dK)) 10 (.int .i64 cS)) 11 (.int .i64 dd)) 12 (.int .i64 dz)) = tm:=by rw [q4]; exact Tm.put_same e12
              rw [← q5]
              exact Eq.trans (by kernel_rfl) h
             ·exact loops_none (by kernel_rfl)
        ·exact loops_none (by kernel_rfl)
    ·exact loops_none (by kernel_rfl)
theorem ag.eqX (F:Nat) (bg:Sl→Int→Int→Bool→Hp→OA) (aa:Sl) (ab:Int) (H:Hp):aCode tabs (mkOrc (ag.cs F bg)) ag.pn (ag.lh F bg) F [] 1 ag.code (argTm [(.agg [(.sl aa),(.int .i64 ab)])]) H (fun tm H=>aresults tabs.ty H tm Try.f122.results.toList fun v=>some (v,H)) (fun _ _ _=>none) (fun tm H=>aresults tabs.ty H tm Try.f122.results.toList fun v=>some (v,H)) = ag.twX F bg aa ab H:=by kernel_rfl
theorem ag.cs_ok (F:Nat):∀ p ∈ ag.cs F (aj.tw F),∀ args H v H',p.2 args H = some (v,H')→Go.AE.T Try.prog p.1 args H v H':=by
 intro p hp
 simp only [ag.cs,List.mem_cons,List.not_mem_nil,or_false] at hp
 subst hp
 exact fun args H v H' h=>aj.mk_T h
theorem ag.ok:codeOk ag.pn Try.f122.ntmps ag.tb ag.code = true:=by kernel_rfl
theorem ag.T {F:Nat} {aa:Sl} {ab:Int} {H:Hp} {v:AV} {H':Hp} (h:ag.tw F aa ab H = some (v,H')):Go.AE.T Try.prog 122 [(.agg [(.sl aa),(.int .i64 ab)])] H v H':=
 Go.AE.T.of (Y:=tabs) (C:=mkOrc (ag.cs F (aj.tw F))) (PN:=ag.pn) (LH:=ag.lh F (aj.tw F)) (F:=F) (TB:=ag.tb) (fn:=Try.f122) (code:=ag.code) mixed tabs_ok (mkOrc_ok (ag.cs_ok F)) Try.func122 (by kernel_rfl) (by kernel_rfl) ag.ok (Nat.le_of_ble_eq_true (by kernel_rfl)) (ag.loops F (aj.tw F)) (Eq.trans (ag.eqX F (aj.tw F) aa ab H) h)
theorem ag.mk_T {F:Nat} {args:List AV} {H:Hp} {v:AV} {H':Hp} (h:ag.mk (ag.tw F) args H = some (v,H')):Go.AE.T Try.prog 122 args H v H':=by
 unfold ag.mk at h
 split at h
 ·exact ag.T h
 ·cases h
noncomputable def aE.j2 (F:Nat) (dk:Sl→Int→Hp→OA) (C61_:Int→Sl→Int→Hp→OA) (mx:Int) (Ge:Sl) (mz:Int) (H42:Hp):OA:=C61_ mx Ge (IntKind.i64.wrap (mz + 1)) H42
noncomputable def aE.l61 (F:Nat) (dk:Sl→Int→Hp→OA) :Nat→Int→Sl→Int→Hp→OA
 | 0,_,_,_,_=>none
 | ba + 1,ec,hH,dA,H16=>(bif (decide (dA < (hH.n:Int))) then ((Sl.idx hH dA 1).bind fun p30=>(Hp.ldI H16 .i64 p30.1 p30.2).bind fun n31=>(bif (n31 == dA) then (aE.j2 F dk (aE.l61 F dk ba) (IntKind.i64.wrap (ec + 1)) hH dA H16) else (aE.j2 F dk (aE.l61 F dk ba) ec hH dA H16))) else (some ((.int .i64 ec),H16)))
termination_by structural n=>n
noncomputable def aE.twX (F:Nat) (dk:Sl→Int→Hp→OA) (aa:Sl) (ab:Int) (H:Hp):OA:=(Hp.new H [(.sl aa),(.int .i64 ab)]).bind fun H3=>(Hp.ldSl H3 H.length 0).bind fun s4=>(Hp.ldI H3 .i64 H.length (0 + 1)).bind fun n5=>(dk s4 n5 H3).bind fun r6=>((r6.1).asSl).bind fun s7=>aE.l61 F dk F 0 s7 0 r6.2
noncomputable def aE.tw (F:Nat) (aa:Sl) (ab:Int) (H:Hp):OA:=aE.twX F (ag.tw F) aa ab H
noncomputable def aE.code:Go.Code:=(Try.f97.body).getD .skip
noncomputable def aE.lh61 (F:Nat) (dk:Sl→Int→Hp→OA) (ks:List Nat) (n:Nat) (tm:Tm) (H:Hp):OA:=match ks,tm 3,tm 4,tm 5 with
 | [],(.int .i64 ec),(.sl hH),(.int .i64 dA)=>aE.l61 F dk n ec hH dA H
 | _,_,_,_=>none
theorem aE.lh61_inv {F:Nat} {dk:Sl→Int→Hp→OA} {ks:List Nat} {n:Nat} {tm:Tm} {H:Hp} {r:AV×Hp} (h:aE.lh61 F dk ks n tm H = some r):∃ ec:Int,∃ hH:Sl,∃ dA:Int,ks = []∧tm 3 = (.int .i64 ec)∧tm 4 = (.sl hH)∧tm 5 = (.int .i64 dA)∧aE.l61 F dk n ec hH dA H = some r:=by
 unfold aE.lh61 at h
 split at h
 ·exact ⟨_,_,_,rfl,by assumption,by assumption,by assumption,h⟩
 ·cases h
noncomputable def aE.lh (F:Nat) (dk:Sl→Int→Hp→OA) (p:Nat) (ks:List Nat) (n:Nat) (tm:Tm) (H:Hp):OA:=bif p.beq 61 then aE.lh61 F dk ks n tm H else (none)
def aE.pn:Nat→List Nat:=fun i=>(([]:List (Nat×List Nat)).lookup i).getD []
def aE.tb:Nat→List (List Nat):=fun i=>(([]:List (Nat×List (List Nat))).lookup i).getD []
noncomputable def aE.mk (g:Sl→Int→Hp→OA) (args:List AV) (H:Hp):OA:=match args with
 | [(.agg [(.sl aa),(.int .i64 ab)])]=>g aa ab H
 | _=>none
noncomputable def aE.cs (F:Nat) (dk:Sl→Int→Hp→OA):List (FuncId×(List AV→Hp→OA)):=[(122,ag.mk dk)]
theorem aE.loops (F:Nat) (dk:Sl→Int→Hp→OA):LoopsOk tabs (mkOrc (aE.cs F dk)) aE.pn (aE.lh F dk) F [] 1 aE.code (fun tm H=>aresults tabs.ty H tm Try.f97.results.toList fun v=>some (v,H)) (fun _ _ _=>none) (fun tm H=>aresults tabs.ty H tm Try.f97.results.toList fun v=>some (v,H)):=by
 refine LoopsOk.seq ?_ ?_
 ·exact loops_none (by kernel_rfl)
 ·refine LoopsOk.seq ?_ ?_
  ·exact loops_none (by kernel_rfl)
  ·refine LoopsOk.seq ?_ ?_
   ·exact loops_none (by kernel_rfl)
   ·refine LoopsOk.seq ?_ ?_
    ·refine LoopsOk.seq ?_ ?_
     ·exact loops_none (by kernel_rfl)
     ·refine LoopsOk.block ?_
      refine LoopsOk.loop (fun tm H=>?_) (fun k61 tm H r h0=>?_) (fun k61=>?_)
      ·refine none_of fun r h0=>?_
       obtain ⟨ec,hH,dA,hks,e3,e4,e5,h⟩:=aE.lh61_inv (show aE.lh61 F dk [] 0 tm H = some r from h0)
       cases h
      ·obtain ⟨ec,hH,dA,hks,e3,e4,e5,h⟩:=aE.lh61_inv (show aE.lh61 F dk [] (k61 + 1) tm H = some r from h0)
       have q0:(Tm.put tm 3 (.int .i64 ec)) = tm:=by exact Tm.put_same e3
       have q1:(Tm.put (Tm.put tm 3 (.int .i64 ec)) 4 (.sl hH)) = tm:=by rw [q0]; exact Tm.put_same e4
       have q2:(Tm.put (Tm.put (Tm.put tm 3 (.int .i64 ec)) 4 (.sl hH)) 5 (.int .i64 dA)) = tm:=by rw [q1]; exact Tm.put_same e5
       rw [← q2]
       exact Eq.trans (by kernel_rfl) h
      ·exact loops_none (by kernel_rfl)
    ·exact loops_none (by kernel_rfl)
theorem aE.eqX (F:Nat) (dk:Sl→Int→Hp→OA) (aa:Sl) (ab:Int) (H:Hp):aCode tabs (mkOrc (aE.cs F dk)) aE.pn (aE.lh F dk) F [] 1 aE.code (argTm [(.agg [(.sl aa),(.int .i64 ab)])]) H (fun tm H=>aresults tabs.ty H tm Try.f97.results.toList fun v=>some (v,H)) (fun _ _ _=>none) (fun tm H=>aresults tabs.ty H tm Try.f97.results.toList fun v=>some (v,H)) = aE.twX F dk aa ab H:=by kernel_rfl
theorem aE.cs_ok (F:Nat):∀ p ∈ aE.cs F (ag.tw F),∀ args H v H',p.2 args H = some (v,H')→Go.AE.T Try.prog p.1 args H v H':=by
 intro p hp
 simp only [aE.cs,List.mem_cons,List.not_mem_nil,or_false] at hp
 subst hp
 exact fun args H v H' h=>ag.mk_T h
theorem aE.ok:codeOk aE.pn Try.f97.ntmps aE.tb aE.code = true:=by kernel_rfl
theorem aE.T {F:Nat} {aa:Sl} {ab:Int} {H:Hp} {v:AV} {H':Hp} (h:aE.tw F aa ab H = some (v,H')):Go.AE.T Try.prog 97 [(.agg [(.sl aa),(.int .i64 ab)])] H v H':=
 Go.AE.T.of (Y:=tabs) (C:=mkOrc (aE.cs F (ag.tw F))) (PN:=aE.pn) (LH:=aE.lh F (ag.tw F)) (F:=F) (TB:=aE.tb) (fn:=Try.f97) (code:=aE.code) mixed tabs_ok (mkOrc_ok (aE.cs_ok F)) Try.func97 (by kernel_rfl) (by kernel_rfl) aE.ok (Nat.le_of_ble_eq_true (by kernel_rfl)) (aE.loops F (ag.tw F)) (Eq.trans (aE.eqX F (ag.tw F) aa ab H) h)
theorem aE.mk_T {F:Nat} {args:List AV} {H:Hp} {v:AV} {H':Hp} (h:aE.mk (aE.tw F) args H = some (v,H')):Go.AE.T Try.prog 97 args H v H':=by
 unfold aE.mk at h
 split at h
 ·exact aE.T h
 ·cases h
noncomputable def bn.twX (F:Nat) (aK:Int→Int→Int→Hp→OA) (iH:Sl→Int→Hp→OA) (iI:Sl→Int→Hp→OA) (iJ:Sl→Int→Hp→OA) (aa:Sl) (ab:Int) (H:Hp):OA:=(Hp.new H [(.sl aa),(.int .i64 ab)]).bind fun H3=>(Hp.ldSl H3 H.length 0).bind fun s4=>(bif (decide ((s4.n:Int) > 10)) then (some ((.bool false),H3)) else ((Hp.ldI H3 .i64 H.length 1).bind fun n5=>(aK n5 0 8 H3).bind fun r6=>((r6.1).asB).bind fun b7=>(bif (!b7) then (some ((.bool false),r6.2)) else ((Hp.ldSl r6.2 H.length 0).bind fun s8=>(Hp.ldI r6.2 .i64 H.length (0 + 1)).bind fun n9=>(iH s8 n9 r6.2).bind fun r10=>((r10.1).asB).bind fun b11=>(bif (!b11) then (some ((.bool false),r10.2)) else ((Hp.ldSl r10.2 H.length 0).bind fun s12=>(Hp.ldI r10.2 .i64 H.length (0 + 1)).bind fun n13=>(iI s12 n13 r10.2).bind fun r14=>((r14.1).asSl).bind fun s15=>(if Cons r10.2 r14.2 then ((Hp.ldSl r14.2 H.length 0).bind fun s16=>(Hp.ldSl r14.2 H.length 0).bind fun s17=>(Hp.ldI r14.2 .i64 H.length (0 + 1)).bind fun n18=>(iJ s17 n18 r14.2).bind fun r19=>((r19.1).asI .i64).bind fun n20=>(if Cons r14.2 r19.2 then (some ((.bool ((s15.n:Int) == (IntKind.i64.wrap ((s16.n:Int) + (IntKind.i64.wrap (2 * n20)))))),r19.2)) else none)) else none)))))))
noncomputable def bn.tw (F:Nat) (aa:Sl) (ab:Int) (H:Hp):OA:=bn.twX F (aX.tw F) (aw.tw F) (aq.tw F) (aE.tw F) aa ab H
noncomputable def bn.code:Go.Code:=(Try.f50.body).getD .skip
noncomputable def bn.lh (F:Nat) (aK:Int→Int→Int→Hp→OA) (iH:Sl→Int→Hp→OA) (iI:Sl→Int→Hp→OA) (iJ:Sl→Int→Hp→OA) (p:Nat) (ks:List Nat) (n:Nat) (tm:Tm) (H:Hp):OA:=none
def bn.pn:Nat→List Nat:=fun i=>(([(3,[])]:List (Nat×List Nat)).lookup i).getD []
def bn.tb:Nat→List (List Nat):=fun i=>(([(3,[[],[0],[0,1],[],[3],[3,4],[],[0,1,6],[0,1,6,7],[0,1,3,4,5,6,7,8],[0,1,2,3,4,5,6,7,8,9],[0,1,2,3,4,5,6,7,8,9,10]])]:List (Nat×List (List Nat))).lookup i).getD []
noncomputable def bn.mk (g:Sl→Int→Hp→OA) (args:List AV) (H:Hp):OA:=match args with
 | [(.agg [(.sl aa),(.int .i64 ab)])]=>g aa ab H
 | _=>none
noncomputable def bn.cs (F:Nat) (aK:Int→Int→Int→Hp→OA) (iH:Sl→Int→Hp→OA) (iI:Sl→Int→Hp→OA) (iJ:Sl→Int→Hp→OA):List (FuncId×(List AV→Hp→OA)):=[(65,aX.mk aK),(104,aw.mk iH),(105,aq.mk iI),(97,aE.mk iJ)]
theorem bn.loops (F:Nat) (aK:Int→Int→Int→Hp→OA) (iH:Sl→Int→Hp→OA) (iI:Sl→Int→Hp→OA) (iJ:Sl→Int→Hp→OA):LoopsOk tabs (mkOrc (bn.cs F aK iH iI iJ)) bn.pn (bn.lh F aK iH iI iJ) F [] 1 bn.code (fun tm H=>aresults tabs.ty H tm Try.f50.results.toList fun v=>some (v,H)) (fun _ _ _=>none) (fun tm H=>aresults tabs.ty H tm Try.f50.results.toList fun v=>some (v,H)):=by
 exact loops_none (by kernel_rfl)
theorem bn.eqX (F:Nat) (aK:Int→Int→Int→Hp→OA) (iH:Sl→Int→Hp→OA) (iI:Sl→Int→Hp→OA) (iJ:Sl→Int→Hp→OA) (aa:Sl) (ab:Int) (H:Hp):aCode tabs (mkOrc (bn.cs F aK iH iI iJ)) bn.pn (bn.lh F aK iH iI iJ) F [] 1 bn.code (argTm [(.agg [(.sl aa),(.int .i64 ab)])]) H (fun tm H=>aresults tabs.ty H tm Try.f50.results.toList fun v=>some (v,H)) (fun _ _ _=>none) (fun tm H=>aresults tabs.ty H tm Try.f50.results.toList fun v=>some (v,H)) = bn.twX F aK iH iI iJ aa ab H:=by kernel_rfl
theorem bn.cs_ok (F:Nat):∀ p ∈ bn.cs F (aX.tw F) (aw.tw F) (aq.tw F) (aE.tw F),∀ args H v H',p.2 args H = some (v,H')→Go.AE.T Try.prog p.1 args H v H':=by
 intro p hp
 simp only [bn.cs,List.mem_cons,List.not_mem_nil,or_false] at hp
 rcases hp with rfl | rfl | rfl | rfl
 ·exact fun args H v H' h=>aX.mk_T h
 ·exact fun args H v H' h=>aw.mk_T h
 ·exact fun args H v H' h=>aq.mk_T h
 ·exact fun args H v H' h=>aE.mk_T h
theorem bn.ok:codeOk bn.pn Try.f50.ntmps bn.tb bn.code = true:=by kernel_rfl
theorem bn.T {F:Nat} {aa:Sl} {ab:Int} {H:Hp} {v:AV} {H':Hp} (h:bn.tw F aa ab H = some (v,H')):Go.AE.T Try.prog 50 [(.agg [(.sl aa),(.int .i64 ab)])] H v H':=
 Go.AE.T.of (Y:=tabs) (C:=mkOrc (bn.cs F (aX.tw F) (aw.tw F) (aq.tw F) (aE.tw F))) (PN:=bn.pn) (LH:=bn.lh F (aX.tw F) (aw.tw F) (aq.tw F) (aE.tw F)) (F:=F) (TB:=bn.tb) (fn:=Try.f50) (code:=bn.code) mixed tabs_ok (mkOrc_ok (bn.cs_ok F)) Try.func50 (by kernel_rfl) (by kernel_rfl) bn.ok (Nat.le_of_ble_eq_true (by kernel_rfl)) (bn.loops F (aX.tw F) (aw.tw F) (aq.tw F) (aE.tw F)) (Eq.trans (bn.eqX F (aX.tw F) (aw.tw F) (aq.tw F) (aE.tw F) aa ab H) h)
theorem bn.mk_T {F:Nat} {args:List AV} {H:Hp} {v:AV} {H':Hp} (h:bn.mk (bn.tw F) args H = some (v,H')):Go.AE.T Try.prog 50 args H v H':=by
 unfold bn.mk at h
 split at h
 ·exact bn.T h
 ·cases h
noncomputable def ad.j6 (F:Nat) (rF:Nat) (Gf:Nat) (Gg:Sl) (mA:Int) (H211:Hp):OA:=(Hp.ldI H211 .i64 rF (Gf + 1)).bind fun n212=>some ((.tup [(.sl Gg),(.int .i64 (IntKind.i64.wrap (mA + n212)))]),H211)
noncomputable def ad.j7 (F:Nat) (C509_:Nat→Nat→Sl→Sl→Int→Int→Hp→OA) (rG:Nat) (Gh:Nat) (Gi:Sl) (Gj:Sl) (mB:Int) (mC:Int) (H234:Hp):OA:=C509_ rG Gh Gi Gj mB (IntKind.i64.wrap (mC + 1)) H234
noncomputable def ad.l509 (F:Nat) :Nat→Nat→Nat→Sl→Sl→Int→Int→Hp→OA
 | 0,_,_,_,_,_,_,_=>none
 | ii + 1,eK,gp,gd,gI,du,dl,H166=>(bif (decide (dl < (gd.n:Int))) then ((Sl.idx gd dl 1).bind fun p213=>(Hp.ldI H166 .i64 p213.1 p213.2).bind fun n214=>(bif (n214 == dl) then ((Hp.new H166 [(.int .i64 du)]).bind fun H215=>(Sl.row H215 (⟨some (H166.length,0),1,.ex 1⟩:Sl) 1).bind fun xs217=>(Hp.app H215 1 8 gI (⟨some (H166.length,0),1,.ex 1⟩:Sl).n xs217).bind fun a216=>ad.j7 F (ad.l509 F ii) eK gp gd a216.1 (IntKind.i64.wrap (du + 1)) dl a216.2) else ((Sl.idx gd dl 1).bind fun p235=>(Hp.ldI H166 .i64 p235.1 p235.2).bind fun n236=>(Sl.idx gI n236 1).bind fun p237=>(Hp.ldI H166 .i64 p237.1 p237.2).bind fun n238=>(Hp.new H166 [(.int .i64 n238)]).bind fun H239=>(Sl.row H239 (⟨some (H166.length,0),1,.ex 1⟩:Sl) 1).bind fun xs241=>(Hp.app H239 1 8 gI (⟨some (H166.length,0),1,.ex 1⟩:Sl).n xs241).bind fun a240=>ad.j7 F (ad.l509 F ii) eK gp gd a240.1 du dl a240.2))) else (ad.j6 F eK gp gI du H166))
termination_by structural n=>n
noncomputable def ad.j8 (F:Nat) (rH:Nat) (Gk:Nat) (Gl:Sl) (H150:Hp):OA:=(Hp.new H150 []).bind fun H151=>ad.l509 F F rH Gk Gl (⟨some (H150.length,0),0,.ex 0⟩:Sl) 0 0 H151
noncomputable def ad.j10 (F:Nat) (C61_:Nat→Nat→Sl→Int→Hp→OA) (rI:Nat) (Gn:Nat) (Gp:Sl) (mD:Int) (H320:Hp):OA:=C61_ rI Gn Gp (IntKind.i64.wrap (mD + 1)) H320
noncomputable def ad.j11 (F:Nat) (C61_:Nat→Nat→Sl→Int→Hp→OA) (rJ:Nat) (Gq:Nat) (Gr:Sl) (mE:Int) (H304:Hp):OA:=ad.j10 F C61_ rJ Gq Gr mE H304
noncomputable def ad.j12 (F:Nat) (C1963_:Nat→Nat→Sl→Int→Int→Int→Int→Hp→OA) (rK:Nat) (Gs:Nat) (Gt:Sl) (mF:Int) (mG:Int) (mH:Int) (mI:Int) (H341:Hp):OA:=C1963_ rK Gs Gt mF mG mH (IntKind.i64.wrap (mI + 1)) H341
noncomputable def ad.l1963 (F:Nat) (C61_:Nat→Nat→Sl→Int→Hp→OA):Nat→Nat→Nat→Sl→Int→Int→Int→Int→Hp→OA
 | 0,_,_,_,_,_,_,_,_=>none
 | zA + 1,eC,gf,fz,dL,cT,de,dB,H267=>(bif (decide (dB < (fz.n:Int))) then ((Sl.idx fz dB 1).bind fun p321=>(Hp.ldI H267 .i64 p321.1 p321.2).bind fun n322=>(bif (n322 == (if de > cT then de else cT)) then ((Sl.idx fz dB 1).bind fun p323=>(Hp.st H267 p323.1 p323.2 (.int .i64 (if de < cT then de else cT))).bind fun H324=>ad.j12 F (ad.l1963 F C61_ zA) eC gf fz dL cT de dB H324) else (ad.j12 F (ad.l1963 F C61_ zA) eC gf fz dL cT de dB H267))) else (ad.j11 F C61_ eC gf fz dL H267))
termination_by structural n=>n
noncomputable def ad.l61 (F:Nat) :Nat→Nat→Nat→Sl→Int→Hp→OA
 | 0,_,_,_,_,_=>none
 | ba + 1,eL,gq,hI,ed,H38=>(Hp.ldSl H38 eL gq).bind fun s242=>(bif (decide (ed < (s242.n:Int))) then ((Hp.ldSl H38 eL gq).bind fun s243=>(Sl.idx s243 ed 5).bind fun p244=>(Hp.ldI H38 .i64 p244.1 (p244.2 + 1)).bind fun n245=>(Sl.idx hI n245 1).bind fun p246=>(Hp.ldI H38 .i64 p246.1 p246.2).bind fun n247=>(Hp.ldSl H38 eL gq).bind fun s248=>(Sl.idx s248 ed 5).bind fun p249=>(Hp.ldI H38 .i64 p249.1 (p249.2 + 3)).bind fun n250=>(Sl.idx hI n250 1).bind fun p251=>(Hp.ldI H38 .i64 p251.1 p251.2).bind fun n252=>ad.l1963 F (ad.l61 F ba) F eL gq hI ed n247 n252 0 H38) else (ad.j8 F eL gq hI H38))
termination_by structural n=>n
noncomputable def ad.j13 (F:Nat) (mw:Nat) (Gu:Nat) (Gv:Sl) (H27:Hp):OA:=ad.l61 F F mw Gu Gv 0 H27
noncomputable def ad.l29 (F:Nat) :Nat→Nat→Nat→Sl→Int→Hp→OA
 | 0,_,_,_,_,_=>none
 | dr + 1,cq,bT,cH,ee,H13=>(Hp.ldSl H13 cq bT).bind fun s342=>(bif (decide (ee < (IntKind.i64.wrap (2 * (s342.n:Int))))) then ((Hp.new H13 [(.int .i64 ee)]).bind fun H343=>(Sl.row H343 (⟨some (H13.length,0),1,.ex 1⟩:Sl) 1).bind fun xs345=>(Hp.app H343 1 8 cH (⟨some (H13.length,0),1,.ex 1⟩:Sl).n xs345).bind fun a344=>ad.l29 F dr cq bT a344.1 (IntKind.i64.wrap (ee + 1)) a344.2) else (ad.j13 F cq bT cH H13))
termination_by structural n=>n
noncomputable def ad.twX (F:Nat) (aa:Sl) (ab:Int) (H:Hp):OA:=(Hp.new H [(.sl aa),(.int .i64 ab)]).bind fun H3=>(Hp.new H3 []).bind fun H4=>ad.l29 F F H.length 0 (⟨some (H3.length,0),0,.ex 0⟩:Sl) 0 H4
noncomputable def ad.tw (F:Nat) (aa:Sl) (ab:Int) (H:Hp):OA:=ad.twX F aa ab H
noncomputable def ad.code:Go.Code:=(Try.f59.body).getD .skip
noncomputable def ad.lh29 (F:Nat) (ks:List Nat) (n:Nat) (tm:Tm) (H:Hp):OA:=match ks,tm 1,tm 4,tm 5 with
 | [],(.ptr cq bT),(.sl cH),(.int .i64 ee)=>ad.l29 F n cq bT cH ee H
 | _,_,_,_=>none
theorem ad.lh29_inv {F:Nat} {ks:List Nat} {n:Nat} {tm:Tm} {H:Hp} {r:AV×Hp} (h:ad.lh29 F ks n tm H = some r):∃ cq:Nat,∃ bT:Nat,∃ cH:Sl,∃ ee:Int,ks = []∧tm 1 = (.ptr cq bT)∧tm 4 = (.sl cH)∧tm 5 = (.int .i64 ee)∧ad.l29 F n cq bT cH ee H = some r:=by
 unfold ad.lh29 at h
 split at h
 ·exact ⟨_,_,_,_,rfl,by assumption,by assumption,by assumption,h⟩
 ·cases h
noncomputable def ad.lh61 (F:Nat) (ks:List Nat) (n:Nat) (tm:Tm) (H:Hp):OA:=match ks,tm 1,tm 4,tm 6 with
 | [],(.ptr eL gq),(.sl hI),(.int .i64 ed)=>ad.l61 F n eL gq hI ed H
 | _,_,_,_=>none
theorem ad.lh61_inv {F:Nat} {ks:List Nat} {n:Nat} {tm:Tm} {H:Hp} {r:AV×Hp} (h:ad.lh61 F ks n tm H = some r):∃ eL:Nat,∃ gq:Nat,∃ hI:Sl,∃ ed:Int,ks = []∧tm 1 = (.ptr eL gq)∧tm 4 = (.sl hI)∧tm 6 = (.int .i64 ed)∧ad.l61 F n eL gq hI ed H = some r:=by
 unfold ad.lh61 at h
 split at h
 ·exact ⟨_,_,_,_,rfl,by assumption,by assumption,by assumption,h⟩
 ·cases h
noncomputable def ad.lh509 (F:Nat) (ks:List Nat) (n:Nat) (tm:Tm) (H:Hp):OA:=match ks,tm 1,tm 4,tm 10,tm 11,tm 12 with
 | [],(.ptr eK gp),(.sl gd),(.sl gI),(.int .i64 du),(.int .i64 dl)=>ad.l509 F n eK gp gd gI du dl H
 | _,_,_,_,_,_=>none
theorem ad.lh509_inv {F:Nat} {ks:List Nat} {n:Nat} {tm:Tm} {H:Hp} {r:AV×Hp} (h:ad.lh509 F ks n tm H = some r):∃ eK:Nat,∃ gp:Nat,∃ gd:Sl,∃ gI:Sl,∃ du:Int,∃ dl:Int,ks = []∧tm 1 = (.ptr eK gp)∧tm 4 = (.sl gd)∧tm 10 = (.sl gI)∧tm 11 = (.int .i64 du)∧tm 12 = (.int .i64 dl)∧ad.l509 F n eK gp gd gI du dl H = some r:=by
 unfold ad.lh509 at h
 split at h
 ·exact ⟨_,_,_,_,_,_,rfl,by assumption,by assumption,by assumption,by assumption,by assumption,h⟩
 ·cases h
noncomputable def ad.lh1963 (F:Nat) (ks:List Nat) (n:Nat) (tm:Tm) (H:Hp):OA:=match ks,tm 1,tm 4,tm 6,tm 7,tm 8,tm 9 with
 | [ba],(.ptr eC gf),(.sl fz),(.int .i64 dL),(.int .i64 cT),(.int .i64 de),(.int .i64 dB)=>ad.l1963 F (ad.l61 F ba) n eC gf fz dL cT de dB H
 | _,_,_,_,_,_,_=>none
theorem ad.lh1963_inv {F:Nat} {ks:List Nat} {n:Nat} {tm:Tm} {H:Hp} {r:AV×Hp} (h:ad.lh1963 F ks n tm H = some r):∃ ba:Nat,∃ eC:Nat,∃ gf:Nat,∃ fz:Sl,∃ dL:Int,∃ cT:Int,∃ de:Int,∃ dB:Int,ks = [ba]∧tm 1 = (.ptr eC gf)∧tm 4 = (.sl fz)∧tm 6 = (.int .i64 dL)∧tm 7 = (.int .i64 cT)∧tm 8 = (.int .i64 de)∧tm 9 = (.int .i64 dB)∧ad.l1963 F (ad.l61 F ba) n eC gf fz dL cT de dB H = some r:=by
 unfold ad.lh1963 at h
 split at h
 ·exact ⟨_,_,_,_,_,_,_,_,rfl,by assumption,by assumption,by assumption,by assumption,by assumption,by assumption,h⟩
 ·cases h
noncomputable def ad.lh (F:Nat) (p:Nat) (ks:List Nat) (n:Nat) (tm:Tm) (H:Hp):OA:=bif p.beq 1963 then ad.lh1963 F ks n tm H else (bif p.beq 509 then ad.lh509 F ks n tm H else (bif p.beq 61 then ad.lh61 F ks n tm H else (bif p.beq 29 then ad.lh29 F ks n tm H else (none))))
def ad.pn:Nat→List Nat:=fun i=>(([(9,[]),(24,[])]:List (Nat×List Nat)).lookup i).getD []
def ad.tb:Nat→List (List Nat):=fun i=>(([(9,[[],[],[1],[],[1,2,3],[1,2,3,4],[1,2,3,4,5],[0,1,2,3,4,5,6],[0,1,2,3,4,5,6,7],[],[],[10],[],[10,11,12],[10,11,12,13],[10,11,12,13,14],[9,10,11,12,13,14,15],[9,10,11,12,13,14,15,16],[0,1,2,3,4,5,6,7,8],[0,1,2,3,4,5,6,7,8,9,10,11,12,13,14,15,16,17,18]]),(24,[[],[],[],[2],[1,2,3],[0],[0,1,2,3,4,5]])]:List (Nat×List (List Nat))).lookup i).getD []
noncomputable def ad.mk (g:Sl→Int→Hp→OA) (args:List AV) (H:Hp):OA:=match args with
 | [(.agg [(.sl aa),(.int .i64 ab)])]=>g aa ab H
 | _=>none
noncomputable def ad.cs (F:Nat):List (FuncId×(List AV→Hp→OA)):=[]
theorem ad.loops (F:Nat):LoopsOk tabs (mkOrc (ad.cs F)) ad.pn (ad.lh F) F [] 1 ad.code (fun tm H=>aresults tabs.ty H tm Try.f59.results.toList fun v=>some (v,H)) (fun _ _ _=>none) (fun tm H=>aresults tabs.ty H tm Try.f59.results.toList fun v=>some (v,H)):=by
 refine LoopsOk.seq ?_ ?_
 ·exact loops_none (by kernel_rfl)
 ·refine LoopsOk.seq ?_ ?_
  ·exact loops_none (by kernel_rfl)
  ·refine LoopsOk.seq ?_ ?_
   ·refine LoopsOk.seq ?_ ?_
    ·exact loops_none (by kernel_rfl)
    ·refine LoopsOk.block ?_
     refine LoopsOk.loop (fun tm H=>?_) (fun k29 tm H r h0=>?_) (fun k29=>?_)
     ·refine none_of fun r h0=>?_
      obtain ⟨cq,bT,cH,ee,hks,e1,e4,e5,h⟩:=ad.lh29_inv (show ad.lh29 F [] 0 tm H = some r from h0)
      cases h
     ·obtain ⟨cq,bT,cH,ee,hks,e1,e4,e5,h⟩:=ad.lh29_inv (show ad.lh29 F [] (k29 + 1) tm H = some r from h0)
      have q0:(Tm.put tm 1 (.ptr cq bT)) = tm:=by exact Tm.put_same e1
      have q1:(Tm.put (Tm.put tm 1 (.ptr cq bT)) 4 (.sl cH)) = tm:=by rw [q0]; exact Tm.put_same e4
      have q2:(Tm.put (Tm.put (Tm.put tm 1 (.ptr cq bT)) 4 (.sl cH)) 5 (.int .i64 ee)) = tm:=by rw [q1]; exact Tm.put_same e5
      rw [← q2]
      exact Eq.trans (by kernel_rfl) h
     ·exact loops_none (by kernel_rfl)
   ·refine LoopsOk.seq ?_ ?_
    ·refine LoopsOk.seq ?_ ?_
     ·exact loops_none (by kernel_rfl)
     ·refine LoopsOk.block ?_
      refine LoopsOk.loop (fun tm H=>?_) (fun k61 tm H r h0=>?_) (fun k61=>?_)
      ·refine none_of fun r h0=>?_
       obtain ⟨eL,gq,hI,ed,hks,e1,e4,e6,h⟩:=ad.lh61_inv (show ad.lh61 F [] 0 tm H = some r from h0)
       cases h
      ·obtain ⟨eL,gq,hI,ed,hks,e1,e4,e6,h⟩:=ad.lh61_inv (show ad.lh61 F [] (k61 + 1) tm H = some r from h0)
       have q0:(Tm.put tm 1 (.ptr eL gq)) = tm:=by exact Tm.put_same e1
       have q1:(Tm.put (Tm.put tm 1 (.ptr eL gq)) 4 (.sl hI)) = tm:=by rw [q0]; exact Tm.put_same e4
       have q2:(Tm.put (Tm.put (Tm.put tm 1 (.ptr eL gq)) 4 (.sl hI)) 6 (.int .i64 ed)) = tm:=by rw [q1]; exact Tm.put_same e6
       rw [← q2]
       exact Eq.trans (by kernel_rfl) h
      ·refine LoopsOk.seq ?_ ?_
       ·exact loops_none (by kernel_rfl)
       ·refine LoopsOk.seq ?_ ?_
        ·refine LoopsOk.block ?_
         refine LoopsOk.seq ?_ ?_
         ·exact loops_none (by kernel_rfl)
         ·refine LoopsOk.seq ?_ ?_
          ·exact loops_none (by kernel_rfl)
          ·refine LoopsOk.block ?_
           refine LoopsOk.loop (fun tm H=>?_) (fun k1963 tm H r h0=>?_) (fun k1963=>?_)
           ·refine none_of fun r h0=>?_
            obtain ⟨ba,eC,gf,fz,dL,cT,de,dB,hks,e1,e4,e6,e7,e8,e9,h⟩:=ad.lh1963_inv (show ad.lh1963 F [k61] 0 tm H = some r from h0)
            cases h
           ·obtain ⟨ba,eC,gf,fz,dL,cT,de,dB,hks,e1,e4,e6,e7,e8,e9,h⟩:=ad.lh1963_inv (show ad.lh1963 F [k61] (k1963 + 1) tm H = some r from h0)
            obtain rfl:ba = k61:=by simpa [eq_comm] using hks
            have q0:(Tm.put tm 1 (.ptr eC gf)) = tm:=by exact Tm.put_same e1
            have q1:(Tm.put (Tm.put tm 1 (.ptr eC gf)) 4 (.sl fz)) = tm:=by rw [q0]; exact Tm.put_same e4
            have q2:(Tm.put (Tm.put (Tm.put tm 1 (.ptr eC gf)) 4 (.sl fz)) 6 (.int .i64 dL)) = tm:=by rw [q1]; exact Tm.put_same e6
            have q3:(Tm.put (Tm.put (Tm.put (Tm.put tm 1 (.ptr eC gf)) 4 (.sl fz)) 6 (.int .i64 dL)) 7 (.int .i64 cT)) = tm:=by rw [q2]; exact Tm.put_same e7
            have q4:(Tm.put (Tm.put (Tm.put (Tm.put (Tm.put tm 1 (.ptr eC gf)) 4 (.sl fz)) 6 (.int .i64 dL)) 7 (.int .i64 cT)) 8 (.int .i64 de)) = tm:=by rw [q3]; exact Tm.put_same e8
            have q5:(Tm.put (Tm.put (Tm.put (Tm.put (Tm.put (Tm.put tm 1 (.ptr eC gf)) 4 (.sl fz)) 6 (.int .i64 dL)) 7 (.int .i64 cT)) 8 (.int .i64 de)) 9 (.int .i64 dB)) = tm:=by rw [q4]; exact Tm.put_same e9
            rw [← q5]
            exact Eq.trans (by kernel_rfl) h
           ·exact loops_none (by kernel_rfl)
        ·exact loops_none (by kernel_rfl)
    ·refine LoopsOk.seq ?_ ?_
     ·exact loops_none (by kernel_rfl)
     ·refine LoopsOk.seq ?_ ?_
      ·exact loops_none (by kernel_rfl)
      ·refine LoopsOk.seq ?_ ?_
       ·refine LoopsOk.seq ?_ ?_
        ·exact loops_none (by kernel_rfl)
        ·refine LoopsOk.block ?_
         refine LoopsOk.loop (fun tm H=>?_) (fun k509 tm H r h0=>?_) (fun k509=>?_)
         ·refine none_of fun r h0=>?_
          obtain ⟨eK,gp,gd,gI,du,dl,hks,e1,e4,e10,e11,e12,h⟩:=ad.lh509_inv (show ad.lh509 F [] 0 tm H = some r from h0)
          cases h
         ·obtain ⟨eK,gp,gd,gI,du,dl,hks,e1,e4,e10,e11,e12,h⟩:=ad.lh509_inv (show ad.lh509 F [] (k509 + 1) tm H = some r from h0)
          have q0:(Tm.put tm 1 (.ptr eK gp)) = tm:=by exact Tm.put_same e1
          have q1:(Tm.put (Tm.put tm 1 (.ptr eK gp)) 4 (.sl gd)) = tm:=by rw [q0]; exact Tm.put_same e4
          have q2:(Tm.put (Tm.put (Tm.put tm 1 (.ptr eK gp)) 4 (.sl gd)) 10 (.sl gI)) = tm:=by rw [q1]; exact Tm.put_same e10
          have q3:(Tm.put (Tm.put (Tm.put (Tm.put tm 1 (.ptr eK gp)) 4 (.sl gd)) 10 (.sl gI)) 11 (.int .i64 du)) = tm:=by rw [q2]; exact Tm.put_same e11
          have q4:(Tm.put (Tm.put (Tm.put (Tm.put (Tm.put tm 1 (.ptr eK gp)) 4 (.sl gd)) 10 (.sl gI)) 11 (.int .i64 du)) 12 (.int .i64 dl)) = tm:=by rw [q3]; exact Tm.put_same e12
          rw [← q4]
          exact Eq.trans (by kernel_rfl) h
         ·exact loops_none (by kernel_rfl)
       ·exact loops_none (by kernel_rfl)
theorem ad.eqX (F:Nat) (aa:Sl) (ab:Int) (H:Hp):aCode tabs (mkOrc (ad.cs F)) ad.pn (ad.lh F) F [] 1 ad.code (argTm [(.agg [(.sl aa),(.int .i64 ab)])]) H (fun tm H=>aresults tabs.ty H tm Try.f59.results.toList fun v=>some (v,H)) (fun _ _ _=>none) (fun tm H=>aresults tabs.ty H tm Try.f59.results.toList fun v=>some (v,H)) = ad.twX F aa ab H:=by kernel_rfl
theorem ad.cs_ok (F:Nat):∀ p ∈ ad.cs F,∀ args H v H',p.2 args H = some (v,H')→Go.AE.T Try.prog p.1 args H v H':=by
 intro p hp
 exact absurd (show p ∈ [] from hp) List.not_mem_nil
theorem ad.ok:codeOk ad.pn Try.f59.ntmps ad.tb ad.code = true:=by kernel_rfl
theorem ad.T {F:Nat} {aa:Sl} {ab:Int} {H:Hp} {v:AV} {H':Hp} (h:ad.tw F aa ab H = some (v,H')):Go.AE.T Try.prog 59 [(.agg [(.sl aa),(.int .i64 ab)])] H v H':=
 Go.AE.T.of (Y:=tabs) (C:=mkOrc (ad.cs F)) (PN:=ad.pn) (LH:=ad.lh F) (F:=F) (TB:=ad.tb) (fn:=Try.f59) (code:=ad.code) mixed tabs_ok (mkOrc_ok (ad.cs_ok F)) Try.func59 (by kernel_rfl) (by kernel_rfl) ad.ok (Nat.le_of_ble_eq_true (by kernel_rfl)) (ad.loops F) (Eq.trans (ad.eqX F aa ab H) h)
theorem ad.mk_T {F:Nat} {args:List AV} {H:Hp} {v:AV} {H':Hp} (h:ad.mk (ad.tw F) args H = some (v,H')):Go.AE.T Try.prog 59 args H v H':=by
 unfold ad.mk at h
 split at h
 ·exact ad.T h
 ·cases h
noncomputable def bs.twX (F:Nat) (bg:Sl→Int→Int→Bool→Hp→OA) (aJ:Int→Int→Int→Int→Int→Int→Hp→OA) (aa:Sl) (ab:Int) (af:Int) (H:Hp):OA:=(Hp.new H [(.sl aa),(.int .i64 ab)]).bind fun H4=>(Hp.ldSl H4 H.length 0).bind fun s5=>(Hp.ldI H4 .i64 H.length (0 + 1)).bind fun n6=>(bg s5 n6 af true H4).bind fun r7=>((r7.1).asTup 2).bind fun l8=>(l8[0]?).bind fun v9=>((v9).asI .i64).bind fun n10=>(l8[1]?).bind fun v11=>((v11).asI .i64).bind fun n12=>(Hp.ldSl r7.2 H.length 0).bind fun s13=>(Sl.idx s13 n10 5).bind fun p14=>(Hp.ldI r7.2 .i64 p14.1 p14.2).bind fun n15=>(Hp.ldI r7.2 .i64 p14.1 (p14.2 + 1)).bind fun n16=>(Hp.ldI r7.2 .i64 p14.1 (p14.2 + 2)).bind fun n17=>(Hp.ldI r7.2 .i64 p14.1 (p14.2 + 3)).bind fun n18=>(Hp.ldI r7.2 .i64 p14.1 (p14.2 + 4)).bind fun n19=>(aJ n15 n16 n17 n18 n19 (Int.tmod (IntKind.i64.wrap (n12 + 2)) 4) r7.2).bind fun r20=>((r20.1).asI .i64).bind fun n21=>some ((.int .i64 n21),r20.2)
noncomputable def bs.tw (F:Nat) (aa:Sl) (ab:Int) (af:Int) (H:Hp):OA:=bs.twX F (aj.tw F) (aM.tw F) aa ab af H
noncomputable def bs.code:Go.Code:=(Try.f135.body).getD .skip
noncomputable def bs.lh (F:Nat) (bg:Sl→Int→Int→Bool→Hp→OA) (aJ:Int→Int→Int→Int→Int→Int→Hp→OA) (p:Nat) (ks:List Nat) (n:Nat) (tm:Tm) (H:Hp):OA:=none
def bs.pn:Nat→List Nat:=fun i=>(([]:List (Nat×List Nat)).lookup i).getD []
def bs.tb:Nat→List (List Nat):=fun i=>(([]:List (Nat×List (List Nat))).lookup i).getD []
noncomputable def bs.mk (g:Sl→Int→Int→Hp→OA) (args:List AV) (H:Hp):OA:=match args with
 | [(.agg [(.sl aa),(.int .i64 ab)]),(.int .i64 af)]=>g aa ab af H
 | _=>none
noncomputable def bs.cs (F:Nat) (bg:Sl→Int→Int→Bool→Hp→OA) (aJ:Int→Int→Int→Int→Int→Int→Hp→OA):List (FuncId×(List AV→Hp→OA)):=[(152,aj.mk bg),(140,aM.mk aJ)]
theorem bs.loops (F:Nat) (bg:Sl→Int→Int→Bool→Hp→OA) (aJ:Int→Int→Int→Int→Int→Int→Hp→OA):LoopsOk tabs (mkOrc (bs.cs F bg aJ)) bs.pn (bs.lh F bg aJ) F [] 1 bs.code (fun tm H=>aresults tabs.ty H tm Try.f135.results.toList fun v=>some (v,H)) (fun _ _ _=>none) (fun tm H=>aresults tabs.ty H tm Try.f135.results.toList fun v=>some (v,H)):=by
 exact loops_none (by kernel_rfl)
theorem bs.eqX (F:Nat) (bg:Sl→Int→Int→Bool→Hp→OA) (aJ:Int→Int→Int→Int→Int→Int→Hp→OA) (aa:Sl) (ab:Int) (af:Int) (H:Hp):aCode tabs (mkOrc (bs.cs F bg aJ)) bs.pn (bs.lh F bg aJ) F [] 1 bs.code (argTm [(.agg [(.sl aa),(.int .i64 ab)]),(.int .i64 af)]) H (fun tm H=>aresults tabs.ty H tm Try.f135.results.toList fun v=>some (v,H)) (fun _ _ _=>none) (fun tm H=>aresults tabs.ty H tm Try.f135.results.toList fun v=>some (v,H)) = bs.twX F bg aJ aa ab af H:=by kernel_rfl
theorem bs.cs_ok (F:Nat):∀ p ∈ bs.cs F (aj.tw F) (aM.tw F),∀ args H v H',p.2 args H = some (v,H')→Go.AE.T Try.prog p.1 args H v H':=by
 intro p hp
 simp only [bs.cs,List.mem_cons,List.not_mem_nil,or_false] at hp
 rcases hp with rfl | rfl
 ·exact fun args H v H' h=>aj.mk_T h
 ·exact fun args H v H' h=>aM.mk_T h
theorem bs.ok:codeOk bs.pn Try.f135.ntmps bs.tb bs.code = true:=by kernel_rfl
theorem bs.T {F:Nat} {aa:Sl} {ab:Int} {af:Int} {H:Hp} {v:AV} {H':Hp} (h:bs.tw F aa ab af H = some (v,H')):Go.AE.T Try.prog 135 [(.agg [(.sl aa),(.int .i64 ab)]),(.int .i64 af)] H v H':=
 Go.AE.T.of (Y:=tabs) (C:=mkOrc (bs.cs F (aj.tw F) (aM.tw F))) (PN:=bs.pn) (LH:=bs.lh F (aj.tw F) (aM.tw F)) (F:=F) (TB:=bs.tb) (fn:=Try.f135) (code:=bs.code) mixed tabs_ok (mkOrc_ok (bs.cs_ok F)) Try.func135 (by kernel_rfl) (by kernel_rfl) bs.ok (Nat.le_of_ble_eq_true (by kernel_rfl)) (bs.loops F (aj.tw F) (aM.tw F)) (Eq.trans (bs.eqX F (aj.tw F) (aM.tw F) aa ab af H) h)
theorem bs.mk_T {F:Nat} {args:List AV} {H:Hp} {v:AV} {H':Hp} (h:bs.mk (bs.tw F) args H = some (v,H')):Go.AE.T Try.prog 135 args H v H':=by
 unfold bs.mk at h
 split at h
 ·exact bs.T h
 ·cases h
noncomputable def ao.j4 (F:Nat) (cd:Sl→Int→Int→Hp→OA) (C61_:Nat→Nat→Sl→Sl→Int→Hp→OA) (jL:Nat) (wC:Nat) (wD:Sl) (wE:Sl) (ho:Int) (H108:Hp):OA:=C61_ jL wC wD wE (IntKind.i64.wrap (ho + 1)) H108
noncomputable def ao.j5 (F:Nat) (cd:Sl→Int→Int→Hp→OA) (C61_:Nat→Nat→Sl→Sl→Int→Hp→OA) (jM:Nat) (wF:Nat) (wG:Sl) (wH:Sl) (hB:Int) (H164:Hp):OA:=C61_ jM wF wG wH (IntKind.i64.wrap (hB + 1)) H164
noncomputable def ao.j6 (F:Nat) (cd:Sl→Int→Int→Hp→OA) (C61_:Nat→Nat→Sl→Sl→Int→Hp→OA) (jN:Nat) (jD:Nat) (kR:Sl) (wI:Sl) (hC:Int) (wJ:Sl) (H147:Hp):OA:=(Hp.new H147 [(.sl wJ)]).bind fun H148=>(Sl.row H148 (⟨some (H147.length,0),1,.ex 1⟩:Sl) 1).bind fun xs150=>(Hp.app H148 1 24 kR (⟨some (H147.length,0),1,.ex 1⟩:Sl).n xs150).bind fun a149=>ao.j5 F cd C61_ jN jD a149.1 wI hC a149.2
noncomputable def ao.l7853 (F:Nat) (cd:Sl→Int→Int→Hp→OA) (C61_:Nat→Nat→Sl→Sl→Int→Hp→OA):Nat→Nat→Nat→Sl→Sl→Int→Sl→Int→Hp→OA
 | 0,_,_,_,_,_,_,_,_=>none
 | wK + 1,b_,cz,cO,cL,ch,bY,bR,H122=>(Sl.idx cL bR 1).bind fun p165=>(Hp.ldB H122 p165.1 p165.2).bind fun b166=>(bif (!b166) then ((Sl.idx cL bR 1).bind fun p167=>(Hp.st H122 p167.1 p167.2 (.bool true)).bind fun H168=>(Hp.new H168 [(.int .i64 bR)]).bind fun H169=>(Sl.row H169 (⟨some (H168.length,0),1,.ex 1⟩:Sl) 1).bind fun xs171=>(Hp.app H169 1 8 bY (⟨some (H168.length,0),1,.ex 1⟩:Sl).n xs171).bind fun a170=>(Hp.ldSl a170.2 b_ cz).bind fun s172=>(Hp.ldI a170.2 .i64 b_ (cz + 1)).bind fun n173=>(cd s172 n173 bR a170.2).bind fun r174=>((r174.1).asI .i64).bind fun n175=>ao.l7853 F cd C61_ wK b_ cz cO cL ch a170.1 n175 r174.2) else (ao.j6 F cd C61_ b_ cz cO cL ch bY H122))
termination_by structural n=>n
noncomputable def ao.l61 (F:Nat) (cd:Sl→Int→Int→Hp→OA) :Nat→Nat→Nat→Sl→Sl→Int→Hp→OA
 | 0,_,_,_,_,_,_=>none
 | ba + 1,bH,cb,bQ,cj,bE,H15=>(bif (decide (bE < (cj.n:Int))) then ((Sl.idx cj bE 1).bind fun p96=>(Hp.ldB H15 p96.1 p96.2).bind fun b97=>(bif b97 then (ao.j4 F cd (ao.l61 F cd ba) bH cb bQ cj bE H15) else ((Hp.new H15 []).bind fun H109=>ao.l7853 F cd (ao.l61 F cd ba) F bH cb bQ cj bE (⟨some (H15.length,0),0,.ex 0⟩:Sl) bE H109))) else (some ((.sl bQ),H15)))
termination_by structural n=>n
noncomputable def ao.twX (F:Nat) (cd:Sl→Int→Int→Hp→OA) (aa:Sl) (ab:Int) (H:Hp):OA:=(Hp.new H [(.sl aa),(.int .i64 ab)]).bind fun H3=>(Hp.new H3 []).bind fun H4=>(Hp.ldSl H4 H.length 0).bind fun s5=>(Hp.mk H4 [.bool false] 1 (IntKind.i64.wrap (2 * (s5.n:Int))) (IntKind.i64.wrap (2 * (s5.n:Int)))).bind fun m6=>ao.l61 F cd F H.length 0 (⟨some (H3.length,0),0,.ex 0⟩:Sl) m6.1 0 m6.2
noncomputable def ao.tw (F:Nat) (aa:Sl) (ab:Int) (H:Hp):OA:=ao.twX F (bs.tw F) aa ab H
noncomputable def ao.code:Go.Code:=(Try.f86.body).getD .skip
noncomputable def ao.lh61 (F:Nat) (cd:Sl→Int→Int→Hp→OA) (ks:List Nat) (n:Nat) (tm:Tm) (H:Hp):OA:=match ks,tm 1,tm 3,tm 4,tm 5 with
 | [],(.ptr bH cb),(.sl bQ),(.sl cj),(.int .i64 bE)=>ao.l61 F cd n bH cb bQ cj bE H
 | _,_,_,_,_=>none
theorem ao.lh61_inv {F:Nat} {cd:Sl→Int→Int→Hp→OA} {ks:List Nat} {n:Nat} {tm:Tm} {H:Hp} {r:AV×Hp} (h:ao.lh61 F cd ks n tm H = some r):∃ bH:Nat,∃ cb:Nat,∃ bQ:Sl,∃ cj:Sl,∃ bE:Int,ks = []∧tm 1 = (.ptr bH cb)∧tm 3 = (.sl bQ)∧tm 4 = (.sl cj)∧tm 5 = (.int .i64 bE)∧ao.l61 F cd n bH cb bQ cj bE H = some r:=by
 unfold ao.lh61 at h
 split at h
 ·exact ⟨_,_,_,_,_,rfl,by assumption,by assumption,by assumption,by assumption,h⟩
 ·cases h
noncomputable def ao.lh7853 (F:Nat) (cd:Sl→Int→Int→Hp→OA) (ks:List Nat) (n:Nat) (tm:Tm) (H:Hp):OA:=match ks,tm 1,tm 3,tm 4,tm 5,tm 6,tm 7 with
 | [ba],(.ptr b_ cz),(.sl cO),(.sl cL),(.int .i64 ch),(.sl bY),(.int .i64 bR)=>ao.l7853 F cd (ao.l61 F cd ba) n b_ cz cO cL ch bY bR H
 | _,_,_,_,_,_,_=>none
theorem ao.lh7853_inv {F:Nat} {cd:Sl→Int→Int→Hp→OA} {ks:List Nat} {n:Nat} {tm:Tm} {H:Hp} {r:AV×Hp} (h:ao.lh7853 F cd ks n tm H = some r):∃ ba:Nat,∃ b_:Nat,∃ cz:Nat,∃ cO:Sl,∃ cL:Sl,∃ ch:Int,∃ bY:Sl,∃ bR:Int,ks = [ba]∧tm 1 = (.ptr b_ cz)∧tm 3 = (.sl cO)∧tm 4 = (.sl cL)∧tm 5 = (.int .i64 ch)∧tm 6 = (.sl bY)∧tm 7 = (.int .i64 bR)∧ao.l7853 F cd (ao.l61 F cd ba) n b_ cz cO cL ch bY bR H = some r:=by
 unfold ao.lh7853 at h
 split at h
 ·exact ⟨_,_,_,_,_,_,_,_,rfl,by assumption,by assumption,by assumption,by assumption,by assumption,by assumption,h⟩
 ·cases h
noncomputable def ao.lh (F:Nat) (cd:Sl→Int→Int→Hp→OA) (p:Nat) (ks:List Nat) (n:Nat) (tm:Tm) (H:Hp):OA:=bif p.beq 7853 then ao.lh7853 F cd ks n tm H else (bif p.beq 61 then ao.lh61 F cd ks n tm H else (none))
def ao.pn:Nat→List Nat:=fun i=>(([]:List (Nat×List Nat)).lookup i).getD []
def ao.tb:Nat→List (List Nat):=fun i=>(([]:List (Nat×List (List Nat))).lookup i).getD []
noncomputable def ao.mk (g:Sl→Int→Hp→OA) (args:List AV) (H:Hp):OA:=match args with
 | [(.agg [(.sl aa),(.int .i64 ab)])]=>g aa ab H
 | _=>none
noncomputable def ao.cs (F:Nat) (cd:Sl→Int→Int→Hp→OA):List (FuncId×(List AV→Hp→OA)):=[(135,bs.mk cd)]
theorem ao.loops (F:Nat) (cd:Sl→Int→Int→Hp→OA):LoopsOk tabs (mkOrc (ao.cs F cd)) ao.pn (ao.lh F cd) F [] 1 ao.code (fun tm H=>aresults tabs.ty H tm Try.f86.results.toList fun v=>some (v,H)) (fun _ _ _=>none) (fun tm H=>aresults tabs.ty H tm Try.f86.results.toList fun v=>some (v,H)):=by
 refine LoopsOk.seq ?_ ?_
 ·exact loops_none (by kernel_rfl)
 ·refine LoopsOk.seq ?_ ?_
  ·exact loops_none (by kernel_rfl)
  ·refine LoopsOk.seq ?_ ?_
   ·exact loops_none (by kernel_rfl)
   ·refine LoopsOk.seq ?_ ?_
    ·refine LoopsOk.seq ?_ ?_
     ·exact loops_none (by kernel_rfl)
     ·refine LoopsOk.block ?_
      refine LoopsOk.loop (fun tm H=>?_) (fun k61 tm H r h0=>?_) (fun k61=>?_)
      ·refine none_of fun r h0=>?_
       obtain ⟨bH,cb,bQ,cj,bE,hks,e1,e3,e4,e5,h⟩:=ao.lh61_inv (show ao.lh61 F cd [] 0 tm H = some r from h0)
       cases h
      ·obtain ⟨bH,cb,bQ,cj,bE,hks,e1,e3,e4,e5,h⟩:=ao.lh61_inv (show ao.lh61 F cd [] (k61 + 1) tm H = some r from h0)
       have q0:(Tm.put tm 1 (.ptr bH cb)) = tm:=by exact Tm.put_same e1
       have q1:(Tm.put (Tm.put tm 1 (.ptr bH cb)) 3 (.sl bQ)) = tm:=by rw [q0]; exact Tm.put_same e3
       have q2:(Tm.put (Tm.put (Tm.put tm 1 (.ptr bH cb)) 3 (.sl bQ)) 4 (.sl cj)) = tm:=by rw [q1]; exact Tm.put_same e4
       have q3:(Tm.put (Tm.put (Tm.put (Tm.put tm 1 (.ptr bH cb)) 3 (.sl bQ)) 4 (.sl cj)) 5 (.int .i64 bE)) = tm:=by rw [q2]; exact Tm.put_same e5
       rw [← q3]
       exact Eq.trans (by kernel_rfl) h
      ·refine LoopsOk.seq ?_ ?_
       ·exact loops_none (by kernel_rfl)
       ·refine LoopsOk.seq ?_ ?_
        ·refine LoopsOk.block ?_
         refine LoopsOk.seq ?_ ?_
         ·exact loops_none (by kernel_rfl)
         ·refine LoopsOk.seq ?_ ?_
          ·exact loops_none (by kernel_rfl)
          ·refine LoopsOk.seq ?_ ?_
           ·refine LoopsOk.seq ?_ ?_
            ·exact loops_none (by kernel_rfl)
            ·refine LoopsOk.block ?_
             refine LoopsOk.loop (fun tm H=>?_) (fun k7853 tm H r h0=>?_) (fun k7853=>?_)
             ·refine none_of fun r h0=>?_
              obtain ⟨ba,b_,cz,cO,cL,ch,bY,bR,hks,e1,e3,e4,e5,e6,e7,h⟩:=ao.lh7853_inv (show ao.lh7853 F cd [k61] 0 tm H = some r from h0)
              cases h
             ·obtain ⟨ba,b_,cz,cO,cL,ch,bY,bR,hks,e1,e3,e4,e5,e6,e7,h⟩:=ao.lh7853_inv (show ao.lh7853 F cd [k61] (k7853 + 1) tm H = some r from h0)
              obtain rfl:ba = k61:=by simpa [eq_comm] using hks
              have q0:(Tm.put tm 1 (.ptr b_ cz)) = tm:=by exact Tm.put_same e1
              have q1:(Tm.put (Tm.put tm 1 (.ptr b_ cz)) 3 (.sl cO)) = tm:=by rw [q0]; exact Tm.put_same e3
              have q2:(Tm.put (Tm.put (Tm.put tm 1 (.ptr b_ cz)) 3 (.sl cO)) 4 (.sl cL)) = tm:=by rw [q1]; exact Tm.put_same e4
              have q3:(Tm.put (Tm.put (Tm.put (Tm.put tm 1 (.ptr b_ cz)) 3 (.sl cO)) 4 (.sl cL)) 5 (.int .i64 ch)) = tm:=by rw [q2]; exact Tm.put_same e5
              have q4:(Tm.put (Tm.put (Tm.put (Tm.put (Tm.put tm 1 (.ptr b_ cz)) 3 (.sl cO)) 4 (.sl cL)) 5 (.int .i64 ch)) 6 (.sl bY)) = tm:=by rw [q3]; exact Tm.put_same e6
              have q5:(Tm.put (Tm.put (Tm.put (Tm.put (Tm.put (Tm.put tm 1 (.ptr b_ cz)) 3 (.sl cO)) 4 (.sl cL)) 5 (.int .i64 ch)) 6 (.sl bY)) 7 (.int .i64 bR)) = tm:=by rw [q4]; exact Tm.put_same e7
              rw [← q5]
              exact Eq.trans (by kernel_rfl) h
             ·exact loops_none (by kernel_rfl)
           ·exact loops_none (by kernel_rfl)
        ·exact loops_none (by kernel_rfl)
    ·exact loops_none (by kernel_rfl)
theorem ao.eqX (F:Nat) (cd:Sl→Int→Int→Hp→OA) (aa:Sl) (ab:Int) (H:Hp):aCode tabs (mkOrc (ao.cs F cd)) ao.pn (ao.lh F cd) F [] 1 ao.code (argTm [(.agg [(.sl aa),(.int .i64 ab)])]) H (fun tm H=>aresults tabs.ty H tm Try.f86.results.toList fun v=>some (v,H)) (fun _ _ _=>none) (fun tm H=>aresults tabs.ty H tm Try.f86.results.toList fun v=>some (v,H)) = ao.twX F cd aa ab H:=by kernel_rfl
theorem ao.cs_ok (F:Nat):∀ p ∈ ao.cs F (bs.tw F),∀ args H v H',p.2 args H = some (v,H')→Go.AE.T Try.prog p.1 args H v H':=by
 intro p hp
 simp only [ao.cs,List.mem_cons,List.not_mem_nil,or_false] at hp
 subst hp
 exact fun args H v H' h=>bs.mk_T h
theorem ao.ok:codeOk ao.pn Try.f86.ntmps ao.tb ao.code = true:=by kernel_rfl
theorem ao.T {F:Nat} {aa:Sl} {ab:Int} {H:Hp} {v:AV} {H':Hp} (h:ao.tw F aa ab H = some (v,H')):Go.AE.T Try.prog 86 [(.agg [(.sl aa),(.int .i64 ab)])] H v H':=
 Go.AE.T.of (Y:=tabs) (C:=mkOrc (ao.cs F (bs.tw F))) (PN:=ao.pn) (LH:=ao.lh F (bs.tw F)) (F:=F) (TB:=ao.tb) (fn:=Try.f86) (code:=ao.code) mixed tabs_ok (mkOrc_ok (ao.cs_ok F)) Try.func86 (by kernel_rfl) (by kernel_rfl) ao.ok (Nat.le_of_ble_eq_true (by kernel_rfl)) (ao.loops F (bs.tw F)) (Eq.trans (ao.eqX F (bs.tw F) aa ab H) h)
theorem ao.mk_T {F:Nat} {args:List AV} {H:Hp} {v:AV} {H':Hp} (h:ao.mk (ao.tw F) args H = some (v,H')):Go.AE.T Try.prog 86 args H v H':=by
 unfold ao.mk at h
 split at h
 ·exact ao.T h
 ·cases h
noncomputable def ai.l1021 (F:Nat) (bN:Sl→Int→Hp→OA) (aK:Int→Int→Int→Hp→OA) (bO:Sl→Int→Hp→OA) (bP:Sl→Int→Hp→OA) :Nat→Int→Nat→Nat→Int→Sl→Sl→Int→Hp→OA
 | 0,_,_,_,_,_,_,_,_=>none
 | wL + 1,dv,ca,cA,eD,hJ,iK,ef,H146=>(Hp.ldI H146 .i64 ca (cA + 1)).bind fun n151=>(bif (decide (ef < n151)) then ((Hp.ldI H146 .i64 ca (cA + 1)).bind fun n152=>(if dv = 0 then none else ((Sl.idx hJ (IntKind.i64.wrap ((IntKind.i64.wrap (eD - n152)) + ef)) 1).bind fun p153=>(Hp.st H146 p153.1 p153.2 (.int .i64 (Int.tmod (IntKind.i64.wrap ((iK.n:Int) + ef)) dv))).bind fun H154=>ai.l1021 F bN aK bO bP wL dv ca cA eD hJ iK (IntKind.i64.wrap (ef + 1)) H154))) else (some ((.tup [(.sl hJ),(.int .i64 0)]),H146)))
termination_by structural n=>n
noncomputable def ai.j3 (F:Nat) (bN:Sl→Int→Hp→OA) (aK:Int→Int→Int→Hp→OA) (bO:Sl→Int→Hp→OA) (bP:Sl→Int→Hp→OA) (mJ:Int) (rL:Nat) (Gw:Nat) (mK:Int) (Gx:Sl) (Gy:Sl) (H129:Hp):OA:=ai.l1021 F bN aK bO bP F mJ rL Gw mK Gx Gy 0 H129
noncomputable def ai.j4 (F:Nat) (bN:Sl→Int→Hp→OA) (aK:Int→Int→Int→Hp→OA) (bO:Sl→Int→Hp→OA) (bP:Sl→Int→Hp→OA) (C509_:Int→Nat→Nat→Sl→Int→Sl→Sl→Int→Hp→OA) (mL:Int) (rM:Nat) (Gz:Nat) (GA:Sl) (mM:Int) (GB:Sl) (GC:Sl) (mN:Int) (H217:Hp):OA:=C509_ mL rM Gz GA mM GB GC (IntKind.i64.wrap (mN + 1)) H217
noncomputable def ai.j5 (F:Nat) (bN:Sl→Int→Hp→OA) (aK:Int→Int→Int→Hp→OA) (bO:Sl→Int→Hp→OA) (bP:Sl→Int→Hp→OA) (C509_:Int→Nat→Nat→Sl→Int→Sl→Sl→Int→Hp→OA) (mO:Int) (rN:Nat) (mP:Nat) (GD:Sl) (mQ:Int) (GE:Sl) (GF:Sl) (mR:Int) (H199:Hp):OA:=ai.j4 F bN aK bO bP C509_ mO rN mP GD mQ GE GF mR H199
noncomputable def ai.l8149 (F:Nat) (bN:Sl→Int→Hp→OA) (aK:Int→Int→Int→Hp→OA) (bO:Sl→Int→Hp→OA) (bP:Sl→Int→Hp→OA) (C509_:Int→Nat→Nat→Sl→Int→Sl→Sl→Int→Hp→OA):Nat→Int→Nat→Nat→Sl→Int→Sl→Sl→Int→Int→Hp→OA
 | 0,_,_,_,_,_,_,_,_,_,_=>none
 | GG + 1,cP,eE,gg,gh,eg,gJ,gK,dw,eM,H171=>(Sl.idx gK dw 1).bind fun p218=>(Hp.ldSl H171 p218.1 p218.2).bind fun s219=>(bif (decide (eM < (s219.n:Int))) then ((Sl.idx gK dw 1).bind fun p220=>(Hp.ldSl H171 p220.1 p220.2).bind fun s221=>(Sl.idx s221 eM 1).bind fun p222=>(Hp.ldI H171 .i64 p222.1 p222.2).bind fun n223=>(Sl.idx gh n223 1).bind fun p224=>(Hp.ldI H171 .i64 p224.1 p224.2).bind fun n225=>(if cP = 0 then none else ((Sl.idx gJ n225 1).bind fun p226=>(Hp.st H171 p226.1 p226.2 (.int .i64 (Int.tmod dw cP))).bind fun H227=>ai.l8149 F bN aK bO bP C509_ GG cP eE gg gh eg gJ gK dw (IntKind.i64.wrap (eM + 1)) H227))) else (ai.j5 F bN aK bO bP C509_ cP eE gg gh eg gJ gK dw H171))
termination_by structural n=>n
noncomputable def ai.l509 (F:Nat) (bN:Sl→Int→Hp→OA) (aK:Int→Int→Int→Hp→OA) (bO:Sl→Int→Hp→OA) (bP:Sl→Int→Hp→OA) :Nat→Int→Nat→Nat→Sl→Int→Sl→Sl→Int→Hp→OA
 | 0,_,_,_,_,_,_,_,_,_=>none
 | ii + 1,bZ,eN,gr,hK,eF,ij,ik,fA,H40=>(bif (decide (fA < (ik.n:Int))) then (ai.l8149 F bN aK bO bP (ai.l509 F bN aK bO bP ii) F bZ eN gr hK eF ij ik fA 0 H40) else (ai.j3 F bN aK bO bP bZ eN gr eF ij ik H40))
termination_by structural n=>n
noncomputable def ai.twX (F:Nat) (bN:Sl→Int→Hp→OA) (aK:Int→Int→Int→Hp→OA) (bO:Sl→Int→Hp→OA) (bP:Sl→Int→Hp→OA) (aa:Sl) (ab:Int) (af:Int) (H:Hp):OA:=(Hp.new H [(.sl aa),(.int .i64 ab)]).bind fun H4=>(Hp.ldSl H4 H.length 0).bind fun s5=>(Hp.ldI H4 .i64 H.length (0 + 1)).bind fun n6=>(bN s5 n6 H4).bind fun r7=>((r7.1).asB).bind fun b8=>(bif (!b8) then ((Hp.new r7.2 []).bind fun H9=>some ((.tup [(.sl (⟨some (r7.2.length,0),0,.ex 0⟩:Sl)),(.int .i64 1)]),H9)) else ((aK af 1 1000000000000 r7.2).bind fun r10=>((r10.1).asB).bind fun b11=>(bif (!b11) then ((Hp.new r10.2 []).bind fun H12=>some ((.tup [(.sl (⟨some (r10.2.length,0),0,.ex 0⟩:Sl)),(.int .i64 2)]),H12)) else ((Hp.ldSl r10.2 H.length 0).bind fun s13=>(Hp.ldI r10.2 .i64 H.length (0 + 1)).bind fun n14=>(bO s13 n14 r10.2).bind fun r15=>((r15.1).asTup 2).bind fun l16=>(l16[0]?).bind fun v17=>((v17).asSl).bind fun s18=>(l16[1]?).bind fun v19=>((v19).asI .i64).bind fun n20=>(Hp.mk r15.2 [.int .i64 0] 8 n20 n20).bind fun m21=>(Hp.ldSl m21.2 H.length 0).bind fun s22=>(Hp.ldI m21.2 .i64 H.length (0 + 1)).bind fun n23=>(bP s22 n23 m21.2).bind fun r24=>((r24.1).asSl).bind fun s25=>ai.l509 F bN aK bO bP F af H.length 0 s18 n20 m21.1 s25 0 r24.2))))
noncomputable def ai.tw (F:Nat) (aa:Sl) (ab:Int) (af:Int) (H:Hp):OA:=ai.twX F (bn.tw F) (aX.tw F) (ad.tw F) (ao.tw F) aa ab af H
noncomputable def ai.code:Go.Code:=(Try.f38.body).getD .skip
noncomputable def ai.lh509 (F:Nat) (bN:Sl→Int→Hp→OA) (aK:Int→Int→Int→Hp→OA) (bO:Sl→Int→Hp→OA) (bP:Sl→Int→Hp→OA) (ks:List Nat) (n:Nat) (tm:Tm) (H:Hp):OA:=match ks,tm 1,tm 2,tm 6,tm 7,tm 8,tm 9,tm 10 with
 | [],(.int .i64 bZ),(.ptr eN gr),(.sl hK),(.int .i64 eF),(.sl ij),(.sl ik),(.int .i64 fA)=>ai.l509 F bN aK bO bP n bZ eN gr hK eF ij ik fA H
 | _,_,_,_,_,_,_,_=>none
theorem ai.lh509_inv {F:Nat} {bN:Sl→Int→Hp→OA} {aK:Int→Int→Int→Hp→OA} {bO:Sl→Int→Hp→OA} {bP:Sl→Int→Hp→OA} {ks:List Nat} {n:Nat} {tm:Tm} {H:Hp} {r:AV×Hp} (h:ai.lh509 F bN aK bO bP ks n tm H = some r):∃ bZ:Int,∃ eN:Nat,∃ gr:Nat,∃ hK:Sl,∃ eF:Int,∃ ij:Sl,∃ ik:Sl,∃ fA:Int,ks = []∧tm 1 = (.int .i64 bZ)∧tm 2 = (.ptr eN gr)∧tm 6 = (.sl hK)∧tm 7 = (.int .i64 eF)∧tm 8 = (.sl ij)∧tm 9 = (.sl ik)∧tm 10 = (.int .i64 fA)∧ai.l509 F bN aK bO bP n bZ eN gr hK eF ij ik fA H = some r:=by
 unfold ai.lh509 at h
 split at h
 ·exact ⟨_,_,_,_,_,_,_,_,rfl,by assumption,by assumption,by assumption,by assumption,by assumption,by assumption,by assumption,h⟩
 ·cases h
noncomputable def ai.lh1021 (F:Nat) (bN:Sl→Int→Hp→OA) (aK:Int→Int→Int→Hp→OA) (bO:Sl→Int→Hp→OA) (bP:Sl→Int→Hp→OA) (ks:List Nat) (n:Nat) (tm:Tm) (H:Hp):OA:=match ks,tm 1,tm 2,tm 7,tm 8,tm 9,tm 13 with
 | [],(.int .i64 dv),(.ptr ca cA),(.int .i64 eD),(.sl hJ),(.sl iK),(.int .i64 ef)=>ai.l1021 F bN aK bO bP n dv ca cA eD hJ iK ef H
 | _,_,_,_,_,_,_=>none
theorem ai.lh1021_inv {F:Nat} {bN:Sl→Int→Hp→OA} {aK:Int→Int→Int→Hp→OA} {bO:Sl→Int→Hp→OA} {bP:Sl→Int→Hp→OA} {ks:List Nat} {n:Nat} {tm:Tm} {H:Hp} {r:AV×Hp} (h:ai.lh1021 F bN aK bO bP ks n tm H = some r):∃ dv:Int,∃ ca:Nat,∃ cA:Nat,∃ eD:Int,∃ hJ:Sl,∃ iK:Sl,∃ ef:Int,ks = []∧tm 1 = (.int .i64 dv)∧tm 2 = (.ptr ca cA)∧tm 7 = (.int .i64 eD)∧tm 8 = (.sl hJ)∧tm 9 = (.sl iK)∧tm 13 = (.int .i64 ef)∧ai.l1021 F bN aK bO bP n dv ca cA eD hJ iK ef H = some r:=by
 unfold ai.lh1021 at h
 split at h
 ·exact ⟨_,_,_,_,_,_,_,rfl,by assumption,by assumption,by assumption,by assumption,by assumption,by assumption,h⟩
 ·cases h
noncomputable def ai.lh8149 (F:Nat) (bN:Sl→Int→Hp→OA) (aK:Int→Int→Int→Hp→OA) (bO:Sl→Int→Hp→OA) (bP:Sl→Int→Hp→OA) (ks:List Nat) (n:Nat) (tm:Tm) (H:Hp):OA:=match ks,tm 1,tm 2,tm 6,tm 7,tm 8,tm 9,tm 10,tm 11 with
 | [ii],(.int .i64 cP),(.ptr eE gg),(.sl gh),(.int .i64 eg),(.sl gJ),(.sl gK),(.int .i64 dw),(.int .i64 eM)=>ai.l8149 F bN aK bO bP (ai.l509 F bN aK bO bP ii) n cP eE gg gh eg gJ gK dw eM H
 | _,_,_,_,_,_,_,_,_=>none
theorem ai.lh8149_inv {F:Nat} {bN:Sl→Int→Hp→OA} {aK:Int→Int→Int→Hp→OA} {bO:Sl→Int→Hp→OA} {bP:Sl→Int→Hp→OA} {ks:List Nat} {n:Nat} {tm:Tm} {H:Hp} {r:AV×Hp} (h:ai.lh8149 F bN aK bO bP ks n tm H = some r):∃ ii:Nat,∃ cP:Int,∃ eE:Nat,∃ gg:Nat,∃ gh:Sl,∃ eg:Int,∃ gJ:Sl,∃ gK:Sl,∃ dw:Int,∃ eM:Int,ks = [ii]∧tm 1 = (.int .i64 cP)∧tm 2 = (.ptr eE gg)∧tm 6 = (.sl gh)∧tm 7 = (.int .i64 eg)∧tm 8 = (.sl gJ)∧tm 9 = (.sl gK)∧tm 10 = (.int .i64 dw)∧tm 11 = (.int .i64 eM)∧ai.l8149 F bN aK bO bP (ai.l509 F bN aK bO bP ii) n cP eE gg gh eg gJ gK dw eM H = some r:=by
 unfold ai.lh8149 at h
 split at h
 ·exact ⟨_,_,_,_,_,_,_,_,_,_,rfl,by assumption,by assumption,by assumption,by assumption,by assumption,by assumption,by assumption,by assumption,h⟩
 ·cases h
noncomputable def ai.lh (F:Nat) (bN:Sl→Int→Hp→OA) (aK:Int→Int→Int→Hp→OA) (bO:Sl→Int→Hp→OA) (bP:Sl→Int→Hp→OA) (p:Nat) (ks:List Nat) (n:Nat) (tm:Tm) (H:Hp):OA:=bif p.beq 8149 then ai.lh8149 F bN aK bO bP ks n tm H else (bif p.beq 1021 then ai.lh1021 F bN aK bO bP ks n tm H else (bif p.beq 509 then ai.lh509 F bN aK bO bP ks n tm H else (none)))
def ai.pn:Nat→List Nat:=fun i=>(([(19,[14])]:List (Nat×List Nat)).lookup i).getD []
def ai.tb:Nat→List (List Nat):=fun i=>(([(19,[[],[],[],[2],[1,2,3],[],[1,2,3,4,5],[],[7],[],[7,8,9],[],[7,8,9,10,11],[0,1,2,3,4,5,6,7,8,9,10,11,12],[0,1,2,3,4,5,6,7,8,9,10,11,12,13]])]:List (Nat×List (List Nat))).lookup i).getD []
noncomputable def ai.mk (g:Sl→Int→Int→Hp→OA) (args:List AV) (H:Hp):OA:=match args with
 | [(.agg [(.sl aa),(.int .i64 ab)]),(.int .i64 af)]=>g aa ab af H
 | _=>none
noncomputable def ai.cs (F:Nat) (bN:Sl→Int→Hp→OA) (aK:Int→Int→Int→Hp→OA) (bO:Sl→Int→Hp→OA) (bP:Sl→Int→Hp→OA):List (FuncId×(List AV→Hp→OA)):=[(50,bn.mk bN),(65,aX.mk aK),(59,ad.mk bO),(86,ao.mk bP)]
theorem ai.loops (F:Nat) (bN:Sl→Int→Hp→OA) (aK:Int→Int→Int→Hp→OA) (bO:Sl→Int→Hp→OA) (bP:Sl→Int→Hp→OA):LoopsOk tabs (mkOrc (ai.cs F bN aK bO bP)) ai.pn (ai.lh F bN aK bO bP) F [] 1 ai.code (fun tm H=>aresults tabs.ty H tm Try.f38.results.toList fun v=>some (v,H)) (fun _ _ _=>none) (fun tm H=>aresults tabs.ty H tm Try.f38.results.toList fun v=>some (v,H)):=by
 refine LoopsOk.seq ?_ ?_
 ·exact loops_none (by kernel_rfl)
 ·refine LoopsOk.seq ?_ ?_
  ·exact loops_none (by kernel_rfl)
  ·refine LoopsOk.seq ?_ ?_
   ·exact loops_none (by kernel_rfl)
   ·refine LoopsOk.seq ?_ ?_
    ·exact loops_none (by kernel_rfl)
    ·refine LoopsOk.seq ?_ ?_
     ·exact loops_none (by kernel_rfl)
     ·refine LoopsOk.seq ?_ ?_
      ·exact loops_none (by kernel_rfl)
      ·refine LoopsOk.seq ?_ ?_
       ·refine LoopsOk.seq ?_ ?_
        ·exact loops_none (by kernel_rfl)
        ·refine LoopsOk.block ?_
         refine LoopsOk.loop (fun tm H=>?_) (fun k509 tm H r h0=>?_) (fun k509=>?_)
         ·refine none_of fun r h0=>?_
          obtain ⟨bZ,eN,gr,hK,eF,ij,ik,fA,hks,e1,e2,e6,e7,e8,e9,e10,h⟩:=ai.lh509_inv (show ai.lh509 F bN aK bO bP [] 0 tm H = some r from h0)
          cases h
         ·obtain ⟨bZ,eN,gr,hK,eF,ij,ik,fA,hks,e1,e2,e6,e7,e8,e9,e10,h⟩:=ai.lh509_inv (show ai.lh509 F bN aK bO bP [] (k509 + 1) tm H = some r from h0)
          have q0:(Tm.put tm 1 (.int .i64 bZ)) = tm:=by exact Tm.put_same e1
          have q1:(Tm.put (Tm.put tm 1 (.int .i64 bZ)) 2 (.ptr eN gr)) = tm:=by rw [q0]; exact Tm.put_same e2
          have q2:(Tm.put (Tm.put (Tm.put tm 1 (.int .i64 bZ)) 2 (.ptr eN gr)) 6 (.sl hK)) = tm:=by rw [q1]; exact Tm.put_same e6
          have q3:(Tm.put (Tm.put (Tm.put (Tm.put tm 1 (.int .i64 bZ)) 2 (.ptr eN gr)) 6 (.sl hK)) 7 (.int .i64 eF)) = tm:=by rw [q2]; exact Tm.put_same e7
          have q4:(Tm.put (Tm.put (Tm.put (Tm.put (Tm.put tm 1 (.int .i64 bZ)) 2 (.ptr eN gr)) 6 (.sl hK)) 7 (.int .i64 eF)) 8 (.sl ij)) = tm:=by rw [q3]; exact Tm.put_same e8
          have q5:(Tm.put (Tm.put (Tm.put (Tm.put (Tm.put (Tm.put tm 1 (.int .i64 bZ)) 2 (.ptr eN gr)) 6 (.sl hK)) 7 (.int .i64 eF)) 8 (.sl ij)) 9 (.sl ik)) = tm:=by rw [q4]; exact Tm.put_same e9
          have q6:(Tm.put (Tm.put (Tm.put (Tm.put (Tm.put (Tm.put (Tm.put tm 1 (.int .i64 bZ)) 2 (.ptr eN gr)) 6 (.sl hK)) 7 (.int .i64 eF)) 8 (.sl ij)) 9 (.sl ik)) 10 (.int .i64 fA)) = tm:=by rw [q5]; exact Tm.put_same e10
          rw [← q6]
          exact Eq.trans (by kernel_rfl) h
         ·refine LoopsOk.seq ?_ ?_
          ·exact loops_none (by kernel_rfl)
          ·refine LoopsOk.seq ?_ ?_
           ·refine LoopsOk.block ?_
            refine LoopsOk.seq ?_ ?_
            ·exact loops_none (by kernel_rfl)
            ·refine LoopsOk.block ?_
             refine LoopsOk.loop (fun tm H=>?_) (fun k8149 tm H r h0=>?_) (fun k8149=>?_)
             ·refine none_of fun r h0=>?_
              obtain ⟨ii,cP,eE,gg,gh,eg,gJ,gK,dw,eM,hks,e1,e2,e6,e7,e8,e9,e10,e11,h⟩:=ai.lh8149_inv (show ai.lh8149 F bN aK bO bP [k509] 0 tm H = some r from h0)
              cases h
             ·obtain ⟨ii,cP,eE,gg,gh,eg,gJ,gK,dw,eM,hks,e1,e2,e6,e7,e8,e9,e10,e11,h⟩:=ai.lh8149_inv (show ai.lh8149 F bN aK bO bP [k509] (k8149 + 1) tm H = some r from h0)
              obtain rfl:ii = k509:=by simpa [eq_comm] using hks
              have q0:(Tm.put tm 1 (.int .i64 cP)) = tm:=by exact Tm.put_same e1
              have q1:(Tm.put (Tm.put tm 1 (.int .i64 cP)) 2 (.ptr eE gg)) = tm:=by rw [q0]; exact Tm.put_same e2
              have q2:(Tm.put (Tm.put (Tm.put tm 1 (.int .i64 cP)) 2 (.ptr eE gg)) 6 (.sl gh)) = tm:=by rw [q1]; exact Tm.put_same e6
              have q3:(Tm.put (Tm.put (Tm.put (Tm.put tm 1 (.int .i64 cP)) 2 (.ptr eE gg)) 6 (.sl gh)) 7 (.int .i64 eg)) = tm:=by rw [q2]; exact Tm.put_same e7
              have q4:(Tm.put (Tm.put (Tm.put (Tm.put (Tm.put tm 1 (.int .i64 cP)) 2 (.ptr eE gg)) 6 (.sl gh)) 7 (.int .i64 eg)) 8 (.sl gJ)) = tm:=by rw [q3]; exact Tm.put_same e8
              have q5:(Tm.put (Tm.put (Tm.put (Tm.put (Tm.put (Tm.put tm 1 (.int .i64 cP)) 2 (.ptr eE gg)) 6 (.sl gh)) 7 (.int .i64 eg)) 8 (.sl gJ)) 9 (.sl gK)) = tm:=by rw [q4]; exact Tm.put_same e9
              have q6:(Tm.put (Tm.put (Tm.put (Tm.put (Tm.put (Tm.put (Tm.put tm 1 (.int .i64 cP)) 2 (.ptr eE gg)) 6 (.sl gh)) 7 (.int .i64 eg)) 8 (.sl gJ)) 9 (.sl gK)) 10 (.int .i64 dw)) = tm:=by rw [q5]; exact Tm.put_same e10
              have q7:(Tm.put (Tm.put (Tm.put (Tm.put (Tm.put (Tm.put (Tm.put (Tm.put tm 1 (.int .i64 cP)) 2 (.ptr eE gg)) 6 (.sl gh)) 7 (.int .i64 eg)) 8 (.sl gJ)) 9 (.sl gK)) 10 (.int .i64 dw)) 11 (.int .i64 eM)) = tm:=by rw [q6]; exact Tm.put_same e11
              rw [← q7]
              exact Eq.trans (by kernel_rfl) h
             ·exact loops_none (by kernel_rfl)
           ·exact loops_none (by kernel_rfl)
       ·refine LoopsOk.seq ?_ ?_
        ·refine LoopsOk.seq ?_ ?_
         ·exact loops_none (by kernel_rfl)
         ·refine LoopsOk.block ?_
          refine LoopsOk.loop (fun tm H=>?_) (fun k1021 tm H r h0=>?_) (fun k1021=>?_)
          ·refine none_of fun r h0=>?_
           obtain ⟨dv,ca,cA,eD,hJ,iK,ef,hks,e1,e2,e7,e8,e9,e13,h⟩:=ai.lh1021_inv (show ai.lh1021 F bN aK bO bP [] 0 tm H = some r from h0)
           cases h
          ·obtain ⟨dv,ca,cA,eD,hJ,iK,ef,hks,e1,e2,e7,e8,e9,e13,h⟩:=ai.lh1021_inv (show ai.lh1021 F bN aK bO bP [] (k1021 + 1) tm H = some r from h0)
           have q0:(Tm.put tm 1 (.int .i64 dv)) = tm:=by exact Tm.put_same e1
           have q1:(Tm.put (Tm.put tm 1 (.int .i64 dv)) 2 (.ptr ca cA)) = tm:=by rw [q0]; exact Tm.put_same e2
           have q2:(Tm.put (Tm.put (Tm.put tm 1 (.int .i64 dv)) 2 (.ptr ca cA)) 7 (.int .i64 eD)) = tm:=by rw [q1]; exact Tm.put_same e7
           have q3:(Tm.put (Tm.put (Tm.put (Tm.put tm 1 (.int .i64 dv)) 2 (.ptr ca cA)) 7 (.int .i64 eD)) 8 (.sl hJ)) = tm:=by rw [q2]; exact Tm.put_same e8
           have q4:(Tm.put (Tm.put (Tm.put (Tm.put (Tm.put tm 1 (.int .i64 dv)) 2 (.ptr ca cA)) 7 (.int .i64 eD)) 8 (.sl hJ)) 9 (.sl iK)) = tm:=by rw [q3]; exact Tm.put_same e9
           have q5:(Tm.put (Tm.put (Tm.put (Tm.put (Tm.put (Tm.put tm 1 (.int .i64 dv)) 2 (.ptr ca cA)) 7 (.int .i64 eD)) 8 (.sl hJ)) 9 (.sl iK)) 13 (.int .i64 ef)) = tm:=by rw [q4]; exact Tm.put_same e13
           rw [← q5]
           exact Eq.trans (by kernel_rfl) h
          ·exact loops_none (by kernel_rfl)
        ·exact loops_none (by kernel_rfl)
theorem ai.eqX (F:Nat) (bN:Sl→Int→Hp→OA) (aK:Int→Int→Int→Hp→OA) (bO:Sl→Int→Hp→OA) (bP:Sl→Int→Hp→OA) (aa:Sl) (ab:Int) (af:Int) (H:Hp):aCode tabs (mkOrc (ai.cs F bN aK bO bP)) ai.pn (ai.lh F bN aK bO bP) F [] 1 ai.code (argTm [(.agg [(.sl aa),(.int .i64 ab)]),(.int .i64 af)]) H (fun tm H=>aresults tabs.ty H tm Try.f38.results.toList fun v=>some (v,H)) (fun _ _ _=>none) (fun tm H=>aresults tabs.ty H tm Try.f38.results.toList fun v=>some (v,H)) = ai.twX F bN aK bO bP aa ab af H:=by kernel_rfl
theorem ai.cs_ok (F:Nat):∀ p ∈ ai.cs F (bn.tw F) (aX.tw F) (ad.tw F) (ao.tw F),∀ args H v H',p.2 args H = some (v,H')→Go.AE.T Try.prog p.1 args H v H':=by
 intro p hp
 simp only [ai.cs,List.mem_cons,List.not_mem_nil,or_false] at hp
 rcases hp with rfl | rfl | rfl | rfl
 ·exact fun args H v H' h=>bn.mk_T h
 ·exact fun args H v H' h=>aX.mk_T h
 ·exact fun args H v H' h=>ad.mk_T h
 ·exact fun args H v H' h=>ao.mk_T h
theorem ai.ok:codeOk ai.pn Try.f38.ntmps ai.tb ai.code = true:=by kernel_rfl
theorem ai.T {F:Nat} {aa:Sl} {ab:Int} {af:Int} {H:Hp} {v:AV} {H':Hp} (h:ai.tw F aa ab af H = some (v,H')):Go.AE.T Try.prog 38 [(.agg [(.sl aa),(.int .i64 ab)]),(.int .i64 af)] H v H':=
 Go.AE.T.of (Y:=tabs) (C:=mkOrc (ai.cs F (bn.tw F) (aX.tw F) (ad.tw F) (ao.tw F))) (PN:=ai.pn) (LH:=ai.lh F (bn.tw F) (aX.tw F) (ad.tw F) (ao.tw F)) (F:=F) (TB:=ai.tb) (fn:=Try.f38) (code:=ai.code) mixed tabs_ok (mkOrc_ok (ai.cs_ok F)) Try.func38 (by kernel_rfl) (by kernel_rfl) ai.ok (Nat.le_of_ble_eq_true (by kernel_rfl)) (ai.loops F (bn.tw F) (aX.tw F) (ad.tw F) (ao.tw F)) (Eq.trans (ai.eqX F (bn.tw F) (aX.tw F) (ad.tw F) (ao.tw F) aa ab af H) h)
theorem ai.mk_T {F:Nat} {args:List AV} {H:Hp} {v:AV} {H':Hp} (h:ai.mk (ai.tw F) args H = some (v,H')):Go.AE.T Try.prog 38 args H v H':=by
 unfold ai.mk at h
 split at h
 ·exact ai.T h
 ·cases h
noncomputable def aY.twX (F:Nat) (aa:Sl) (H:Hp):OA:=some ((.int .i64 (aa.n:Int)),H)
noncomputable def aY.tw (F:Nat) (aa:Sl) (H:Hp):OA:=aY.twX F aa H
noncomputable def aY.code:Go.Code:=(Try.f117.body).getD .skip
noncomputable def aY.lh (F:Nat) (p:Nat) (ks:List Nat) (n:Nat) (tm:Tm) (H:Hp):OA:=none
def aY.pn:Nat→List Nat:=fun i=>(([]:List (Nat×List Nat)).lookup i).getD []
def aY.tb:Nat→List (List Nat):=fun i=>(([]:List (Nat×List (List Nat))).lookup i).getD []
noncomputable def aY.mk (g:Sl→Hp→OA) (args:List AV) (H:Hp):OA:=match args with
 | [(.sl aa)]=>g aa H
 | _=>none
noncomputable def aY.cs (F:Nat):List (FuncId×(List AV→Hp→OA)):=[]
theorem aY.loops (F:Nat):LoopsOk tabs (mkOrc (aY.cs F)) aY.pn (aY.lh F) F [] 1 aY.code (fun tm H=>aresults tabs.ty H tm Try.f117.results.toList fun v=>some (v,H)) (fun _ _ _=>none) (fun tm H=>aresults tabs.ty H tm Try.f117.results.toList fun v=>some (v,H)):=by
 exact loops_none (by kernel_rfl)
theorem aY.eqX (F:Nat) (aa:Sl) (H:Hp):aCode tabs (mkOrc (aY.cs F)) aY.pn (aY.lh F) F [] 1 aY.code (argTm [(.sl aa)]) H (fun tm H=>aresults tabs.ty H tm Try.f117.results.toList fun v=>some (v,H)) (fun _ _ _=>none) (fun tm H=>aresults tabs.ty H tm Try.f117.results.toList fun v=>some (v,H)) = aY.twX F aa H:=by kernel_rfl
theorem aY.cs_ok (F:Nat):∀ p ∈ aY.cs F,∀ args H v H',p.2 args H = some (v,H')→Go.AE.T Try.prog p.1 args H v H':=by
 intro p hp
 exact absurd (show p ∈ [] from hp) List.not_mem_nil
theorem aY.ok:codeOk aY.pn Try.f117.ntmps aY.tb aY.code = true:=by kernel_rfl
theorem aY.T {F:Nat} {aa:Sl} {H:Hp} {v:AV} {H':Hp} (h:aY.tw F aa H = some (v,H')):Go.AE.T Try.prog 117 [(.sl aa)] H v H':=
 Go.AE.T.of (Y:=tabs) (C:=mkOrc (aY.cs F)) (PN:=aY.pn) (LH:=aY.lh F) (F:=F) (TB:=aY.tb) (fn:=Try.f117) (code:=aY.code) mixed tabs_ok (mkOrc_ok (aY.cs_ok F)) Try.func117 (by kernel_rfl) (by kernel_rfl) aY.ok (Nat.le_of_ble_eq_true (by kernel_rfl)) (aY.loops F) (Eq.trans (aY.eqX F aa H) h)
theorem aY.mk_T {F:Nat} {args:List AV} {H:Hp} {v:AV} {H':Hp} (h:aY.mk (aY.tw F) args H = some (v,H')):Go.AE.T Try.prog 117 args H v H':=by
 unfold aY.mk at h
 split at h
 ·exact aY.T h
 ·cases h
noncomputable def bc.twX (F:Nat) (aa:Int) (ae:Int) (bM:Int) (H:Hp):OA:=(bif (decide (ae ≤ aa)) then (some ((.bool (decide (aa ≤ bM))),H)) else (some ((.bool false),H)))
noncomputable def bc.tw (F:Nat) (aa:Int) (ae:Int) (bM:Int) (H:Hp):OA:=bc.twX F aa ae bM H
noncomputable def bc.code:Go.Code:=(Try.f81.body).getD .skip
noncomputable def bc.lh (F:Nat) (p:Nat) (ks:List Nat) (n:Nat) (tm:Tm) (H:Hp):OA:=none
def bc.pn:Nat→List Nat:=fun i=>(([]:List (Nat×List Nat)).lookup i).getD []
def bc.tb:Nat→List (List Nat):=fun i=>(([]:List (Nat×List (List Nat))).lookup i).getD []
noncomputable def bc.mk (g:Int→Int→Int→Hp→OA) (args:List AV) (H:Hp):OA:=match args with
 | [(.int .i64 aa),(.int .i64 ae),(.int .i64 bM)]=>g aa ae bM H
 | _=>none
noncomputable def bc.cs (F:Nat):List (FuncId×(List AV→Hp→OA)):=[]
theorem bc.loops (F:Nat):LoopsOk tabs (mkOrc (bc.cs F)) bc.pn (bc.lh F) F [] 1 bc.code (fun tm H=>aresults tabs.ty H tm Try.f81.results.toList fun v=>some (v,H)) (fun _ _ _=>none) (fun tm H=>aresults tabs.ty H tm Try.f81.results.toList fun v=>some (v,H)):=by
 exact loops_none (by kernel_rfl)
theorem bc.eqX (F:Nat) (aa:Int) (ae:Int) (bM:Int) (H:Hp):aCode tabs (mkOrc (bc.cs F)) bc.pn (bc.lh F) F [] 1 bc.code (argTm [(.int .i64 aa),(.int .i64 ae),(.int .i64 bM)]) H (fun tm H=>aresults tabs.ty H tm Try.f81.results.toList fun v=>some (v,H)) (fun _ _ _=>none) (fun tm H=>aresults tabs.ty H tm Try.f81.results.toList fun v=>some (v,H)) = bc.twX F aa ae bM H:=by kernel_rfl
theorem bc.cs_ok (F:Nat):∀ p ∈ bc.cs F,∀ args H v H',p.2 args H = some (v,H')→Go.AE.T Try.prog p.1 args H v H':=by
 intro p hp
 exact absurd (show p ∈ [] from hp) List.not_mem_nil
theorem bc.ok:codeOk bc.pn Try.f81.ntmps bc.tb bc.code = true:=by kernel_rfl
theorem bc.T {F:Nat} {aa:Int} {ae:Int} {bM:Int} {H:Hp} {v:AV} {H':Hp} (h:bc.tw F aa ae bM H = some (v,H')):Go.AE.T Try.prog 81 [(.int .i64 aa),(.int .i64 ae),(.int .i64 bM)] H v H':=
 Go.AE.T.of (Y:=tabs) (C:=mkOrc (bc.cs F)) (PN:=bc.pn) (LH:=bc.lh F) (F:=F) (TB:=bc.tb) (fn:=Try.f81) (code:=bc.code) mixed tabs_ok (mkOrc_ok (bc.cs_ok F)) Try.func81 (by kernel_rfl) (by kernel_rfl) bc.ok (Nat.le_of_ble_eq_true (by kernel_rfl)) (bc.loops F) (Eq.trans (bc.eqX F aa ae bM H) h)
theorem bc.mk_T {F:Nat} {args:List AV} {H:Hp} {v:AV} {H':Hp} (h:bc.mk (bc.tw F) args H = some (v,H')):Go.AE.T Try.prog 81 args H v H':=by
 unfold bc.mk at h
 split at h
 ·exact bc.T h
 ·cases h
noncomputable def bC.twX (F:Nat) (aa:Int) (ab:Int) (aC:Int) (aD:Int) (aA:Int) (H:Hp):OA:=(Hp.new H [(.int .i64 aa),(.int .i64 ab),(.int .i64 aC),(.int .i64 aD),(.int .i64 aA)]).bind fun H6=>(Hp.ldI H6 .i64 H.length 4).bind fun n7=>(bif (n7 != 1) then ((Hp.ldI H6 .i64 H.length 4).bind fun n8=>some ((.bool (n8 != (-1))),H6)) else (some ((.bool false),H6)))
noncomputable def bC.tw (F:Nat) (aa:Int) (ab:Int) (aC:Int) (aD:Int) (aA:Int) (H:Hp):OA:=bC.twX F aa ab aC aD aA H
noncomputable def bC.code:Go.Code:=(Try.f124.body).getD .skip
noncomputable def bC.lh (F:Nat) (p:Nat) (ks:List Nat) (n:Nat) (tm:Tm) (H:Hp):OA:=none
def bC.pn:Nat→List Nat:=fun i=>(([]:List (Nat×List Nat)).lookup i).getD []
def bC.tb:Nat→List (List Nat):=fun i=>(([]:List (Nat×List (List Nat))).lookup i).getD []
noncomputable def bC.mk (g:Int→Int→Int→Int→Int→Hp→OA) (args:List AV) (H:Hp):OA:=match args with
 | [(.agg [(.int .i64 aa),(.int .i64 ab),(.int .i64 aC),(.int .i64 aD),(.int .i64 aA)])]=>g aa ab aC aD aA H
 | _=>none
noncomputable def bC.cs (F:Nat):List (FuncId×(List AV→Hp→OA)):=[]
theorem bC.loops (F:Nat):LoopsOk tabs (mkOrc (bC.cs F)) bC.pn (bC.lh F) F [] 1 bC.code (fun tm H=>aresults tabs.ty H tm Try.f124.results.toList fun v=>some (v,H)) (fun _ _ _=>none) (fun tm H=>aresults tabs.ty H tm Try.f124.results.toList fun v=>some (v,H)):=by
 exact loops_none (by kernel_rfl)
theorem bC.eqX (F:Nat) (aa:Int) (ab:Int) (aC:Int) (aD:Int) (aA:Int) (H:Hp):aCode tabs (mkOrc (bC.cs F)) bC.pn (bC.lh F) F [] 1 bC.code (argTm [(.agg [(.int .i64 aa),(.int .i64 ab),(.int .i64 aC),(.int .i64 aD),(.int .i64 aA)])]) H (fun tm H=>aresults tabs.ty H tm Try.f124.results.toList fun v=>some (v,H)) (fun _ _ _=>none) (fun tm H=>aresults tabs.ty H tm Try.f124.results.toList fun v=>some (v,H)) = bC.twX F aa ab aC aD aA H:=by kernel_rfl
theorem bC.cs_ok (F:Nat):∀ p ∈ bC.cs F,∀ args H v H',p.2 args H = some (v,H')→Go.AE.T Try.prog p.1 args H v H':=by
 intro p hp
 exact absurd (show p ∈ [] from hp) List.not_mem_nil
theorem bC.ok:codeOk bC.pn Try.f124.ntmps bC.tb bC.code = true:=by kernel_rfl
theorem bC.T {F:Nat} {aa:Int} {ab:Int} {aC:Int} {aD:Int} {aA:Int} {H:Hp} {v:AV} {H':Hp} (h:bC.tw F aa ab aC aD aA H = some (v,H')):Go.AE.T Try.prog 124 [(.agg [(.int .i64 aa),(.int .i64 ab),(.int .i64 aC),(.int .i64 aD),(.int .i64 aA)])] H v H':=
 Go.AE.T.of (Y:=tabs) (C:=mkOrc (bC.cs F)) (PN:=bC.pn) (LH:=bC.lh F) (F:=F) (TB:=bC.tb) (fn:=Try.f124) (code:=bC.code) mixed tabs_ok (mkOrc_ok (bC.cs_ok F)) Try.func124 (by kernel_rfl) (by kernel_rfl) bC.ok (Nat.le_of_ble_eq_true (by kernel_rfl)) (bC.loops F) (Eq.trans (bC.eqX F aa ab aC aD aA H) h)
theorem bC.mk_T {F:Nat} {args:List AV} {H:Hp} {v:AV} {H':Hp} (h:bC.mk (bC.tw F) args H = some (v,H')):Go.AE.T Try.prog 124 args H v H':=by
 unfold bC.mk at h
 split at h
 ·exact bC.T h
 ·cases h
noncomputable def aR.l13 (F:Nat) (eh:Int→Int→Int→Int→Int→Hp→OA) :Nat→Sl→Int→Int→Hp→OA
 | 0,_,_,_,_=>none
 | fN + 1,hL,eW,ei,H6=>(bif (decide (ei < eW)) then ((Sl.idx hL ei 5).bind fun p15=>(Hp.ldI H6 .i64 p15.1 p15.2).bind fun n16=>(Hp.ldI H6 .i64 p15.1 (p15.2 + 1)).bind fun n17=>(Hp.ldI H6 .i64 p15.1 (p15.2 + 2)).bind fun n18=>(Hp.ldI H6 .i64 p15.1 (p15.2 + 3)).bind fun n19=>(Hp.ldI H6 .i64 p15.1 (p15.2 + 4)).bind fun n20=>(eh n16 n17 n18 n19 n20 H6).bind fun r21=>((r21.1).asB).bind fun b22=>(bif b22 then (some ((.int .i64 ei),r21.2)) else (aR.l13 F eh fN hL eW (IntKind.i64.wrap (ei + 1)) r21.2))) else (some ((.int .i64 (-1)),H6)))
termination_by structural n=>n
noncomputable def aR.twX (F:Nat) (eh:Int→Int→Int→Int→Int→Hp→OA) (aa:Sl) (H:Hp):OA:=aR.l13 F eh F aa (aa.n:Int) 0 H
noncomputable def aR.tw (F:Nat) (aa:Sl) (H:Hp):OA:=aR.twX F (bC.tw F) aa H
noncomputable def aR.code:Go.Code:=(Try.f153.body).getD .skip
noncomputable def aR.lh13 (F:Nat) (eh:Int→Int→Int→Int→Int→Hp→OA) (ks:List Nat) (n:Nat) (tm:Tm) (H:Hp):OA:=match ks,tm 0,tm 1,tm 7,tm 8 with
 | [],(.sl hL),(.fn 124 []),(.int .i64 eW),(.int .i64 ei)=>aR.l13 F eh n hL eW ei H
 | _,_,_,_,_=>none
theorem aR.lh13_inv {F:Nat} {eh:Int→Int→Int→Int→Int→Hp→OA} {ks:List Nat} {n:Nat} {tm:Tm} {H:Hp} {r:AV×Hp} (h:aR.lh13 F eh ks n tm H = some r):∃ hL:Sl,∃ eW:Int,∃ ei:Int,ks = []∧tm 0 = (.sl hL)∧tm 1 = (.fn 124 [])∧tm 7 = (.int .i64 eW)∧tm 8 = (.int .i64 ei)∧aR.l13 F eh n hL eW ei H = some r:=by
 unfold aR.lh13 at h
 split at h
 ·exact ⟨_,_,_,rfl,by assumption,by assumption,by assumption,by assumption,h⟩
 ·cases h
noncomputable def aR.lh (F:Nat) (eh:Int→Int→Int→Int→Int→Hp→OA) (p:Nat) (ks:List Nat) (n:Nat) (tm:Tm) (H:Hp):OA:=bif p.beq 13 then aR.lh13 F eh ks n tm H else (none)
def aR.pn:Nat→List Nat:=fun i=>(([]:List (Nat×List Nat)).lookup i).getD []
def aR.tb:Nat→List (List Nat):=fun i=>(([]:List (Nat×List (List Nat))).lookup i).getD []
noncomputable def aR.mk (g:Sl→Hp→OA) (args:List AV) (H:Hp):OA:=match args with
 | [(.sl aa),(.fn 124 [])]=>g aa H
 | _=>none
noncomputable def aR.cs (F:Nat) (eh:Int→Int→Int→Int→Int→Hp→OA):List (FuncId×(List AV→Hp→OA)):=[(124,bC.mk eh)]
theorem aR.loops (F:Nat) (eh:Int→Int→Int→Int→Int→Hp→OA):LoopsOk tabs (mkOrc (aR.cs F eh)) aR.pn (aR.lh F eh) F [] 1 aR.code (fun tm H=>aresults tabs.ty H tm Try.f153.results.toList fun v=>some (v,H)) (fun _ _ _=>none) (fun tm H=>aresults tabs.ty H tm Try.f153.results.toList fun v=>some (v,H)):=by
 refine LoopsOk.seq ?_ ?_
 ·exact loops_none (by kernel_rfl)
 ·refine LoopsOk.seq ?_ ?_
  ·refine LoopsOk.seq ?_ ?_
   ·exact loops_none (by kernel_rfl)
   ·refine LoopsOk.block ?_
    refine LoopsOk.loop (fun tm H=>?_) (fun k13 tm H r h0=>?_) (fun k13=>?_)
    ·refine none_of fun r h0=>?_
     obtain ⟨hL,eW,ei,hks,e0,e1,e7,e8,h⟩:=aR.lh13_inv (show aR.lh13 F eh [] 0 tm H = some r from h0)
     cases h
    ·obtain ⟨hL,eW,ei,hks,e0,e1,e7,e8,h⟩:=aR.lh13_inv (show aR.lh13 F eh [] (k13 + 1) tm H = some r from h0)
     have q0:(Tm.put tm 0 (.sl hL)) = tm:=by exact Tm.put_same e0
     have q1:(Tm.put (Tm.put tm 0 (.sl hL)) 1 (.fn 124 [])) = tm:=by rw [q0]; exact Tm.put_same e1
     have q2:(Tm.put (Tm.put (Tm.put tm 0 (.sl hL)) 1 (.fn 124 [])) 7 (.int .i64 eW)) = tm:=by rw [q1]; exact Tm.put_same e7
     have q3:(Tm.put (Tm.put (Tm.put (Tm.put tm 0 (.sl hL)) 1 (.fn 124 [])) 7 (.int .i64 eW)) 8 (.int .i64 ei)) = tm:=by rw [q2]; exact Tm.put_same e8
     rw [← q3]
     exact Eq.trans (by kernel_rfl) h
    ·exact loops_none (by kernel_rfl)
  ·exact loops_none (by kernel_rfl)
theorem aR.eqX (F:Nat) (eh:Int→Int→Int→Int→Int→Hp→OA) (aa:Sl) (H:Hp):aCode tabs (mkOrc (aR.cs F eh)) aR.pn (aR.lh F eh) F [] 1 aR.code (argTm [(.sl aa),(.fn 124 [])]) H (fun tm H=>aresults tabs.ty H tm Try.f153.results.toList fun v=>some (v,H)) (fun _ _ _=>none) (fun tm H=>aresults tabs.ty H tm Try.f153.results.toList fun v=>some (v,H)) = aR.twX F eh aa H:=by kernel_rfl
theorem aR.cs_ok (F:Nat):∀ p ∈ aR.cs F (bC.tw F),∀ args H v H',p.2 args H = some (v,H')→Go.AE.T Try.prog p.1 args H v H':=by
 intro p hp
 simp only [aR.cs,List.mem_cons,List.not_mem_nil,or_false] at hp
 subst hp
 exact fun args H v H' h=>bC.mk_T h
theorem aR.ok:codeOk aR.pn Try.f153.ntmps aR.tb aR.code = true:=by kernel_rfl
theorem aR.T {F:Nat} {aa:Sl} {H:Hp} {v:AV} {H':Hp} (h:aR.tw F aa H = some (v,H')):Go.AE.T Try.prog 153 [(.sl aa),(.fn 124 [])] H v H':=
 Go.AE.T.of (Y:=tabs) (C:=mkOrc (aR.cs F (bC.tw F))) (PN:=aR.pn) (LH:=aR.lh F (bC.tw F)) (F:=F) (TB:=aR.tb) (fn:=Try.f153) (code:=aR.code) mixed tabs_ok (mkOrc_ok (aR.cs_ok F)) Try.func153 (by kernel_rfl) (by kernel_rfl) aR.ok (Nat.le_of_ble_eq_true (by kernel_rfl)) (aR.loops F (bC.tw F)) (Eq.trans (aR.eqX F (bC.tw F) aa H) h)
theorem aR.mk_T {F:Nat} {args:List AV} {H:Hp} {v:AV} {H':Hp} (h:aR.mk (aR.tw F) args H = some (v,H')):Go.AE.T Try.prog 153 args H v H':=by
 unfold aR.mk at h
 split at h
 ·exact aR.T h
 ·cases h
noncomputable def bw.twX (F:Nat) (iL:Sl→Hp→OA) (aa:Sl) (H:Hp):OA:=(iL aa H).bind fun r2=>((r2.1).asI .i64).bind fun n3=>some ((.bool (decide (n3 ≥ 0))),r2.2)
noncomputable def bw.tw (F:Nat) (aa:Sl) (H:Hp):OA:=bw.twX F (aR.tw F) aa H
noncomputable def bw.code:Go.Code:=(Try.f123.body).getD .skip
noncomputable def bw.lh (F:Nat) (iL:Sl→Hp→OA) (p:Nat) (ks:List Nat) (n:Nat) (tm:Tm) (H:Hp):OA:=none
def bw.pn:Nat→List Nat:=fun i=>(([]:List (Nat×List Nat)).lookup i).getD []
def bw.tb:Nat→List (List Nat):=fun i=>(([]:List (Nat×List (List Nat))).lookup i).getD []
noncomputable def bw.mk (g:Sl→Hp→OA) (args:List AV) (H:Hp):OA:=match args with
 | [(.sl aa),(.fn 124 [])]=>g aa H
 | _=>none
noncomputable def bw.cs (F:Nat) (iL:Sl→Hp→OA):List (FuncId×(List AV→Hp→OA)):=[(153,aR.mk iL)]
theorem bw.loops (F:Nat) (iL:Sl→Hp→OA):LoopsOk tabs (mkOrc (bw.cs F iL)) bw.pn (bw.lh F iL) F [] 1 bw.code (fun tm H=>aresults tabs.ty H tm Try.f123.results.toList fun v=>some (v,H)) (fun _ _ _=>none) (fun tm H=>aresults tabs.ty H tm Try.f123.results.toList fun v=>some (v,H)):=by
 exact loops_none (by kernel_rfl)
theorem bw.eqX (F:Nat) (iL:Sl→Hp→OA) (aa:Sl) (H:Hp):aCode tabs (mkOrc (bw.cs F iL)) bw.pn (bw.lh F iL) F [] 1 bw.code (argTm [(.sl aa),(.fn 124 [])]) H (fun tm H=>aresults tabs.ty H tm Try.f123.results.toList fun v=>some (v,H)) (fun _ _ _=>none) (fun tm H=>aresults tabs.ty H tm Try.f123.results.toList fun v=>some (v,H)) = bw.twX F iL aa H:=by kernel_rfl
theorem bw.cs_ok (F:Nat):∀ p ∈ bw.cs F (aR.tw F),∀ args H v H',p.2 args H = some (v,H')→Go.AE.T Try.prog p.1 args H v H':=by
 intro p hp
 simp only [bw.cs,List.mem_cons,List.not_mem_nil,or_false] at hp
 subst hp
 exact fun args H v H' h=>aR.mk_T h
theorem bw.ok:codeOk bw.pn Try.f123.ntmps bw.tb bw.code = true:=by kernel_rfl
theorem bw.T {F:Nat} {aa:Sl} {H:Hp} {v:AV} {H':Hp} (h:bw.tw F aa H = some (v,H')):Go.AE.T Try.prog 123 [(.sl aa),(.fn 124 [])] H v H':=
 Go.AE.T.of (Y:=tabs) (C:=mkOrc (bw.cs F (aR.tw F))) (PN:=bw.pn) (LH:=bw.lh F (aR.tw F)) (F:=F) (TB:=bw.tb) (fn:=Try.f123) (code:=bw.code) mixed tabs_ok (mkOrc_ok (bw.cs_ok F)) Try.func123 (by kernel_rfl) (by kernel_rfl) bw.ok (Nat.le_of_ble_eq_true (by kernel_rfl)) (bw.loops F (aR.tw F)) (Eq.trans (bw.eqX F (aR.tw F) aa H) h)
theorem bw.mk_T {F:Nat} {args:List AV} {H:Hp} {v:AV} {H':Hp} (h:bw.mk (bw.tw F) args H = some (v,H')):Go.AE.T Try.prog 123 args H v H':=by
 unfold bw.mk at h
 split at h
 ·exact bw.T h
 ·cases h
noncomputable def bits_Mul64.twX (F:Nat) (aa:Int) (ae:Int) (H:Hp):OA:=some ((.tup [(.int .u64 (IntKind.u64.wrap ((IntKind.u64.wrap ((IntKind.u64.wrap ((Int.fdiv aa (2 ^ (min (32:Int).toNat (IntKind.u64).bits))) * (Int.fdiv ae (2 ^ (min (32:Int).toNat (IntKind.u64).bits))))) + (Int.fdiv (IntKind.u64.wrap ((IntKind.u64.wrap ((Int.fdiv aa (2 ^ (min (32:Int).toNat (IntKind.u64).bits))) * (Go.bits .and .u64 ae 4294967295))) + (Int.fdiv (IntKind.u64.wrap ((Go.bits .and .u64 aa 4294967295) * (Go.bits .and .u64 ae 4294967295))) (2 ^ (min (32:Int).toNat (IntKind.u64).bits))))) (2 ^ (min (32:Int).toNat (IntKind.u64).bits))))) + (Int.fdiv (IntKind.u64.wrap ((Go.bits .and .u64 (IntKind.u64.wrap ((IntKind.u64.wrap ((Int.fdiv aa (2 ^ (min (32:Int).toNat (IntKind.u64).bits))) * (Go.bits .and .u64 ae 4294967295))) + (Int.fdiv (IntKind.u64.wrap ((Go.bits .and .u64 aa 4294967295) * (Go.bits .and .u64 ae 4294967295))) (2 ^ (min (32:Int).toNat (IntKind.u64).bits))))) 4294967295) + (IntKind.u64.wrap ((Go.bits .and .u64 aa 4294967295) * (Int.fdiv ae (2 ^ (min (32:Int).toNat (IntKind.u64).bits))))))) (2 ^ (min (32:Int).toNat (IntKind.u64).bits)))))),(.int .u64 (IntKind.u64.wrap (aa * ae)))]),H)
noncomputable def bits_Mul64.tw (F:Nat) (aa:Int) (ae:Int) (H:Hp):OA:=bits_Mul64.twX F aa ae H
noncomputable def bits_Mul64.code:Go.Code:=(Try.f172.body).getD .skip
noncomputable def bits_Mul64.lh (F:Nat) (p:Nat) (ks:List Nat) (n:Nat) (tm:Tm) (H:Hp):OA:=none
def bits_Mul64.pn:Nat→List Nat:=fun i=>(([]:List (Nat×List Nat)).lookup i).getD []
def bits_Mul64.tb:Nat→List (List Nat):=fun i=>(([]:List (Nat×List (List Nat))).lookup i).getD []
noncomputable def bits_Mul64.mk (g:Int→Int→Hp→OA) (args:List AV) (H:Hp):OA:=match args with
 | [(.int .u64 aa),(.int .u64 ae)]=>g aa ae H
 | _=>none
noncomputable def bits_Mul64.cs (F:Nat):List (FuncId×(List AV→Hp→OA)):=[]
theorem bits_Mul64.loops (F:Nat):LoopsOk tabs (mkOrc (bits_Mul64.cs F)) bits_Mul64.pn (bits_Mul64.lh F) F [] 1 bits_Mul64.code (fun tm H=>aresults tabs.ty H tm Try.f172.results.toList fun v=>some (v,H)) (fun _ _ _=>none) (fun tm H=>aresults tabs.ty H tm Try.f172.results.toList fun v=>some (v,H)):=by
 exact loops_none (by kernel_rfl)
theorem bits_Mul64.eqX (F:Nat) (aa:Int) (ae:Int) (H:Hp):aCode tabs (mkOrc (bits_Mul64.cs F)) bits_Mul64.pn (bits_Mul64.lh F) F [] 1 bits_Mul64.code (argTm [(.int .u64 aa),(.int .u64 ae)]) H (fun tm H=>aresults tabs.ty H tm Try.f172.results.toList fun v=>some (v,H)) (fun _ _ _=>none) (fun tm H=>aresults tabs.ty H tm Try.f172.results.toList fun v=>some (v,H)) = bits_Mul64.twX F aa ae H:=by kernel_rfl
theorem bits_Mul64.cs_ok (F:Nat):∀ p ∈ bits_Mul64.cs F,∀ args H v H',p.2 args H = some (v,H')→Go.AE.T Try.prog p.1 args H v H':=by
 intro p hp
 exact absurd (show p ∈ [] from hp) List.not_mem_nil
theorem bits_Mul64.ok:codeOk bits_Mul64.pn Try.f172.ntmps bits_Mul64.tb bits_Mul64.code = true:=by kernel_rfl
theorem bits_Mul64.T {F:Nat} {aa:Int} {ae:Int} {H:Hp} {v:AV} {H':Hp} (h:bits_Mul64.tw F aa ae H = some (v,H')):Go.AE.T Try.prog 172 [(.int .u64 aa),(.int .u64 ae)] H v H':=
 Go.AE.T.of (Y:=tabs) (C:=mkOrc (bits_Mul64.cs F)) (PN:=bits_Mul64.pn) (LH:=bits_Mul64.lh F) (F:=F) (TB:=bits_Mul64.tb) (fn:=Try.f172) (code:=bits_Mul64.code) mixed tabs_ok (mkOrc_ok (bits_Mul64.cs_ok F)) Try.func172 (by kernel_rfl) (by kernel_rfl) bits_Mul64.ok (Nat.le_of_ble_eq_true (by kernel_rfl)) (bits_Mul64.loops F) (Eq.trans (bits_Mul64.eqX F aa ae H) h)
theorem bits_Mul64.mk_T {F:Nat} {args:List AV} {H:Hp} {v:AV} {H':Hp} (h:bits_Mul64.mk (bits_Mul64.tw F) args H = some (v,H')):Go.AE.T Try.prog 172 args H v H':=by
 unfold bits_Mul64.mk at h
 split at h
 ·exact bits_Mul64.T h
 ·cases h
noncomputable def bits_Mul.twX (F:Nat) (g_bits_Mul64:Int→Int→Hp→OA) (aa:Int) (ae:Int) (H:Hp):OA:=(g_bits_Mul64 aa ae H).bind fun r3=>((r3.1).asTup 2).bind fun l4=>(l4[0]?).bind fun v5=>((v5).asI .u64).bind fun n6=>(l4[1]?).bind fun v7=>((v7).asI .u64).bind fun n8=>some ((.tup [(.int .u64 n6),(.int .u64 n8)]),r3.2)
noncomputable def bits_Mul.tw (F:Nat) (aa:Int) (ae:Int) (H:Hp):OA:=bits_Mul.twX F (bits_Mul64.tw F) aa ae H
noncomputable def bits_Mul.code:Go.Code:=(Try.f158.body).getD .skip
noncomputable def bits_Mul.lh (F:Nat) (g_bits_Mul64:Int→Int→Hp→OA) (p:Nat) (ks:List Nat) (n:Nat) (tm:Tm) (H:Hp):OA:=none
def bits_Mul.pn:Nat→List Nat:=fun i=>(([]:List (Nat×List Nat)).lookup i).getD []
def bits_Mul.tb:Nat→List (List Nat):=fun i=>(([]:List (Nat×List (List Nat))).lookup i).getD []
noncomputable def bits_Mul.mk (g:Int→Int→Hp→OA) (args:List AV) (H:Hp):OA:=match args with
 | [(.int .u64 aa),(.int .u64 ae)]=>g aa ae H
 | _=>none
noncomputable def bits_Mul.cs (F:Nat) (g_bits_Mul64:Int→Int→Hp→OA):List (FuncId×(List AV→Hp→OA)):=[(172,bits_Mul64.mk g_bits_Mul64)]
theorem bits_Mul.loops (F:Nat) (g_bits_Mul64:Int→Int→Hp→OA):LoopsOk tabs (mkOrc (bits_Mul.cs F g_bits_Mul64)) bits_Mul.pn (bits_Mul.lh F g_bits_Mul64) F [] 1 bits_Mul.code (fun tm H=>aresults tabs.ty H tm Try.f158.results.toList fun v=>some (v,H)) (fun _ _ _=>none) (fun tm H=>aresults tabs.ty H tm Try.f158.results.toList fun v=>some (v,H)):=by
 exact loops_none (by kernel_rfl)
theorem bits_Mul.eqX (F:Nat) (g_bits_Mul64:Int→Int→Hp→OA) (aa:Int) (ae:Int) (H:Hp):aCode tabs (mkOrc (bits_Mul.cs F g_bits_Mul64)) bits_Mul.pn (bits_Mul.lh F g_bits_Mul64) F [] 1 bits_Mul.code (argTm [(.int .u64 aa),(.int .u64 ae)]) H (fun tm H=>aresults tabs.ty H tm Try.f158.results.toList fun v=>some (v,H)) (fun _ _ _=>none) (fun tm H=>aresults tabs.ty H tm Try.f158.results.toList fun v=>some (v,H)) = bits_Mul.twX F g_bits_Mul64 aa ae H:=by kernel_rfl
theorem bits_Mul.cs_ok (F:Nat):∀ p ∈ bits_Mul.cs F (bits_Mul64.tw F),∀ args H v H',p.2 args H = some (v,H')→Go.AE.T Try.prog p.1 args H v H':=by
 intro p hp
 simp only [bits_Mul.cs,List.mem_cons,List.not_mem_nil,or_false] at hp
 subst hp
 exact fun args H v H' h=>bits_Mul64.mk_T h
theorem bits_Mul.ok:codeOk bits_Mul.pn Try.f158.ntmps bits_Mul.tb bits_Mul.code = true:=by kernel_rfl
theorem bits_Mul.T {F:Nat} {aa:Int} {ae:Int} {H:Hp} {v:AV} {H':Hp} (h:bits_Mul.tw F aa ae H = some (v,H')):Go.AE.T Try.prog 158 [(.int .u64 aa),(.int .u64 ae)] H v H':=
 Go.AE.T.of (Y:=tabs) (C:=mkOrc (bits_Mul.cs F (bits_Mul64.tw F))) (PN:=bits_Mul.pn) (LH:=bits_Mul.lh F (bits_Mul64.tw F)) (F:=F) (TB:=bits_Mul.tb) (fn:=Try.f158) (code:=bits_Mul.code) mixed tabs_ok (mkOrc_ok (bits_Mul.cs_ok F)) Try.func158 (by kernel_rfl) (by kernel_rfl) bits_Mul.ok (Nat.le_of_ble_eq_true (by kernel_rfl)) (bits_Mul.loops F (bits_Mul64.tw F)) (Eq.trans (bits_Mul.eqX F (bits_Mul64.tw F) aa ae H) h)
theorem bits_Mul.mk_T {F:Nat} {args:List AV} {H:Hp} {v:AV} {H':Hp} (h:bits_Mul.mk (bits_Mul.tw F) args H = some (v,H')):Go.AE.T Try.prog 158 args H v H':=by
 unfold bits_Mul.mk at h
 split at h
 ·exact bits_Mul.T h
 ·cases h
noncomputable def aG.l254 (F:Nat) (g_bits_Mul:Int→Int→Hp→OA) :Nat→Sl→Int→Hp→OA
 | 0,_,_,_=>none
 | GH + 1,gu,il,H33=>(bif (decide (il < (gu.n:Int))) then ((Sl.cut gu 2 il (gu.n:Int)).bind fun s37=>(Sl.cut gu 2 0 il).bind fun s38=>(Hp.cpy H33 2 s37 s38).bind fun c39=>aG.l254 F g_bits_Mul GH gu (IntKind.i64.wrap (il + (c39.1:Int))) c39.2) else (some ((.sl gu),H33)))
termination_by structural n=>n
noncomputable def aG.j1 (F:Nat) (g_bits_Mul:Int→Int→Hp→OA) (GI:Sl) (lI:Int) (H21:Hp):OA:=(Hp.mk H21 [.int .i64 0,.int .i64 0] 16 (IntKind.i64.wrap lI) (IntKind.i64.wrap lI)).bind fun m22=>(Hp.cpy m22.2 2 m22.1 GI).bind fun c23=>aG.l254 F g_bits_Mul F m22.1 (c23.1:Int) c23.2
noncomputable def aG.j2 (F:Nat) (g_bits_Mul:Int→Int→Hp→OA) (zB:Sl) (mS:Int) (H7:Hp):OA:=(g_bits_Mul (IntKind.u64.wrap (zB.n:Int)) (IntKind.u64.wrap mS) H7).bind fun r8=>((r8.1).asTup 2).bind fun l9=>(l9[0]?).bind fun v10=>((v10).asI .u64).bind fun n11=>(l9[1]?).bind fun v12=>((v12).asI .u64).bind fun n13=>(bif (decide (n11 > 0)) then (none) else ((bif (decide (n13 > 9223372036854775807)) then (none) else (aG.j1 F g_bits_Mul zB n13 r8.2))))
noncomputable def aG.twX (F:Nat) (g_bits_Mul:Int→Int→Hp→OA) (aa:Sl) (ae:Int) (H:Hp):OA:=(bif (decide (ae < 0)) then (none) else (aG.j2 F g_bits_Mul aa ae H))
noncomputable def aG.tw (F:Nat) (aa:Sl) (ae:Int) (H:Hp):OA:=aG.twX F (bits_Mul.tw F) aa ae H
noncomputable def aG.code:Go.Code:=(Try.f154.body).getD .skip
noncomputable def aG.lh254 (F:Nat) (g_bits_Mul:Int→Int→Hp→OA) (ks:List Nat) (n:Nat) (tm:Tm) (H:Hp):OA:=match ks,tm 7,tm 8 with
 | [],(.sl gu),(.int .i64 il)=>aG.l254 F g_bits_Mul n gu il H
 | _,_,_=>none
theorem aG.lh254_inv {F:Nat} {g_bits_Mul:Int→Int→Hp→OA} {ks:List Nat} {n:Nat} {tm:Tm} {H:Hp} {r:AV×Hp} (h:aG.lh254 F g_bits_Mul ks n tm H = some r):∃ gu:Sl,∃ il:Int,ks = []∧tm 7 = (.sl gu)∧tm 8 = (.int .i64 il)∧aG.l254 F g_bits_Mul n gu il H = some r:=by
 unfold aG.lh254 at h
 split at h
 ·exact ⟨_,_,rfl,by assumption,by assumption,h⟩
 ·cases h
noncomputable def aG.lh (F:Nat) (g_bits_Mul:Int→Int→Hp→OA) (p:Nat) (ks:List Nat) (n:Nat) (tm:Tm) (H:Hp):OA:=bif p.beq 254 then aG.lh254 F g_bits_Mul ks n tm H else (none)
def aG.pn:Nat→List Nat:=fun i=>(([(9,[7])]:List (Nat×List Nat)).lookup i).getD []
def aG.tb:Nat→List (List Nat):=fun i=>(([(9,[[],[],[],[1,2],[],[],[4,5],[1,2,3,4,5,6],[0,1,2,3,4,5,6,7],[0,1,2,3,4,5,6,7,8]])]:List (Nat×List (List Nat))).lookup i).getD []
noncomputable def aG.mk (g:Sl→Int→Hp→OA) (args:List AV) (H:Hp):OA:=match args with
 | [(.sl aa),(.int .i64 ae)]=>g aa ae H
 | _=>none
noncomputable def aG.cs (F:Nat) (g_bits_Mul:Int→Int→Hp→OA):List (FuncId×(List AV→Hp→OA)):=[(158,bits_Mul.mk g_bits_Mul)]
theorem aG.loops (F:Nat) (g_bits_Mul:Int→Int→Hp→OA):LoopsOk tabs (mkOrc (aG.cs F g_bits_Mul)) aG.pn (aG.lh F g_bits_Mul) F [] 1 aG.code (fun tm H=>aresults tabs.ty H tm Try.f154.results.toList fun v=>some (v,H)) (fun _ _ _=>none) (fun tm H=>aresults tabs.ty H tm Try.f154.results.toList fun v=>some (v,H)):=by
 refine LoopsOk.seq ?_ ?_
 ·exact loops_none (by kernel_rfl)
 ·refine LoopsOk.seq ?_ ?_
  ·exact loops_none (by kernel_rfl)
  ·refine LoopsOk.seq ?_ ?_
   ·exact loops_none (by kernel_rfl)
   ·refine LoopsOk.seq ?_ ?_
    ·exact loops_none (by kernel_rfl)
    ·refine LoopsOk.seq ?_ ?_
     ·exact loops_none (by kernel_rfl)
     ·refine LoopsOk.seq ?_ ?_
      ·exact loops_none (by kernel_rfl)
      ·refine LoopsOk.seq ?_ ?_
       ·refine LoopsOk.block ?_
        refine LoopsOk.loop (fun tm H=>?_) (fun k254 tm H r h0=>?_) (fun k254=>?_)
        ·refine none_of fun r h0=>?_
         obtain ⟨gu,il,hks,e7,e8,h⟩:=aG.lh254_inv (show aG.lh254 F g_bits_Mul [] 0 tm H = some r from h0)
         cases h
        ·obtain ⟨gu,il,hks,e7,e8,h⟩:=aG.lh254_inv (show aG.lh254 F g_bits_Mul [] (k254 + 1) tm H = some r from h0)
         have q0:(Tm.put tm 7 (.sl gu)) = tm:=by exact Tm.put_same e7
         have q1:(Tm.put (Tm.put tm 7 (.sl gu)) 8 (.int .i64 il)) = tm:=by rw [q0]; exact Tm.put_same e8
         rw [← q1]
         exact Eq.trans (by kernel_rfl) h
        ·exact loops_none (by kernel_rfl)
       ·exact loops_none (by kernel_rfl)
theorem aG.eqX (F:Nat) (g_bits_Mul:Int→Int→Hp→OA) (aa:Sl) (ae:Int) (H:Hp):aCode tabs (mkOrc (aG.cs F g_bits_Mul)) aG.pn (aG.lh F g_bits_Mul) F [] 1 aG.code (argTm [(.sl aa),(.int .i64 ae)]) H (fun tm H=>aresults tabs.ty H tm Try.f154.results.toList fun v=>some (v,H)) (fun _ _ _=>none) (fun tm H=>aresults tabs.ty H tm Try.f154.results.toList fun v=>some (v,H)) = aG.twX F g_bits_Mul aa ae H:=by kernel_rfl
theorem aG.cs_ok (F:Nat):∀ p ∈ aG.cs F (bits_Mul.tw F),∀ args H v H',p.2 args H = some (v,H')→Go.AE.T Try.prog p.1 args H v H':=by
 intro p hp
 simp only [aG.cs,List.mem_cons,List.not_mem_nil,or_false] at hp
 subst hp
 exact fun args H v H' h=>bits_Mul.mk_T h
theorem aG.ok:codeOk aG.pn Try.f154.ntmps aG.tb aG.code = true:=by kernel_rfl
theorem aG.T {F:Nat} {aa:Sl} {ae:Int} {H:Hp} {v:AV} {H':Hp} (h:aG.tw F aa ae H = some (v,H')):Go.AE.T Try.prog 154 [(.sl aa),(.int .i64 ae)] H v H':=
 Go.AE.T.of (Y:=tabs) (C:=mkOrc (aG.cs F (bits_Mul.tw F))) (PN:=aG.pn) (LH:=aG.lh F (bits_Mul.tw F)) (F:=F) (TB:=aG.tb) (fn:=Try.f154) (code:=aG.code) mixed tabs_ok (mkOrc_ok (aG.cs_ok F)) Try.func154 (by kernel_rfl) (by kernel_rfl) aG.ok (Nat.le_of_ble_eq_true (by kernel_rfl)) (aG.loops F (bits_Mul.tw F)) (Eq.trans (aG.eqX F (bits_Mul.tw F) aa ae H) h)
theorem aG.mk_T {F:Nat} {args:List AV} {H:Hp} {v:AV} {H':Hp} (h:aG.mk (aG.tw F) args H = some (v,H')):Go.AE.T Try.prog 154 args H v H':=by
 unfold aG.mk at h
 split at h
 ·exact aG.T h
 ·cases h
noncomputable def bd.twX (F:Nat) (aa:Int) (ab:Int) (aC:Int) (aD:Int) (aA:Int) (H:Hp):OA:=(Hp.new H [(.int .i64 aa),(.int .i64 ab),(.int .i64 aC),(.int .i64 aD),(.int .i64 aA)]).bind fun H6=>(Hp.new H6 [.int .i64 0,.int .i64 0,.int .i64 0,.int .i64 0]).bind fun H7=>(Hp.ldI H7 .i64 H.length 0).bind fun n8=>(Hp.ldI H7 .i64 H.length 1).bind fun n9=>(Hp.ldI H7 .i64 H.length 2).bind fun n10=>(Hp.ldI H7 .i64 H.length 3).bind fun n11=>(Hp.st H7 H6.length 0 (.int .i64 n8)).bind fun H12=>(Hp.st H12 H6.length (0 + 1) (.int .i64 n9)).bind fun H13=>(Hp.st H13 H6.length (0 + 1 + 1) (.int .i64 n10)).bind fun H14=>(Hp.st H14 H6.length (0 + 1 + 1 + 1) (.int .i64 n11)).bind fun H15=>(Hp.ldI H15 .i64 H6.length 0).bind fun n16=>(Hp.ldI H15 .i64 H6.length (0 + 1)).bind fun n17=>(Hp.ldI H15 .i64 H6.length (0 + 2)).bind fun n18=>(Hp.ldI H15 .i64 H6.length (0 + 3)).bind fun n19=>some ((.agg [(.int .i64 n16),(.int .i64 n17),(.int .i64 n18),(.int .i64 n19)]),H15)
noncomputable def bd.tw (F:Nat) (aa:Int) (ab:Int) (aC:Int) (aD:Int) (aA:Int) (H:Hp):OA:=bd.twX F aa ab aC aD aA H
noncomputable def bd.code:Go.Code:=(Try.f155.body).getD .skip
noncomputable def bd.lh (F:Nat) (p:Nat) (ks:List Nat) (n:Nat) (tm:Tm) (H:Hp):OA:=none
def bd.pn:Nat→List Nat:=fun i=>(([]:List (Nat×List Nat)).lookup i).getD []
def bd.tb:Nat→List (List Nat):=fun i=>(([]:List (Nat×List (List Nat))).lookup i).getD []
noncomputable def bd.mk (g:Int→Int→Int→Int→Int→Hp→OA) (args:List AV) (H:Hp):OA:=match args with
 | [(.agg [(.int .i64 aa),(.int .i64 ab),(.int .i64 aC),(.int .i64 aD),(.int .i64 aA)])]=>g aa ab aC aD aA H
 | _=>none
noncomputable def bd.cs (F:Nat):List (FuncId×(List AV→Hp→OA)):=[]
theorem bd.loops (F:Nat):LoopsOk tabs (mkOrc (bd.cs F)) bd.pn (bd.lh F) F [] 1 bd.code (fun tm H=>aresults tabs.ty H tm Try.f155.results.toList fun v=>some (v,H)) (fun _ _ _=>none) (fun tm H=>aresults tabs.ty H tm Try.f155.results.toList fun v=>some (v,H)):=by
 exact loops_none (by kernel_rfl)
theorem bd.eqX (F:Nat) (aa:Int) (ab:Int) (aC:Int) (aD:Int) (aA:Int) (H:Hp):aCode tabs (mkOrc (bd.cs F)) bd.pn (bd.lh F) F [] 1 bd.code (argTm [(.agg [(.int .i64 aa),(.int .i64 ab),(.int .i64 aC),(.int .i64 aD),(.int .i64 aA)])]) H (fun tm H=>aresults tabs.ty H tm Try.f155.results.toList fun v=>some (v,H)) (fun _ _ _=>none) (fun tm H=>aresults tabs.ty H tm Try.f155.results.toList fun v=>some (v,H)) = bd.twX F aa ab aC aD aA H:=by kernel_rfl
theorem bd.cs_ok (F:Nat):∀ p ∈ bd.cs F,∀ args H v H',p.2 args H = some (v,H')→Go.AE.T Try.prog p.1 args H v H':=by
 intro p hp
 exact absurd (show p ∈ [] from hp) List.not_mem_nil
theorem bd.ok:codeOk bd.pn Try.f155.ntmps bd.tb bd.code = true:=by kernel_rfl
theorem bd.T {F:Nat} {aa:Int} {ab:Int} {aC:Int} {aD:Int} {aA:Int} {H:Hp} {v:AV} {H':Hp} (h:bd.tw F aa ab aC aD aA H = some (v,H')):Go.AE.T Try.prog 155 [(.agg [(.int .i64 aa),(.int .i64 ab),(.int .i64 aC),(.int .i64 aD),(.int .i64 aA)])] H v H':=
 Go.AE.T.of (Y:=tabs) (C:=mkOrc (bd.cs F)) (PN:=bd.pn) (LH:=bd.lh F) (F:=F) (TB:=bd.tb) (fn:=Try.f155) (code:=bd.code) mixed tabs_ok (mkOrc_ok (bd.cs_ok F)) Try.func155 (by kernel_rfl) (by kernel_rfl) bd.ok (Nat.le_of_ble_eq_true (by kernel_rfl)) (bd.loops F) (Eq.trans (bd.eqX F aa ab aC aD aA H) h)
theorem bd.mk_T {F:Nat} {args:List AV} {H:Hp} {v:AV} {H':Hp} (h:bd.mk (bd.tw F) args H = some (v,H')):Go.AE.T Try.prog 155 args H v H':=by
 unfold bd.mk at h
 split at h
 ·exact bd.T h
 ·cases h
noncomputable def bl.twX (F:Nat) (aa:Int) (ab:Int) (aC:Int) (aD:Int) (aA:Int) (bh:Int) (H:Hp):OA:=(Hp.new H [(.int .i64 aa),(.int .i64 ab),(.int .i64 aC),(.int .i64 aD),(.int .i64 aA)]).bind fun H7=>(bif (bh == 0) then (some ((.bool true),H7)) else ((Hp.ldI H7 .i64 H.length 4).bind fun n8=>some ((.bool (bh == (IntKind.i64.wrap (2 + n8)))),H7)))
noncomputable def bl.tw (F:Nat) (aa:Int) (ab:Int) (aC:Int) (aD:Int) (aA:Int) (bh:Int) (H:Hp):OA:=bl.twX F aa ab aC aD aA bh H
noncomputable def bl.code:Go.Code:=(Try.f156.body).getD .skip
noncomputable def bl.lh (F:Nat) (p:Nat) (ks:List Nat) (n:Nat) (tm:Tm) (H:Hp):OA:=none
def bl.pn:Nat→List Nat:=fun i=>(([]:List (Nat×List Nat)).lookup i).getD []
def bl.tb:Nat→List (List Nat):=fun i=>(([]:List (Nat×List (List Nat))).lookup i).getD []
noncomputable def bl.mk (g:Int→Int→Int→Int→Int→Int→Hp→OA) (args:List AV) (H:Hp):OA:=match args with
 | [(.agg [(.int .i64 aa),(.int .i64 ab),(.int .i64 aC),(.int .i64 aD),(.int .i64 aA)]),(.int .i64 bh)]=>g aa ab aC aD aA bh H
 | _=>none
noncomputable def bl.cs (F:Nat):List (FuncId×(List AV→Hp→OA)):=[]
theorem bl.loops (F:Nat):LoopsOk tabs (mkOrc (bl.cs F)) bl.pn (bl.lh F) F [] 1 bl.code (fun tm H=>aresults tabs.ty H tm Try.f156.results.toList fun v=>some (v,H)) (fun _ _ _=>none) (fun tm H=>aresults tabs.ty H tm Try.f156.results.toList fun v=>some (v,H)):=by
 exact loops_none (by kernel_rfl)
theorem bl.eqX (F:Nat) (aa:Int) (ab:Int) (aC:Int) (aD:Int) (aA:Int) (bh:Int) (H:Hp):aCode tabs (mkOrc (bl.cs F)) bl.pn (bl.lh F) F [] 1 bl.code (argTm [(.agg [(.int .i64 aa),(.int .i64 ab),(.int .i64 aC),(.int .i64 aD),(.int .i64 aA)]),(.int .i64 bh)]) H (fun tm H=>aresults tabs.ty H tm Try.f156.results.toList fun v=>some (v,H)) (fun _ _ _=>none) (fun tm H=>aresults tabs.ty H tm Try.f156.results.toList fun v=>some (v,H)) = bl.twX F aa ab aC aD aA bh H:=by kernel_rfl
theorem bl.cs_ok (F:Nat):∀ p ∈ bl.cs F,∀ args H v H',p.2 args H = some (v,H')→Go.AE.T Try.prog p.1 args H v H':=by
 intro p hp
 exact absurd (show p ∈ [] from hp) List.not_mem_nil
theorem bl.ok:codeOk bl.pn Try.f156.ntmps bl.tb bl.code = true:=by kernel_rfl
theorem bl.T {F:Nat} {aa:Int} {ab:Int} {aC:Int} {aD:Int} {aA:Int} {bh:Int} {H:Hp} {v:AV} {H':Hp} (h:bl.tw F aa ab aC aD aA bh H = some (v,H')):Go.AE.T Try.prog 156 [(.agg [(.int .i64 aa),(.int .i64 ab),(.int .i64 aC),(.int .i64 aD),(.int .i64 aA)]),(.int .i64 bh)] H v H':=
 Go.AE.T.of (Y:=tabs) (C:=mkOrc (bl.cs F)) (PN:=bl.pn) (LH:=bl.lh F) (F:=F) (TB:=bl.tb) (fn:=Try.f156) (code:=bl.code) mixed tabs_ok (mkOrc_ok (bl.cs_ok F)) Try.func156 (by kernel_rfl) (by kernel_rfl) bl.ok (Nat.le_of_ble_eq_true (by kernel_rfl)) (bl.loops F) (Eq.trans (bl.eqX F aa ab aC aD aA bh H) h)
theorem bl.mk_T {F:Nat} {args:List AV} {H:Hp} {v:AV} {H':Hp} (h:bl.mk (bl.tw F) args H = some (v,H')):Go.AE.T Try.prog 156 args H v H':=by
 unfold bl.mk at h
 split at h
 ·exact bl.T h
 ·cases h
noncomputable def bF.twX (F:Nat) (aa:Sl) (H:Hp):OA:=some ((.int .i64 (aa.n:Int)),H)
noncomputable def bF.tw (F:Nat) (aa:Sl) (H:Hp):OA:=bF.twX F aa H
noncomputable def bF.code:Go.Code:=(Try.f170.body).getD .skip
noncomputable def bF.lh (F:Nat) (p:Nat) (ks:List Nat) (n:Nat) (tm:Tm) (H:Hp):OA:=none
def bF.pn:Nat→List Nat:=fun i=>(([]:List (Nat×List Nat)).lookup i).getD []
def bF.tb:Nat→List (List Nat):=fun i=>(([]:List (Nat×List (List Nat))).lookup i).getD []
noncomputable def bF.mk (g:Sl→Hp→OA) (args:List AV) (H:Hp):OA:=match args with
 | [(.sl aa)]=>g aa H
 | _=>none
noncomputable def bF.cs (F:Nat):List (FuncId×(List AV→Hp→OA)):=[]
theorem bF.loops (F:Nat):LoopsOk tabs (mkOrc (bF.cs F)) bF.pn (bF.lh F) F [] 1 bF.code (fun tm H=>aresults tabs.ty H tm Try.f170.results.toList fun v=>some (v,H)) (fun _ _ _=>none) (fun tm H=>aresults tabs.ty H tm Try.f170.results.toList fun v=>some (v,H)):=by
 exact loops_none (by kernel_rfl)
theorem bF.eqX (F:Nat) (aa:Sl) (H:Hp):aCode tabs (mkOrc (bF.cs F)) bF.pn (bF.lh F) F [] 1 bF.code (argTm [(.sl aa)]) H (fun tm H=>aresults tabs.ty H tm Try.f170.results.toList fun v=>some (v,H)) (fun _ _ _=>none) (fun tm H=>aresults tabs.ty H tm Try.f170.results.toList fun v=>some (v,H)) = bF.twX F aa H:=by kernel_rfl
theorem bF.cs_ok (F:Nat):∀ p ∈ bF.cs F,∀ args H v H',p.2 args H = some (v,H')→Go.AE.T Try.prog p.1 args H v H':=by
 intro p hp
 exact absurd (show p ∈ [] from hp) List.not_mem_nil
theorem bF.ok:codeOk bF.pn Try.f170.ntmps bF.tb bF.code = true:=by kernel_rfl
theorem bF.T {F:Nat} {aa:Sl} {H:Hp} {v:AV} {H':Hp} (h:bF.tw F aa H = some (v,H')):Go.AE.T Try.prog 170 [(.sl aa)] H v H':=
 Go.AE.T.of (Y:=tabs) (C:=mkOrc (bF.cs F)) (PN:=bF.pn) (LH:=bF.lh F) (F:=F) (TB:=bF.tb) (fn:=Try.f170) (code:=bF.code) mixed tabs_ok (mkOrc_ok (bF.cs_ok F)) Try.func170 (by kernel_rfl) (by kernel_rfl) bF.ok (Nat.le_of_ble_eq_true (by kernel_rfl)) (bF.loops F) (Eq.trans (bF.eqX F aa H) h)
theorem bF.mk_T {F:Nat} {args:List AV} {H:Hp} {v:AV} {H':Hp} (h:bF.mk (bF.tw F) args H = some (v,H')):Go.AE.T Try.prog 170 args H v H':=by
 unfold bF.mk at h
 split at h
 ·exact bF.T h
 ·cases h
noncomputable def bu.twX (F:Nat) (iM:Sl→Hp→OA) (bI:Int→Int→Int→Hp→OA) (aa:Sl) (ae:Int) (H:Hp):OA:=(iM aa H).bind fun r3=>((r3.1).asI .i64).bind fun n4=>(bI ae 0 (IntKind.i64.wrap (n4 - 1)) r3.2).bind fun r5=>((r5.1).asB).bind fun b6=>some ((.bool b6),r5.2)
noncomputable def bu.tw (F:Nat) (aa:Sl) (ae:Int) (H:Hp):OA:=bu.twX F (bF.tw F) (bc.tw F) aa ae H
noncomputable def bu.code:Go.Code:=(Try.f157.body).getD .skip
noncomputable def bu.lh (F:Nat) (iM:Sl→Hp→OA) (bI:Int→Int→Int→Hp→OA) (p:Nat) (ks:List Nat) (n:Nat) (tm:Tm) (H:Hp):OA:=none
def bu.pn:Nat→List Nat:=fun i=>(([]:List (Nat×List Nat)).lookup i).getD []
def bu.tb:Nat→List (List Nat):=fun i=>(([]:List (Nat×List (List Nat))).lookup i).getD []
noncomputable def bu.mk (g:Sl→Int→Hp→OA) (args:List AV) (H:Hp):OA:=match args with
 | [(.sl aa),(.int .i64 ae)]=>g aa ae H
 | _=>none
noncomputable def bu.cs (F:Nat) (iM:Sl→Hp→OA) (bI:Int→Int→Int→Hp→OA):List (FuncId×(List AV→Hp→OA)):=[(170,bF.mk iM),(81,bc.mk bI)]
theorem bu.loops (F:Nat) (iM:Sl→Hp→OA) (bI:Int→Int→Int→Hp→OA):LoopsOk tabs (mkOrc (bu.cs F iM bI)) bu.pn (bu.lh F iM bI) F [] 1 bu.code (fun tm H=>aresults tabs.ty H tm Try.f157.results.toList fun v=>some (v,H)) (fun _ _ _=>none) (fun tm H=>aresults tabs.ty H tm Try.f157.results.toList fun v=>some (v,H)):=by
 exact loops_none (by kernel_rfl)
theorem bu.eqX (F:Nat) (iM:Sl→Hp→OA) (bI:Int→Int→Int→Hp→OA) (aa:Sl) (ae:Int) (H:Hp):aCode tabs (mkOrc (bu.cs F iM bI)) bu.pn (bu.lh F iM bI) F [] 1 bu.code (argTm [(.sl aa),(.int .i64 ae)]) H (fun tm H=>aresults tabs.ty H tm Try.f157.results.toList fun v=>some (v,H)) (fun _ _ _=>none) (fun tm H=>aresults tabs.ty H tm Try.f157.results.toList fun v=>some (v,H)) = bu.twX F iM bI aa ae H:=by kernel_rfl
theorem bu.cs_ok (F:Nat):∀ p ∈ bu.cs F (bF.tw F) (bc.tw F),∀ args H v H',p.2 args H = some (v,H')→Go.AE.T Try.prog p.1 args H v H':=by
 intro p hp
 simp only [bu.cs,List.mem_cons,List.not_mem_nil,or_false] at hp
 rcases hp with rfl | rfl
 ·exact fun args H v H' h=>bF.mk_T h
 ·exact fun args H v H' h=>bc.mk_T h
theorem bu.ok:codeOk bu.pn Try.f157.ntmps bu.tb bu.code = true:=by kernel_rfl
theorem bu.T {F:Nat} {aa:Sl} {ae:Int} {H:Hp} {v:AV} {H':Hp} (h:bu.tw F aa ae H = some (v,H')):Go.AE.T Try.prog 157 [(.sl aa),(.int .i64 ae)] H v H':=
 Go.AE.T.of (Y:=tabs) (C:=mkOrc (bu.cs F (bF.tw F) (bc.tw F))) (PN:=bu.pn) (LH:=bu.lh F (bF.tw F) (bc.tw F)) (F:=F) (TB:=bu.tb) (fn:=Try.f157) (code:=bu.code) mixed tabs_ok (mkOrc_ok (bu.cs_ok F)) Try.func157 (by kernel_rfl) (by kernel_rfl) bu.ok (Nat.le_of_ble_eq_true (by kernel_rfl)) (bu.loops F (bF.tw F) (bc.tw F)) (Eq.trans (bu.eqX F (bF.tw F) (bc.tw F) aa ae H) h)
theorem bu.mk_T {F:Nat} {args:List AV} {H:Hp} {v:AV} {H':Hp} (h:bu.mk (bu.tw F) args H = some (v,H')):Go.AE.T Try.prog 157 args H v H':=by
 unfold bu.mk at h
 split at h
 ·exact bu.T h
 ·cases h
noncomputable def ay.l3931 (F:Nat) (cr:Sl→Int→Hp→OA) (bG:Int→Int→Int→Int→Int→Hp→OA) (bS:Int→Int→Int→Int→Int→Int→Hp→OA) (ct:Sl→Int→Hp→OA) (C61_:Nat→Nat→Nat→Nat→Sl→Int→Int→Hp→OA):Nat→Nat→Nat→Nat→Nat→Sl→Int→Int→Nat→Nat→Int→Int→Int→Int→Int→Int→Hp→OA
 | 0,_,_,_,_,_,_,_,_,_,_,_,_,_,_,_,_=>none
 | zC + 1,ck,cB,cJ,cU,gv,dM,ej,dx,eO,cV,cW,cX,cY,cZ,cp,H233=>(bif (decide (cp < 4)) then ((if 0 ≤ cp∧cp < (4:Int) then (([(.int .i64 cW),(.int .i64 cX),(.int .i64 cY),(.int .i64 cZ)]:List AV)[(cp:Int).toNat * 1]?).bind fun v283=>((v283).asI .i64).bind fun n284=>(Hp.ldSl H233 cJ cU).bind fun s285=>(Hp.ldI H233 .i64 dx eO).bind fun n286=>(Hp.ldI H233 .i64 dx (eO + 1)).bind fun n287=>(Hp.ldI H233 .i64 dx (eO + 2)).bind fun n288=>(Hp.ldI H233 .i64 dx (eO + 3)).bind fun n289=>(Hp.ldI H233 .i64 dx (eO + 4)).bind fun n290=>(bS n286 n287 n288 n289 n290 cp H233).bind fun r291=>((r291.1).asB).bind fun b292=>(bif b292 then ((Hp.ldSl r291.2 cJ (cU + 1)).bind fun s293=>(ct s293 n284 r291.2).bind fun r294=>((r294.1).asB).bind fun b295=>(bif (!b295) then ((Hp.ldSl r294.2 cJ cU).bind fun s296=>(Hp.ldSl r294.2 cJ (cU + 1)).bind fun s297=>(Hp.st r294.2 ck cB (.sl s296)).bind fun H298=>(Hp.st H298 ck (cB + 1) (.sl s297)).bind fun H299=>(Hp.ldSl H299 ck cB).bind fun s300=>(Hp.ldSl H299 ck (cB + 1)).bind fun s301=>some ((.tup [(.agg [(.sl s300),(.sl s301)]),(.bool false)]),H299)) else ((Sl.idx s293 n284 2).bind fun p302=>(Hp.ldI r294.2 .i64 p302.1 p302.2).bind fun n303=>(bif (decide (n303 ≥ 0)) then ((Hp.ldSl r294.2 cJ cU).bind fun s304=>(Hp.ldSl r294.2 cJ (cU + 1)).bind fun s305=>(Hp.st r294.2 ck cB (.sl s304)).bind fun H306=>(Hp.st H306 ck (cB + 1) (.sl s305)).bind fun H307=>(Hp.ldSl H307 ck cB).bind fun s308=>(Hp.ldSl H307 ck (cB + 1)).bind fun s309=>some ((.tup [(.agg [(.sl s308),(.sl s309)]),(.bool false)]),H307)) else ((Sl.idx s293 n284 2).bind fun p310=>(Hp.st r294.2 p310.1 p310.2 (.int .i64 cV)).bind fun H311=>(Hp.st H311 p310.1 (p310.2 + 1) (.int .i64 cp)).bind fun H312=>ay.l3931 F cr bG bS ct C61_ zC ck cB cJ cU gv dM ej dx eO cV cW cX cY cZ (IntKind.i64.wrap (cp + 1)) H312))))) else ((ct s285 n284 r291.2).bind fun r313=>((r313.1).asB).bind fun b314=>(bif (!b314) then ((Hp.ldSl r313.2 cJ cU).bind fun s315=>(Hp.ldSl r313.2 cJ (cU + 1)).bind fun s316=>(Hp.st r313.2 ck cB (.sl s315)).bind fun H317=>(Hp.st H317 ck (cB + 1) (.sl s316)).bind fun H318=>(Hp.ldSl H318 ck cB).bind fun s319=>(Hp.ldSl H318 ck (cB + 1)).bind fun s320=>some ((.tup [(.agg [(.sl s319),(.sl s320)]),(.bool false)]),H318)) else ((Sl.idx s285 n284 2).bind fun p321=>(Hp.ldI r313.2 .i64 p321.1 p321.2).bind fun n322=>(bif (decide (n322 ≥ 0)) then ((Hp.ldSl r313.2 cJ cU).bind fun s323=>(Hp.ldSl r313.2 cJ (cU + 1)).bind fun s324=>(Hp.st r313.2 ck cB (.sl s323)).bind fun H325=>(Hp.st H325 ck (cB + 1) (.sl s324)).bind fun H326=>(Hp.ldSl H326 ck cB).bind fun s327=>(Hp.ldSl H326 ck (cB + 1)).bind fun s328=>some ((.tup [(.agg [(.sl s327),(.sl s328)]),(.bool false)]),H326)) else ((Sl.idx s285 n284 2).bind fun p329=>(Hp.st r313.2 p329.1 p329.2 (.int .i64 cV)).bind fun H330=>(Hp.st H330 p329.1 (p329.2 + 1) (.int .i64 cp)).bind fun H331=>ay.l3931 F cr bG bS ct C61_ zC ck cB cJ cU gv dM ej dx eO cV cW cX cY cZ (IntKind.i64.wrap (cp + 1)) H331)))))) else none)) else (C61_ ck cB cJ cU gv dM (IntKind.i64.wrap (ej + 1)) H233))
termination_by structural n=>n
noncomputable def ay.l61 (F:Nat) (cr:Sl→Int→Hp→OA) (bG:Int→Int→Int→Int→Int→Hp→OA) (bS:Int→Int→Int→Int→Int→Int→Hp→OA) (ct:Sl→Int→Hp→OA) :Nat→Nat→Nat→Nat→Nat→Sl→Int→Int→Hp→OA
 | 0,_,_,_,_,_,_,_,_=>none
 | ba + 1,ek,fP,eX,gL,im,eY,el,H29=>(bif (decide (el < eY)) then ((Sl.idx im el 5).bind fun p184=>(Hp.ldI H29 .i64 p184.1 p184.2).bind fun n185=>(Hp.ldI H29 .i64 p184.1 (p184.2 + 1)).bind fun n186=>(Hp.ldI H29 .i64 p184.1 (p184.2 + 2)).bind fun n187=>(Hp.ldI H29 .i64 p184.1 (p184.2 + 3)).bind fun n188=>(Hp.ldI H29 .i64 p184.1 (p184.2 + 4)).bind fun n189=>(Hp.new H29 [.int .i64 0,.int .i64 0,.int .i64 0,.int .i64 0,.int .i64 0]).bind fun H190=>(Hp.st H190 H29.length 0 (.int .i64 n185)).bind fun H191=>(Hp.st H191 H29.length (0 + 1) (.int .i64 n186)).bind fun H192=>(Hp.st H192 H29.length (0 + 1 + 1) (.int .i64 n187)).bind fun H193=>(Hp.st H193 H29.length (0 + 1 + 1 + 1) (.int .i64 n188)).bind fun H194=>(Hp.st H194 H29.length (0 + 1 + 1 + 1 + 1) (.int .i64 n189)).bind fun H195=>(Hp.ldI H195 .i64 H29.length 0).bind fun n196=>(Hp.ldI H195 .i64 H29.length (0 + 1)).bind fun n197=>(Hp.ldI H195 .i64 H29.length (0 + 2)).bind fun n198=>(Hp.ldI H195 .i64 H29.length (0 + 3)).bind fun n199=>(Hp.ldI H195 .i64 H29.length (0 + 4)).bind fun n200=>(bG n196 n197 n198 n199 n200 H195).bind fun r201=>((r201.1).asAgg 4).bind fun l202=>(l202[0]?).bind fun v203=>((v203).asI .i64).bind fun n204=>(l202[1]?).bind fun v205=>((v205).asI .i64).bind fun n206=>(l202[2]?).bind fun v207=>((v207).asI .i64).bind fun n208=>(l202[3]?).bind fun v209=>((v209).asI .i64).bind fun n210=>ay.l3931 F cr bG bS ct (ay.l61 F cr bG bS ct ba) F ek fP eX gL im eY el H29.length 0 el n204 n206 n208 n210 0 r201.2) else ((Hp.ldSl H29 eX gL).bind fun s332=>(Hp.ldSl H29 eX (gL + 1)).bind fun s333=>(Hp.st H29 ek fP (.sl s332)).bind fun H334=>(Hp.st H334 ek (fP + 1) (.sl s333)).bind fun H335=>(Hp.ldSl H335 ek fP).bind fun s336=>(Hp.ldSl H335 ek (fP + 1)).bind fun s337=>some ((.tup [(.agg [(.sl s336),(.sl s337)]),(.bool true)]),H335)))
termination_by structural n=>n
noncomputable def ay.twX (F:Nat) (cr:Sl→Int→Hp→OA) (bG:Int→Int→Int→Int→Int→Hp→OA) (bS:Int→Int→Int→Int→Int→Int→Hp→OA) (ct:Sl→Int→Hp→OA) (aa:Sl) (ab:Int) (H:Hp):OA:=(Hp.new H [(.sl aa),(.int .i64 ab)]).bind fun H3=>(Hp.new H3 [.sl ⟨none,0,.ex 0⟩,.sl ⟨none,0,.ex 0⟩]).bind fun H4=>(Hp.ldSl H4 H.length 0).bind fun s5=>(Hp.new H4 [(.int .i64 (-1)),(.int .i64 0)]).bind fun H6=>(cr (⟨some (H4.length,0),1,.ex 1⟩:Sl) (IntKind.i64.wrap (2 * (s5.n:Int))) H6).bind fun r7=>((r7.1).asSl).bind fun s8=>(Hp.new r7.2 [(.int .i64 (-1)),(.int .i64 0)]).bind fun H9=>(cr (⟨some (r7.2.length,0),1,.ex 1⟩:Sl) (IntKind.i64.wrap (2 * (s5.n:Int))) H9).bind fun r10=>((r10.1).asSl).bind fun s11=>(Hp.new r10.2 [.sl ⟨none,0,.ex 0⟩,.sl ⟨none,0,.ex 0⟩]).bind fun H12=>(Hp.st H12 r10.2.length 0 (.sl s8)).bind fun H13=>(Hp.st H13 r10.2.length (0 + 1) (.sl s11)).bind fun H14=>(Hp.ldSl H14 H.length 0).bind fun s15=>ay.l61 F cr bG bS ct F H3.length 0 r10.2.length 0 s15 (s15.n:Int) 0 H14
noncomputable def ay.tw (F:Nat) (aa:Sl) (ab:Int) (H:Hp):OA:=ay.twX F (aG.tw F) (bd.tw F) (bl.tw F) (bu.tw F) aa ab H
noncomputable def ay.code:Go.Code:=(Try.f125.body).getD .skip
noncomputable def ay.lh61 (F:Nat) (cr:Sl→Int→Hp→OA) (bG:Int→Int→Int→Int→Int→Hp→OA) (bS:Int→Int→Int→Int→Int→Int→Hp→OA) (ct:Sl→Int→Hp→OA) (ks:List Nat) (n:Nat) (tm:Tm) (H:Hp):OA:=match ks,tm 2,tm 5,tm 25,tm 26,tm 27 with
 | [],(.ptr ek fP),(.ptr eX gL),(.sl im),(.int .i64 eY),(.int .i64 el)=>ay.l61 F cr bG bS ct n ek fP eX gL im eY el H
 | _,_,_,_,_,_=>none
theorem ay.lh61_inv {F:Nat} {cr:Sl→Int→Hp→OA} {bG:Int→Int→Int→Int→Int→Hp→OA} {bS:Int→Int→Int→Int→Int→Int→Hp→OA} {ct:Sl→Int→Hp→OA} {ks:List Nat} {n:Nat} {tm:Tm} {H:Hp} {r:AV×Hp} (h:ay.lh61 F cr bG bS ct ks n tm H = some r):∃ ek:Nat,∃ fP:Nat,∃ eX:Nat,∃ gL:Nat,∃ im:Sl,∃ eY:Int,∃ el:Int,ks = []∧tm 2 = (.ptr ek fP)∧tm 5 = (.ptr eX gL)∧tm 25 = (.sl im)∧tm 26 = (.int .i64 eY)∧tm 27 = (.int .i64 el)∧ay.l61 F cr bG bS ct n ek fP eX gL im eY el H = some r:=by
 unfold ay.lh61 at h
 split at h
 ·exact ⟨_,_,_,_,_,_,_,rfl,by assumption,by assumption,by assumption,by assumption,by assumption,h⟩
 ·cases h
noncomputable def ay.lh3931 (F:Nat) (cr:Sl→Int→Hp→OA) (bG:Int→Int→Int→Int→Int→Hp→OA) (bS:Int→Int→Int→Int→Int→Int→Hp→OA) (ct:Sl→Int→Hp→OA) (ks:List Nat) (n:Nat) (tm:Tm) (H:Hp):OA:=match ks,tm 2,tm 5,tm 6,tm 7,tm 25,tm 26,tm 27,tm 33,tm 34 with
 | [ba],(.ptr ck cB),(.ptr cJ cU),(.int .i64 cV),(.ptr dx eO),(.sl gv),(.int .i64 dM),(.int .i64 ej),(.agg [(.int .i64 cW),(.int .i64 cX),(.int .i64 cY),(.int .i64 cZ)]),(.int .i64 cp)=>ay.l3931 F cr bG bS ct (ay.l61 F cr bG bS ct ba) n ck cB cJ cU gv dM ej dx eO cV cW cX cY cZ cp H
 | _,_,_,_,_,_,_,_,_,_=>none
theorem ay.lh3931_inv {F:Nat} {cr:Sl→Int→Hp→OA} {bG:Int→Int→Int→Int→Int→Hp→OA} {bS:Int→Int→Int→Int→Int→Int→Hp→OA} {ct:Sl→Int→Hp→OA} {ks:List Nat} {n:Nat} {tm:Tm} {H:Hp} {r:AV×Hp} (h:ay.lh3931 F cr bG bS ct ks n tm H = some r):∃ ba:Nat,∃ ck:Nat,∃ cB:Nat,∃ cJ:Nat,∃ cU:Nat,∃ cV:Int,∃ dx:Nat,∃ eO:Nat,∃ gv:Sl,∃ dM:Int,∃ ej:Int,∃ cW:Int,∃ cX:Int,∃ cY:Int,∃ cZ:Int,∃ cp:Int,ks = [ba]∧tm 2 = (.ptr ck cB)∧tm 5 = (.ptr cJ cU)∧tm 6 = (.int .i64 cV)∧tm 7 = (.ptr dx eO)∧tm 25 = (.sl gv)∧tm 26 = (.int .i64 dM)∧tm 27 = (.int .i64 ej)∧tm 33 = (.agg [(.int .i64 cW),(.int .i64 cX),(.int .i64 cY),(.int .i64 cZ)])∧tm 34 = (.int .i64 cp)∧ay.l3931 F cr bG bS ct (ay.l61 F cr bG bS ct ba) n ck cB cJ cU gv dM ej dx eO cV cW cX cY cZ cp H = some r:=by
 unfold ay.lh3931 at h
 split at h
 ·exact ⟨_,_,_,_,_,_,_,_,_,_,_,_,_,_,_,_,rfl,by assumption,by assumption,by assumption,by assumption,by assumption,by assumption,by assumption,by assumption,by assumption,h⟩
 ·cases h
noncomputable def ay.lh (F:Nat) (cr:Sl→Int→Hp→OA) (bG:Int→Int→Int→Int→Int→Hp→OA) (bS:Int→Int→Int→Int→Int→Int→Hp→OA) (ct:Sl→Int→Hp→OA) (p:Nat) (ks:List Nat) (n:Nat) (tm:Tm) (H:Hp):OA:=bif p.beq 3931 then ay.lh3931 F cr bG bS ct ks n tm H else (bif p.beq 61 then ay.lh61 F cr bG bS ct ks n tm H else (none))
def ay.pn:Nat→List Nat:=fun i=>(([]:List (Nat×List Nat)).lookup i).getD []
def ay.tb:Nat→List (List Nat):=fun i=>(([]:List (Nat×List (List Nat))).lookup i).getD []
noncomputable def ay.mk (g:Sl→Int→Hp→OA) (args:List AV) (H:Hp):OA:=match args with
 | [(.agg [(.sl aa),(.int .i64 ab)])]=>g aa ab H
 | _=>none
noncomputable def ay.cs (F:Nat) (cr:Sl→Int→Hp→OA) (bG:Int→Int→Int→Int→Int→Hp→OA) (bS:Int→Int→Int→Int→Int→Int→Hp→OA) (ct:Sl→Int→Hp→OA):List (FuncId×(List AV→Hp→OA)):=[(154,aG.mk cr),(155,bd.mk bG),(156,bl.mk bS),(157,bu.mk ct)]
theorem ay.loops (F:Nat) (cr:Sl→Int→Hp→OA) (bG:Int→Int→Int→Int→Int→Hp→OA) (bS:Int→Int→Int→Int→Int→Int→Hp→OA) (ct:Sl→Int→Hp→OA):LoopsOk tabs (mkOrc (ay.cs F cr bG bS ct)) ay.pn (ay.lh F cr bG bS ct) F [] 1 ay.code (fun tm H=>aresults tabs.ty H tm Try.f125.results.toList fun v=>some (v,H)) (fun _ _ _=>none) (fun tm H=>aresults tabs.ty H tm Try.f125.results.toList fun v=>some (v,H)):=by
 refine LoopsOk.seq ?_ ?_
 ·exact loops_none (by kernel_rfl)
 ·refine LoopsOk.seq ?_ ?_
  ·exact loops_none (by kernel_rfl)
  ·refine LoopsOk.seq ?_ ?_
   ·exact loops_none (by kernel_rfl)
   ·refine LoopsOk.seq ?_ ?_
    ·refine LoopsOk.seq ?_ ?_
     ·exact loops_none (by kernel_rfl)
     ·refine LoopsOk.block ?_
      refine LoopsOk.loop (fun tm H=>?_) (fun k61 tm H r h0=>?_) (fun k61=>?_)
      ·refine none_of fun r h0=>?_
       obtain ⟨ek,fP,eX,gL,im,eY,el,hks,e2,e5,e25,e26,e27,h⟩:=ay.lh61_inv (show ay.lh61 F cr bG bS ct [] 0 tm H = some r from h0)
       cases h
      ·obtain ⟨ek,fP,eX,gL,im,eY,el,hks,e2,e5,e25,e26,e27,h⟩:=ay.lh61_inv (show ay.lh61 F cr bG bS ct [] (k61 + 1) tm H = some r from h0)
       have q0:(Tm.put tm 2 (.ptr ek fP)) = tm:=by exact Tm.put_same e2
       have q1:(Tm.put (Tm.put tm 2 (.ptr ek fP)) 5 (.ptr eX gL)) = tm:=by rw [q0]; exact Tm.put_same e5
       have q2:(Tm.put (Tm.put (Tm.put tm 2 (.ptr ek fP)) 5 (.ptr eX gL)) 25 (.sl im)) = tm:=by rw [q1]; exact Tm.put_same e25
       have q3:(Tm.put (Tm.put (Tm.put (Tm.put tm 2 (.ptr ek fP)) 5 (.ptr eX gL)) 25 (.sl im)) 26 (.int .i64 eY)) = tm:=by rw [q2]; exact Tm.put_same e26
       have q4:(Tm.put (Tm.put (Tm.put (Tm.put (Tm.put tm 2 (.ptr ek fP)) 5 (.ptr eX gL)) 25 (.sl im)) 26 (.int .i64 eY)) 27 (.int .i64 el)) = tm:=by rw [q3]; exact Tm.put_same e27
       rw [← q4]
       exact Eq.trans (by kernel_rfl) h
      ·refine LoopsOk.seq ?_ ?_
       ·exact loops_none (by kernel_rfl)
       ·refine LoopsOk.seq ?_ ?_
        ·exact loops_none (by kernel_rfl)
        ·refine LoopsOk.seq ?_ ?_
         ·refine LoopsOk.block ?_
          refine LoopsOk.seq ?_ ?_
          ·exact loops_none (by kernel_rfl)
          ·refine LoopsOk.seq ?_ ?_
           ·exact loops_none (by kernel_rfl)
           ·refine LoopsOk.block ?_
            refine LoopsOk.loop (fun tm H=>?_) (fun k3931 tm H r h0=>?_) (fun k3931=>?_)
            ·refine none_of fun r h0=>?_
             obtain ⟨ba,ck,cB,cJ,cU,cV,dx,eO,gv,dM,ej,cW,cX,cY,cZ,cp,hks,e2,e5,e6,e7,e25,e26,e27,e33,e34,h⟩:=ay.lh3931_inv (show ay.lh3931 F cr bG bS ct [k61] 0 tm H = some r from h0)
             cases h
            ·obtain ⟨ba,ck,cB,cJ,cU,cV,dx,eO,gv,dM,ej,cW,cX,cY,cZ,cp,hks,e2,e5,e6,e7,e25,e26,e27,e33,e34,h⟩:=ay.lh3931_inv (show ay.lh3931 F cr bG bS ct [k61] (k3931 + 1) tm H = some r from h0)
             obtain rfl:ba = k61:=by simpa [eq_comm] using hks
             have q0:(Tm.put tm 2 (.ptr ck cB)) = tm:=by exact Tm.put_same e2
             have q1:(Tm.put (Tm.put tm 2 (.ptr ck cB)) 5 (.ptr cJ cU)) = tm:=by rw [q0]; exact Tm.put_same e5
             have q2:(Tm.put (Tm.put (Tm.put tm 2 (.ptr ck cB)) 5 (.ptr cJ cU)) 6 (.int .i64 cV)) = tm:=by rw [q1]; exact Tm.put_same e6
             have q3:(Tm.put (Tm.put (Tm.put (Tm.put tm 2 (.ptr ck cB)) 5 (.ptr cJ cU)) 6 (.int .i64 cV)) 7 (.ptr dx eO)) = tm:=by rw [q2]; exact Tm.put_same e7
             have q4:(Tm.put (Tm.put (Tm.put (Tm.put (Tm.put tm 2 (.ptr ck cB)) 5 (.ptr cJ cU)) 6 (.int .i64 cV)) 7 (.ptr dx eO)) 25 (.sl gv)) = tm:=by rw [q3]; exact Tm.put_same e25
             have q5:(Tm.put (Tm.put (Tm.put (Tm.put (Tm.put (Tm.put tm 2 (.ptr ck cB)) 5 (.ptr cJ cU)) 6 (.int .i64 cV)) 7 (.ptr dx eO)) 25 (.sl gv)) 26 (.int .i64 dM)) = tm:=by rw [q4]; exact Tm.put_same e26
             have q6:(Tm.put (Tm.put (Tm.put (Tm.put (Tm.put (Tm.put (Tm.put tm 2 (.ptr ck cB)) 5 (.ptr cJ cU)) 6 (.int .i64 cV)) 7 (.ptr dx eO)) 25 (.sl gv)) 26 (.int .i64 dM)) 27 (.int .i64 ej)) = tm:=by rw [q5]; exact Tm.put_same e27
             have q7:(Tm.put (Tm.put (Tm.put (Tm.put (Tm.put (Tm.put (Tm.put (Tm.put tm 2 (.ptr ck cB)) 5 (.ptr cJ cU)) 6 (.int .i64 cV)) 7 (.ptr dx eO)) 25 (.sl gv)) 26 (.int .i64 dM)) 27 (.int .i64 ej)) 33 (.agg [(.int .i64 cW),(.int .i64 cX),(.int .i64 cY),(.int .i64 cZ)])) = tm:=by rw [q6]; exact Tm.put_same e33
             have q8:(Tm.put (Tm.put (Tm.put (Tm.put (Tm.put (Tm.put (Tm.put (Tm.put (Tm.put tm 2 (.ptr ck cB)) 5 (.ptr cJ cU)) 6 (.int .i64 cV)) 7 (.ptr dx eO)) 25 (.sl gv)) 26 (.int .i64 dM)) 27 (.int .i64 ej)) 33 (.agg [(.int .i64 cW),(.int .i64 cX),(.int .i64 cY),(.int .i64 cZ)])) 34 (.int .i64 cp)) = tm:=by rw [q7]; exact Tm.put_same e34
             rw [← q8]
             exact Eq.trans (by kernel_rfl) h
            ·exact loops_none (by kernel_rfl)
         ·exact loops_none (by kernel_rfl)
    ·exact loops_none (by kernel_rfl)
theorem ay.eqX (F:Nat) (cr:Sl→Int→Hp→OA) (bG:Int→Int→Int→Int→Int→Hp→OA) (bS:Int→Int→Int→Int→Int→Int→Hp→OA) (ct:Sl→Int→Hp→OA) (aa:Sl) (ab:Int) (H:Hp):aCode tabs (mkOrc (ay.cs F cr bG bS ct)) ay.pn (ay.lh F cr bG bS ct) F [] 1 ay.code (argTm [(.agg [(.sl aa),(.int .i64 ab)])]) H (fun tm H=>aresults tabs.ty H tm Try.f125.results.toList fun v=>some (v,H)) (fun _ _ _=>none) (fun tm H=>aresults tabs.ty H tm Try.f125.results.toList fun v=>some (v,H)) = ay.twX F cr bG bS ct aa ab H:=by kernel_rfl
theorem ay.cs_ok (F:Nat):∀ p ∈ ay.cs F (aG.tw F) (bd.tw F) (bl.tw F) (bu.tw F),∀ args H v H',p.2 args H = some (v,H')→Go.AE.T Try.prog p.1 args H v H':=by
 intro p hp
 simp only [ay.cs,List.mem_cons,List.not_mem_nil,or_false] at hp
 rcases hp with rfl | rfl | rfl | rfl
 ·exact fun args H v H' h=>aG.mk_T h
 ·exact fun args H v H' h=>bd.mk_T h
 ·exact fun args H v H' h=>bl.mk_T h
 ·exact fun args H v H' h=>bu.mk_T h
theorem ay.ok:codeOk ay.pn Try.f125.ntmps ay.tb ay.code = true:=by kernel_rfl
theorem ay.T {F:Nat} {aa:Sl} {ab:Int} {H:Hp} {v:AV} {H':Hp} (h:ay.tw F aa ab H = some (v,H')):Go.AE.T Try.prog 125 [(.agg [(.sl aa),(.int .i64 ab)])] H v H':=
 Go.AE.T.of (Y:=tabs) (C:=mkOrc (ay.cs F (aG.tw F) (bd.tw F) (bl.tw F) (bu.tw F))) (PN:=ay.pn) (LH:=ay.lh F (aG.tw F) (bd.tw F) (bl.tw F) (bu.tw F)) (F:=F) (TB:=ay.tb) (fn:=Try.f125) (code:=ay.code) mixed tabs_ok (mkOrc_ok (ay.cs_ok F)) Try.func125 (by kernel_rfl) (by kernel_rfl) ay.ok (Nat.le_of_ble_eq_true (by kernel_rfl)) (ay.loops F (aG.tw F) (bd.tw F) (bl.tw F) (bu.tw F)) (Eq.trans (ay.eqX F (aG.tw F) (bd.tw F) (bl.tw F) (bu.tw F) aa ab H) h)
theorem ay.mk_T {F:Nat} {args:List AV} {H:Hp} {v:AV} {H':Hp} (h:ay.mk (ay.tw F) args H = some (v,H')):Go.AE.T Try.prog 125 args H v H':=by
 unfold ay.mk at h
 split at h
 ·exact ay.T h
 ·cases h
noncomputable def bq.twX (F:Nat) (bG:Int→Int→Int→Int→Int→Hp→OA) (bS:Int→Int→Int→Int→Int→Int→Hp→OA) (aa:Sl) (ab:Int) (af:Sl) (bf:Sl) (cC:Int) (eo:Int) (H:Hp):OA:=(Hp.new H [(.sl aa),(.int .i64 ab)]).bind fun H7=>(Hp.new H7 [(.sl af),(.sl bf)]).bind fun H8=>(Hp.new H8 [(.int .i64 cC),(.int .i64 eo)]).bind fun H9=>(Hp.new H9 [.int .i64 0,.int .i64 0]).bind fun H10=>(Hp.ldSl H10 H.length 0).bind fun s11=>(Hp.ldI H10 .i64 H8.length 0).bind fun n12=>(Sl.idx s11 n12 5).bind fun p13=>(Hp.ldI H10 .i64 p13.1 p13.2).bind fun n14=>(Hp.ldI H10 .i64 p13.1 (p13.2 + 1)).bind fun n15=>(Hp.ldI H10 .i64 p13.1 (p13.2 + 2)).bind fun n16=>(Hp.ldI H10 .i64 p13.1 (p13.2 + 3)).bind fun n17=>(Hp.ldI H10 .i64 p13.1 (p13.2 + 4)).bind fun n18=>(Hp.new H10 [.int .i64 0,.int .i64 0,.int .i64 0,.int .i64 0,.int .i64 0]).bind fun H19=>(Hp.st H19 H10.length 0 (.int .i64 n14)).bind fun H20=>(Hp.st H20 H10.length (0 + 1) (.int .i64 n15)).bind fun H21=>(Hp.st H21 H10.length (0 + 1 + 1) (.int .i64 n16)).bind fun H22=>(Hp.st H22 H10.length (0 + 1 + 1 + 1) (.int .i64 n17)).bind fun H23=>(Hp.st H23 H10.length (0 + 1 + 1 + 1 + 1) (.int .i64 n18)).bind fun H24=>(Hp.ldI H24 .i64 H10.length 0).bind fun n25=>(Hp.ldI H24 .i64 H10.length (0 + 1)).bind fun n26=>(Hp.ldI H24 .i64 H10.length (0 + 2)).bind fun n27=>(Hp.ldI H24 .i64 H10.length (0 + 3)).bind fun n28=>(Hp.ldI H24 .i64 H10.length (0 + 4)).bind fun n29=>(bG n25 n26 n27 n28 n29 H24).bind fun r30=>((r30.1).asAgg 4).bind fun l31=>(l31[0]?).bind fun v32=>((v32).asI .i64).bind fun n33=>(l31[1]?).bind fun v34=>((v34).asI .i64).bind fun n35=>(l31[2]?).bind fun v36=>((v36).asI .i64).bind fun n37=>(l31[3]?).bind fun v38=>((v38).asI .i64).bind fun n39=>(if Cons H24 r30.2 then ((Hp.ldI r30.2 .i64 H8.length 1).bind fun n40=>(if 0 ≤ n40∧n40 < (4:Int) then (([(.int .i64 n33),(.int .i64 n35),(.int .i64 n37),(.int .i64 n39)]:List AV)[(n40:Int).toNat * 1]?).bind fun v41=>((v41).asI .i64).bind fun n42=>(Hp.ldI r30.2 .i64 H10.length 0).bind fun n43=>(Hp.ldI r30.2 .i64 H10.length (0 + 1)).bind fun n44=>(Hp.ldI r30.2 .i64 H10.length (0 + 2)).bind fun n45=>(Hp.ldI r30.2 .i64 H10.length (0 + 3)).bind fun n46=>(Hp.ldI r30.2 .i64 H10.length (0 + 4)).bind fun n47=>(Hp.ldI r30.2 .i64 H8.length 1).bind fun n48=>(bS n43 n44 n45 n46 n47 n48 r30.2).bind fun r49=>((r49.1).asB).bind fun b50=>(bif b50 then ((Hp.ldSl r49.2 H7.length 0).bind fun s51=>(Sl.idx s51 n42 2).bind fun p52=>(Hp.ldI r49.2 .i64 p52.1 p52.2).bind fun n53=>(Hp.ldI r49.2 .i64 p52.1 (p52.2 + 1)).bind fun n54=>(Hp.st r49.2 H9.length 0 (.int .i64 n53)).bind fun H55=>(Hp.st H55 H9.length (0 + 1) (.int .i64 n54)).bind fun H56=>(Hp.ldI H56 .i64 H9.length 0).bind fun n57=>(Hp.ldI H56 .i64 H9.length (0 + 1)).bind fun n58=>some ((.agg [(.int .i64 n57),(.int .i64 n58)]),H56)) else ((Hp.ldSl r49.2 H7.length 1).bind fun s59=>(Sl.idx s59 n42 2).bind fun p60=>(Hp.ldI r49.2 .i64 p60.1 p60.2).bind fun n61=>(Hp.ldI r49.2 .i64 p60.1 (p60.2 + 1)).bind fun n62=>(Hp.st r49.2 H9.length 0 (.int .i64 n61)).bind fun H63=>(Hp.st H63 H9.length (0 + 1) (.int .i64 n62)).bind fun H64=>(Hp.ldI H64 .i64 H9.length 0).bind fun n65=>(Hp.ldI H64 .i64 H9.length (0 + 1)).bind fun n66=>some ((.agg [(.int .i64 n65),(.int .i64 n66)]),H64))) else none)) else none)
noncomputable def bq.tw (F:Nat) (aa:Sl) (ab:Int) (af:Sl) (bf:Sl) (cC:Int) (eo:Int) (H:Hp):OA:=bq.twX F (bd.tw F) (bl.tw F) aa ab af bf cC eo H
noncomputable def bq.code:Go.Code:=(Try.f139.body).getD .skip
noncomputable def bq.lh (F:Nat) (bG:Int→Int→Int→Int→Int→Hp→OA) (bS:Int→Int→Int→Int→Int→Int→Hp→OA) (p:Nat) (ks:List Nat) (n:Nat) (tm:Tm) (H:Hp):OA:=none
def bq.pn:Nat→List Nat:=fun i=>(([(2,[])]:List (Nat×List Nat)).lookup i).getD []
def bq.tb:Nat→List (List Nat):=fun i=>(([(2,[[],[0],[],[2],[0,1,2,3],[0,1,2,3,4]])]:List (Nat×List (List Nat))).lookup i).getD []
noncomputable def bq.mk (g:Sl→Int→Sl→Sl→Int→Int→Hp→OA) (args:List AV) (H:Hp):OA:=match args with
 | [(.agg [(.sl aa),(.int .i64 ab)]),(.agg [(.sl af),(.sl bf)]),(.agg [(.int .i64 cC),(.int .i64 eo)])]=>g aa ab af bf cC eo H
 | _=>none
noncomputable def bq.cs (F:Nat) (bG:Int→Int→Int→Int→Int→Hp→OA) (bS:Int→Int→Int→Int→Int→Int→Hp→OA):List (FuncId×(List AV→Hp→OA)):=[(155,bd.mk bG),(156,bl.mk bS)]
theorem bq.loops (F:Nat) (bG:Int→Int→Int→Int→Int→Hp→OA) (bS:Int→Int→Int→Int→Int→Int→Hp→OA):LoopsOk tabs (mkOrc (bq.cs F bG bS)) bq.pn (bq.lh F bG bS) F [] 1 bq.code (fun tm H=>aresults tabs.ty H tm Try.f139.results.toList fun v=>some (v,H)) (fun _ _ _=>none) (fun tm H=>aresults tabs.ty H tm Try.f139.results.toList fun v=>some (v,H)):=by
 exact loops_none (by kernel_rfl)
theorem bq.eqX (F:Nat) (bG:Int→Int→Int→Int→Int→Hp→OA) (bS:Int→Int→Int→Int→Int→Int→Hp→OA) (aa:Sl) (ab:Int) (af:Sl) (bf:Sl) (cC:Int) (eo:Int) (H:Hp):aCode tabs (mkOrc (bq.cs F bG bS)) bq.pn (bq.lh F bG bS) F [] 1 bq.code (argTm [(.agg [(.sl aa),(.int .i64 ab)]),(.agg [(.sl af),(.sl bf)]),(.agg [(.int .i64 cC),(.int .i64 eo)])]) H (fun tm H=>aresults tabs.ty H tm Try.f139.results.toList fun v=>some (v,H)) (fun _ _ _=>none) (fun tm H=>aresults tabs.ty H tm Try.f139.results.toList fun v=>some (v,H)) = bq.twX F bG bS aa ab af bf cC eo H:=by kernel_rfl
theorem bq.cs_ok (F:Nat):∀ p ∈ bq.cs F (bd.tw F) (bl.tw F),∀ args H v H',p.2 args H = some (v,H')→Go.AE.T Try.prog p.1 args H v H':=by
 intro p hp
 simp only [bq.cs,List.mem_cons,List.not_mem_nil,or_false] at hp
 rcases hp with rfl | rfl
 ·exact fun args H v H' h=>bd.mk_T h
 ·exact fun args H v H' h=>bl.mk_T h
theorem bq.ok:codeOk bq.pn Try.f139.ntmps bq.tb bq.code = true:=by kernel_rfl
theorem bq.T {F:Nat} {aa:Sl} {ab:Int} {af:Sl} {bf:Sl} {cC:Int} {eo:Int} {H:Hp} {v:AV} {H':Hp} (h:bq.tw F aa ab af bf cC eo H = some (v,H')):Go.AE.T Try.prog 139 [(.agg [(.sl aa),(.int .i64 ab)]),(.agg [(.sl af),(.sl bf)]),(.agg [(.int .i64 cC),(.int .i64 eo)])] H v H':=
 Go.AE.T.of (Y:=tabs) (C:=mkOrc (bq.cs F (bd.tw F) (bl.tw F))) (PN:=bq.pn) (LH:=bq.lh F (bd.tw F) (bl.tw F)) (F:=F) (TB:=bq.tb) (fn:=Try.f139) (code:=bq.code) mixed tabs_ok (mkOrc_ok (bq.cs_ok F)) Try.func139 (by kernel_rfl) (by kernel_rfl) bq.ok (Nat.le_of_ble_eq_true (by kernel_rfl)) (bq.loops F (bd.tw F) (bl.tw F)) (Eq.trans (bq.eqX F (bd.tw F) (bl.tw F) aa ab af bf cC eo H) h)
theorem bq.mk_T {F:Nat} {args:List AV} {H:Hp} {v:AV} {H':Hp} (h:bq.mk (bq.tw F) args H = some (v,H')):Go.AE.T Try.prog 139 args H v H':=by
 unfold bq.mk at h
 split at h
 ·exact bq.T h
 ·cases h
noncomputable def ap.j4 (F:Nat) (cf:Sl→Int→Sl→Sl→Int→Int→Hp→OA) (C61_:Nat→Nat→Nat→Nat→Sl→Sl→Int→Int→Hp→OA) (rO:Nat) (GJ:Nat) (rP:Nat) (GK:Nat) (GL:Sl) (GM:Sl) (mT:Int) (mU:Int) (H248:Hp):OA:=C61_ rO GJ rP GK GL GM mT (IntKind.i64.wrap (mU + 1)) H248
noncomputable def ap.j5 (F:Nat) (cf:Sl→Int→Sl→Sl→Int→Int→Hp→OA) (C61_:Nat→Nat→Nat→Nat→Sl→Sl→Int→Int→Hp→OA) (rQ:Nat) (GN:Nat) (mq:Nat) (GO:Nat) (kS:Sl) (GP:Sl) (mV:Int) (mW:Int) (H228:Hp):OA:=ap.j4 F cf C61_ rQ GN mq GO kS GP mV mW H228
noncomputable def ap.j6 (F:Nat) (cf:Sl→Int→Sl→Sl→Int→Int→Hp→OA) (C61_:Nat→Nat→Nat→Nat→Sl→Sl→Int→Int→Hp→OA) (nC:Nat) (zD:Nat) (nD:Nat) (zE:Nat) (zF:Sl) (zG:Sl) (zH:Sl) (kT:Int) (kU:Int) (H205:Hp):OA:=(bif (decide ((zH.n:Int) > 0)) then ((Hp.new H205 [(.sl zH)]).bind fun H206=>(Sl.row H206 (⟨some (H205.length,0),1,.ex 1⟩:Sl) 1).bind fun xs208=>(Hp.app H206 1 24 zF (⟨some (H205.length,0),1,.ex 1⟩:Sl).n xs208).bind fun a207=>ap.j5 F cf C61_ nC zD nD zE a207.1 zG kT kU a207.2) else (ap.j5 F cf C61_ nC zD nD zE zF zG kT kU H205))
noncomputable def ap.l15725 (F:Nat) (cf:Sl→Int→Sl→Sl→Int→Int→Hp→OA) (C61_:Nat→Nat→Nat→Nat→Sl→Sl→Int→Int→Hp→OA):Nat→Nat→Nat→Nat→Nat→Sl→Sl→Int→Int→Sl→Int→Hp→OA
 | 0,_,_,_,_,_,_,_,_,_,_,_=>none
 | wM + 1,dC,eZ,dN,fB,gw,gi,e_,fC,hO,c_,H164=>(Sl.idx gi c_ 1).bind fun p249=>(Hp.ldB H164 p249.1 p249.2).bind fun b250=>(bif (!b250) then ((Sl.idx gi c_ 1).bind fun p251=>(Hp.st H164 p251.1 p251.2 (.bool true)).bind fun H252=>(Hp.new H252 [(.int .i64 c_)]).bind fun H253=>(Sl.row H253 (⟨some (H252.length,0),1,.ex 1⟩:Sl) 1).bind fun xs255=>(Hp.app H253 1 8 hO (⟨some (H252.length,0),1,.ex 1⟩:Sl).n xs255).bind fun a254=>(Hp.ldSl a254.2 dC eZ).bind fun s256=>(Hp.ldI a254.2 .i64 dC (eZ + 1)).bind fun n257=>(Hp.ldSl a254.2 dN fB).bind fun s258=>(Hp.ldSl a254.2 dN (fB + 1)).bind fun s259=>(cf s256 n257 s258 s259 (IntKind.i64.wrap (Int.tdiv c_ 4)) (Int.tmod (IntKind.i64.wrap (c_ + 1)) 4) a254.2).bind fun r260=>((r260.1).asAgg 2).bind fun l261=>(l261[0]?).bind fun v262=>((v262).asI .i64).bind fun n263=>(l261[1]?).bind fun v264=>((v264).asI .i64).bind fun n265=>(Hp.new r260.2 [.int .i64 0,.int .i64 0]).bind fun H266=>(Hp.st H266 r260.2.length 0 (.int .i64 n263)).bind fun H267=>(Hp.st H267 r260.2.length (0 + 1) (.int .i64 n265)).bind fun H268=>(Hp.ldI H268 .i64 r260.2.length 0).bind fun n269=>(Hp.ldI H268 .i64 r260.2.length 1).bind fun n270=>ap.l15725 F cf C61_ wM dC eZ dN fB gw gi e_ fC a254.1 (IntKind.i64.wrap ((IntKind.i64.wrap (4 * n269)) + n270)) H268) else (ap.j6 F cf C61_ dC eZ dN fB gw gi hO e_ fC H164))
termination_by structural n=>n
noncomputable def ap.l61 (F:Nat) (cf:Sl→Int→Sl→Sl→Int→Int→Hp→OA) :Nat→Nat→Nat→Nat→Nat→Sl→Sl→Int→Int→Hp→OA
 | 0,_,_,_,_,_,_,_,_,_=>none
 | ba + 1,co,cQ,cu,df,dg,dO,fa,eP,H22=>(bif (decide (eP < fa)) then (ap.l15725 F cf (ap.l61 F cf ba) F co cQ cu df dg dO fa eP (⟨none,0,.ex 0⟩:Sl) eP H22) else (some ((.sl dg),H22)))
termination_by structural n=>n
noncomputable def ap.twX (F:Nat) (cf:Sl→Int→Sl→Sl→Int→Int→Hp→OA) (aa:Sl) (ab:Int) (af:Sl) (bf:Sl) (H:Hp):OA:=(Hp.new H [(.sl aa),(.int .i64 ab)]).bind fun H5=>(Hp.new H5 [(.sl af),(.sl bf)]).bind fun H6=>(Hp.ldSl H6 H.length 0).bind fun s7=>(Hp.mk H6 [.bool false] 1 (IntKind.i64.wrap (4 * (s7.n:Int))) (IntKind.i64.wrap (4 * (s7.n:Int)))).bind fun m8=>ap.l61 F cf F H.length 0 H5.length 0 (⟨none,0,.ex 0⟩:Sl) m8.1 (m8.1.n:Int) 0 m8.2
noncomputable def ap.tw (F:Nat) (aa:Sl) (ab:Int) (af:Sl) (bf:Sl) (H:Hp):OA:=ap.twX F (bq.tw F) aa ab af bf H
noncomputable def ap.code:Go.Code:=(Try.f103.body).getD .skip
noncomputable def ap.lh61 (F:Nat) (cf:Sl→Int→Sl→Sl→Int→Int→Hp→OA) (ks:List Nat) (n:Nat) (tm:Tm) (H:Hp):OA:=match ks,tm 2,tm 3,tm 5,tm 6,tm 17,tm 18 with
 | [],(.ptr co cQ),(.ptr cu df),(.sl dg),(.sl dO),(.int .i64 fa),(.int .i64 eP)=>ap.l61 F cf n co cQ cu df dg dO fa eP H
 | _,_,_,_,_,_,_=>none
theorem ap.lh61_inv {F:Nat} {cf:Sl→Int→Sl→Sl→Int→Int→Hp→OA} {ks:List Nat} {n:Nat} {tm:Tm} {H:Hp} {r:AV×Hp} (h:ap.lh61 F cf ks n tm H = some r):∃ co:Nat,∃ cQ:Nat,∃ cu:Nat,∃ df:Nat,∃ dg:Sl,∃ dO:Sl,∃ fa:Int,∃ eP:Int,ks = []∧tm 2 = (.ptr co cQ)∧tm 3 = (.ptr cu df)∧tm 5 = (.sl dg)∧tm 6 = (.sl dO)∧tm 17 = (.int .i64 fa)∧tm 18 = (.int .i64 eP)∧ap.l61 F cf n co cQ cu df dg dO fa eP H = some r:=by
 unfold ap.lh61 at h
 split at h
 ·exact ⟨_,_,_,_,_,_,_,_,rfl,by assumption,by assumption,by assumption,by assumption,by assumption,by assumption,h⟩
 ·cases h
noncomputable def ap.lh15725 (F:Nat) (cf:Sl→Int→Sl→Sl→Int→Int→Hp→OA) (ks:List Nat) (n:Nat) (tm:Tm) (H:Hp):OA:=match ks,tm 2,tm 3,tm 5,tm 6,tm 8,tm 9,tm 17,tm 18 with
 | [ba],(.ptr dC eZ),(.ptr dN fB),(.sl gw),(.sl gi),(.sl hO),(.int .i64 c_),(.int .i64 e_),(.int .i64 fC)=>ap.l15725 F cf (ap.l61 F cf ba) n dC eZ dN fB gw gi e_ fC hO c_ H
 | _,_,_,_,_,_,_,_,_=>none
theorem ap.lh15725_inv {F:Nat} {cf:Sl→Int→Sl→Sl→Int→Int→Hp→OA} {ks:List Nat} {n:Nat} {tm:Tm} {H:Hp} {r:AV×Hp} (h:ap.lh15725 F cf ks n tm H = some r):∃ ba:Nat,∃ dC:Nat,∃ eZ:Nat,∃ dN:Nat,∃ fB:Nat,∃ gw:Sl,∃ gi:Sl,∃ hO:Sl,∃ c_:Int,∃ e_:Int,∃ fC:Int,ks = [ba]∧tm 2 = (.ptr dC eZ)∧tm 3 = (.ptr dN fB)∧tm 5 = (.sl gw)∧tm 6 = (.sl gi)∧tm 8 = (.sl hO)∧tm 9 = (.int .i64 c_)∧tm 17 = (.int .i64 e_)∧tm 18 = (.int .i64 fC)∧ap.l15725 F cf (ap.l61 F cf ba) n dC eZ dN fB gw gi e_ fC hO c_ H = some r:=by
 unfold ap.lh15725 at h
 split at h
 ·exact ⟨_,_,_,_,_,_,_,_,_,_,_,rfl,by assumption,by assumption,by assumption,by assumption,by assumption,by assumption,by assumption,by assumption,h⟩
 ·cases h
noncomputable def ap.lh (F:Nat) (cf:Sl→Int→Sl→Sl→Int→Int→Hp→OA) (p:Nat) (ks:List Nat) (n:Nat) (tm:Tm) (H:Hp):OA:=bif p.beq 15725 then ap.lh15725 F cf ks n tm H else (bif p.beq 61 then ap.lh61 F cf ks n tm H else (none))
def ap.pn:Nat→List Nat:=fun i=>(([]:List (Nat×List Nat)).lookup i).getD []
def ap.tb:Nat→List (List Nat):=fun i=>(([]:List (Nat×List (List Nat))).lookup i).getD []
noncomputable def ap.mk (g:Sl→Int→Sl→Sl→Hp→OA) (args:List AV) (H:Hp):OA:=match args with
 | [(.agg [(.sl aa),(.int .i64 ab)]),(.agg [(.sl af),(.sl bf)])]=>g aa ab af bf H
 | _=>none
noncomputable def ap.cs (F:Nat) (cf:Sl→Int→Sl→Sl→Int→Int→Hp→OA):List (FuncId×(List AV→Hp→OA)):=[(139,bq.mk cf)]
theorem ap.loops (F:Nat) (cf:Sl→Int→Sl→Sl→Int→Int→Hp→OA):LoopsOk tabs (mkOrc (ap.cs F cf)) ap.pn (ap.lh F cf) F [] 1 ap.code (fun tm H=>aresults tabs.ty H tm Try.f103.results.toList fun v=>some (v,H)) (fun _ _ _=>none) (fun tm H=>aresults tabs.ty H tm Try.f103.results.toList fun v=>some (v,H)):=by
 refine LoopsOk.seq ?_ ?_
 ·exact loops_none (by kernel_rfl)
 ·refine LoopsOk.seq ?_ ?_
  ·exact loops_none (by kernel_rfl)
  ·refine LoopsOk.seq ?_ ?_
   ·exact loops_none (by kernel_rfl)
   ·refine LoopsOk.seq ?_ ?_
    ·refine LoopsOk.seq ?_ ?_
     ·exact loops_none (by kernel_rfl)
     ·refine LoopsOk.block ?_
      refine LoopsOk.loop (fun tm H=>?_) (fun k61 tm H r h0=>?_) (fun k61=>?_)
      ·refine none_of fun r h0=>?_
       obtain ⟨co,cQ,cu,df,dg,dO,fa,eP,hks,e2,e3,e5,e6,e17,e18,h⟩:=ap.lh61_inv (show ap.lh61 F cf [] 0 tm H = some r from h0)
       cases h
      ·obtain ⟨co,cQ,cu,df,dg,dO,fa,eP,hks,e2,e3,e5,e6,e17,e18,h⟩:=ap.lh61_inv (show ap.lh61 F cf [] (k61 + 1) tm H = some r from h0)
       have q0:(Tm.put tm 2 (.ptr co cQ)) = tm:=by exact Tm.put_same e2
       have q1:(Tm.put (Tm.put tm 2 (.ptr co cQ)) 3 (.ptr cu df)) = tm:=by rw [q0]; exact Tm.put_same e3
       have q2:(Tm.put (Tm.put (Tm.put tm 2 (.ptr co cQ)) 3 (.ptr cu df)) 5 (.sl dg)) = tm:=by rw [q1]; exact Tm.put_same e5
       have q3:(Tm.put (Tm.put (Tm.put (Tm.put tm 2 (.ptr co cQ)) 3 (.ptr cu df)) 5 (.sl dg)) 6 (.sl dO)) = tm:=by rw [q2]; exact Tm.put_same e6
       have q4:(Tm.put (Tm.put (Tm.put (Tm.put (Tm.put tm 2 (.ptr co cQ)) 3 (.ptr cu df)) 5 (.sl dg)) 6 (.sl dO)) 17 (.int .i64 fa)) = tm:=by rw [q3]; exact Tm.put_same e17
       have q5:(Tm.put (Tm.put (Tm.put (Tm.put (Tm.put (Tm.put tm 2 (.ptr co cQ)) 3 (.ptr cu df)) 5 (.sl dg)) 6 (.sl dO)) 17 (.int .i64 fa)) 18 (.int .i64 eP)) = tm:=by rw [q4]; exact Tm.put_same e18
       rw [← q5]
       exact Eq.trans (by kernel_rfl) h
      ·refine LoopsOk.seq ?_ ?_
       ·exact loops_none (by kernel_rfl)
       ·refine LoopsOk.seq ?_ ?_
        ·exact loops_none (by kernel_rfl)
        ·refine LoopsOk.seq ?_ ?_
         ·refine LoopsOk.block ?_
          refine LoopsOk.seq ?_ ?_
          ·exact loops_none (by kernel_rfl)
          ·refine LoopsOk.seq ?_ ?_
           ·exact loops_none (by kernel_rfl)
           ·refine LoopsOk.seq ?_ ?_
            ·refine LoopsOk.seq ?_ ?_
             ·exact loops_none (by kernel_rfl)
             ·refine LoopsOk.block ?_
              refine LoopsOk.loop (fun tm H=>?_) (fun k15725 tm H r h0=>?_) (fun k15725=>?_)
              ·refine none_of fun r h0=>?_
               obtain ⟨ba,dC,eZ,dN,fB,gw,gi,hO,c_,e_,fC,hks,e2,e3,e5,e6,e8,e9,e17,e18,h⟩:=ap.lh15725_inv (show ap.lh15725 F cf [k61] 0 tm H = some r from h0)
               cases h
              ·obtain ⟨ba,dC,eZ,dN,fB,gw,gi,hO,c_,e_,fC,hks,e2,e3,e5,e6,e8,e9,e17,e18,h⟩:=ap.lh15725_inv (show ap.lh15725 F cf [k61] (k15725 + 1) tm H = some r from h0)
               obtain rfl:ba = k61:=by simpa [eq_comm] using hks
               have q0:(Tm.put tm 2 (.ptr dC eZ)) = tm:=by exact Tm.put_same e2
               have q1:(Tm.put (Tm.put tm 2 (.ptr dC eZ)) 3 (.ptr dN fB)) = tm:=by rw [q0]; exact Tm.put_same e3
               have q2:(Tm.put (Tm.put (Tm.put tm 2 (.ptr dC eZ)) 3 (.ptr dN fB)) 5 (.sl gw)) = tm:=by rw [q1]; exact Tm.put_same e5
               have q3:(Tm.put (Tm.put (Tm.put (Tm.put tm 2 (.ptr dC eZ)) 3 (.ptr dN fB)) 5 (.sl gw)) 6 (.sl gi)) = tm:=by rw [q2]; exact Tm.put_same e6
               have q4:(Tm.put (Tm.put (Tm.put (Tm.put (Tm.put tm 2 (.ptr dC eZ)) 3 (.ptr dN fB)) 5 (.sl gw)) 6 (.sl gi)) 8 (.sl hO)) = tm:=by rw [q3]; exact Tm.put_same e8
               have q5:(Tm.put (Tm.put (Tm.put (Tm.put (Tm.put (Tm.put tm 2 (.ptr dC eZ)) 3 (.ptr dN fB)) 5 (.sl gw)) 6 (.sl gi)) 8 (.sl hO)) 9 (.int .i64 c_)) = tm:=by rw [q4]; exact Tm.put_same e9
               have q6:(Tm.put (Tm.put (Tm.put (Tm.put (Tm.put (Tm.put (Tm.put tm 2 (.ptr dC eZ)) 3 (.ptr dN fB)) 5 (.sl gw)) 6 (.sl gi)) 8 (.sl hO)) 9 (.int .i64 c_)) 17 (.int .i64 e_)) = tm:=by rw [q5]; exact Tm.put_same e17
               have q7:(Tm.put (Tm.put (Tm.put (Tm.put (Tm.put (Tm.put (Tm.put (Tm.put tm 2 (.ptr dC eZ)) 3 (.ptr dN fB)) 5 (.sl gw)) 6 (.sl gi)) 8 (.sl hO)) 9 (.int .i64 c_)) 17 (.int .i64 e_)) 18 (.int .i64 fC)) = tm:=by rw [q6]; exact Tm.put_same e18
               rw [← q7]
               exact Eq.trans (by kernel_rfl) h
              ·exact loops_none (by kernel_rfl)
            ·exact loops_none (by kernel_rfl)
         ·exact loops_none (by kernel_rfl)
    ·exact loops_none (by kernel_rfl)
theorem ap.eqX (F:Nat) (cf:Sl→Int→Sl→Sl→Int→Int→Hp→OA) (aa:Sl) (ab:Int) (af:Sl) (bf:Sl) (H:Hp):aCode tabs (mkOrc (ap.cs F cf)) ap.pn (ap.lh F cf) F [] 1 ap.code (argTm [(.agg [(.sl aa),(.int .i64 ab)]),(.agg [(.sl af),(.sl bf)])]) H (fun tm H=>aresults tabs.ty H tm Try.f103.results.toList fun v=>some (v,H)) (fun _ _ _=>none) (fun tm H=>aresults tabs.ty H tm Try.f103.results.toList fun v=>some (v,H)) = ap.twX F cf aa ab af bf H:=by kernel_rfl
theorem ap.cs_ok (F:Nat):∀ p ∈ ap.cs F (bq.tw F),∀ args H v H',p.2 args H = some (v,H')→Go.AE.T Try.prog p.1 args H v H':=by
 intro p hp
 simp only [ap.cs,List.mem_cons,List.not_mem_nil,or_false] at hp
 subst hp
 exact fun args H v H' h=>bq.mk_T h
theorem ap.ok:codeOk ap.pn Try.f103.ntmps ap.tb ap.code = true:=by kernel_rfl
theorem ap.T {F:Nat} {aa:Sl} {ab:Int} {af:Sl} {bf:Sl} {H:Hp} {v:AV} {H':Hp} (h:ap.tw F aa ab af bf H = some (v,H')):Go.AE.T Try.prog 103 [(.agg [(.sl aa),(.int .i64 ab)]),(.agg [(.sl af),(.sl bf)])] H v H':=
 Go.AE.T.of (Y:=tabs) (C:=mkOrc (ap.cs F (bq.tw F))) (PN:=ap.pn) (LH:=ap.lh F (bq.tw F)) (F:=F) (TB:=ap.tb) (fn:=Try.f103) (code:=ap.code) mixed tabs_ok (mkOrc_ok (ap.cs_ok F)) Try.func103 (by kernel_rfl) (by kernel_rfl) ap.ok (Nat.le_of_ble_eq_true (by kernel_rfl)) (ap.loops F (bq.tw F)) (Eq.trans (ap.eqX F (bq.tw F) aa ab af bf H) h)
theorem ap.mk_T {F:Nat} {args:List AV} {H:Hp} {v:AV} {H':Hp} (h:ap.mk (ap.tw F) args H = some (v,H')):Go.AE.T Try.prog 103 args H v H':=by
 unfold ap.mk at h
 split at h
 ·exact ap.T h
 ·cases h
noncomputable def bj.twX (F:Nat) (aa:Sl) (H:Hp):OA:=some ((.int .i64 (aa.n:Int)),H)
noncomputable def bj.tw (F:Nat) (aa:Sl) (H:Hp):OA:=bj.twX F aa H
noncomputable def bj.code:Go.Code:=(Try.f89.body).getD .skip
noncomputable def bj.lh (F:Nat) (p:Nat) (ks:List Nat) (n:Nat) (tm:Tm) (H:Hp):OA:=none
def bj.pn:Nat→List Nat:=fun i=>(([]:List (Nat×List Nat)).lookup i).getD []
def bj.tb:Nat→List (List Nat):=fun i=>(([]:List (Nat×List (List Nat))).lookup i).getD []
noncomputable def bj.mk (g:Sl→Hp→OA) (args:List AV) (H:Hp):OA:=match args with
 | [(.sl aa)]=>g aa H
 | _=>none
noncomputable def bj.cs (F:Nat):List (FuncId×(List AV→Hp→OA)):=[]
theorem bj.loops (F:Nat):LoopsOk tabs (mkOrc (bj.cs F)) bj.pn (bj.lh F) F [] 1 bj.code (fun tm H=>aresults tabs.ty H tm Try.f89.results.toList fun v=>some (v,H)) (fun _ _ _=>none) (fun tm H=>aresults tabs.ty H tm Try.f89.results.toList fun v=>some (v,H)):=by
 exact loops_none (by kernel_rfl)
theorem bj.eqX (F:Nat) (aa:Sl) (H:Hp):aCode tabs (mkOrc (bj.cs F)) bj.pn (bj.lh F) F [] 1 bj.code (argTm [(.sl aa)]) H (fun tm H=>aresults tabs.ty H tm Try.f89.results.toList fun v=>some (v,H)) (fun _ _ _=>none) (fun tm H=>aresults tabs.ty H tm Try.f89.results.toList fun v=>some (v,H)) = bj.twX F aa H:=by kernel_rfl
theorem bj.cs_ok (F:Nat):∀ p ∈ bj.cs F,∀ args H v H',p.2 args H = some (v,H')→Go.AE.T Try.prog p.1 args H v H':=by
 intro p hp
 exact absurd (show p ∈ [] from hp) List.not_mem_nil
theorem bj.ok:codeOk bj.pn Try.f89.ntmps bj.tb bj.code = true:=by kernel_rfl
theorem bj.T {F:Nat} {aa:Sl} {H:Hp} {v:AV} {H':Hp} (h:bj.tw F aa H = some (v,H')):Go.AE.T Try.prog 89 [(.sl aa)] H v H':=
 Go.AE.T.of (Y:=tabs) (C:=mkOrc (bj.cs F)) (PN:=bj.pn) (LH:=bj.lh F) (F:=F) (TB:=bj.tb) (fn:=Try.f89) (code:=bj.code) mixed tabs_ok (mkOrc_ok (bj.cs_ok F)) Try.func89 (by kernel_rfl) (by kernel_rfl) bj.ok (Nat.le_of_ble_eq_true (by kernel_rfl)) (bj.loops F) (Eq.trans (bj.eqX F aa H) h)
theorem bj.mk_T {F:Nat} {args:List AV} {H:Hp} {v:AV} {H':Hp} (h:bj.mk (bj.tw F) args H = some (v,H')):Go.AE.T Try.prog 89 args H v H':=by
 unfold bj.mk at h
 split at h
 ·exact bj.T h
 ·cases h
noncomputable def aH.l29 (F:Nat) :Nat→Sl→Int→Int→Hp→OA
 | 0,_,_,_,_=>none
 | dr + 1,io,fb,ep,H7=>(bif (decide (ep < fb)) then ((Hp.new H7 [(.int .i64 ep)]).bind fun H11=>(Sl.row H11 (⟨some (H7.length,0),1,.ex 1⟩:Sl) 1).bind fun xs13=>(Hp.app H11 1 8 io (⟨some (H7.length,0),1,.ex 1⟩:Sl).n xs13).bind fun a12=>aH.l29 F dr a12.1 fb (IntKind.i64.wrap (ep + 1)) a12.2) else (some ((.sl io),H7)))
termination_by structural n=>n
noncomputable def aH.twX (F:Nat) (aa:Int) (H:Hp):OA:=aH.l29 F F (⟨none,0,.ex 0⟩:Sl) aa 0 H
noncomputable def aH.tw (F:Nat) (aa:Int) (H:Hp):OA:=aH.twX F aa H
noncomputable def aH.code:Go.Code:=(Try.f116.body).getD .skip
noncomputable def aH.lh29 (F:Nat) (ks:List Nat) (n:Nat) (tm:Tm) (H:Hp):OA:=match ks,tm 3,tm 5,tm 6 with
 | [],(.sl io),(.int .i64 fb),(.int .i64 ep)=>aH.l29 F n io fb ep H
 | _,_,_,_=>none
theorem aH.lh29_inv {F:Nat} {ks:List Nat} {n:Nat} {tm:Tm} {H:Hp} {r:AV×Hp} (h:aH.lh29 F ks n tm H = some r):∃ io:Sl,∃ fb:Int,∃ ep:Int,ks = []∧tm 3 = (.sl io)∧tm 5 = (.int .i64 fb)∧tm 6 = (.int .i64 ep)∧aH.l29 F n io fb ep H = some r:=by
 unfold aH.lh29 at h
 split at h
 ·exact ⟨_,_,_,rfl,by assumption,by assumption,by assumption,h⟩
 ·cases h
noncomputable def aH.lh (F:Nat) (p:Nat) (ks:List Nat) (n:Nat) (tm:Tm) (H:Hp):OA:=bif p.beq 29 then aH.lh29 F ks n tm H else (none)
def aH.pn:Nat→List Nat:=fun i=>(([]:List (Nat×List Nat)).lookup i).getD []
def aH.tb:Nat→List (List Nat):=fun i=>(([]:List (Nat×List (List Nat))).lookup i).getD []
noncomputable def aH.mk (g:Int→Hp→OA) (args:List AV) (H:Hp):OA:=match args with
 | [(.int .i64 aa)]=>g aa H
 | _=>none
noncomputable def aH.cs (F:Nat):List (FuncId×(List AV→Hp→OA)):=[]
theorem aH.loops (F:Nat):LoopsOk tabs (mkOrc (aH.cs F)) aH.pn (aH.lh F) F [] 1 aH.code (fun tm H=>aresults tabs.ty H tm Try.f116.results.toList fun v=>some (v,H)) (fun _ _ _=>none) (fun tm H=>aresults tabs.ty H tm Try.f116.results.toList fun v=>some (v,H)):=by
 refine LoopsOk.seq ?_ ?_
 ·exact loops_none (by kernel_rfl)
 ·refine LoopsOk.seq ?_ ?_
  ·exact loops_none (by kernel_rfl)
  ·refine LoopsOk.seq ?_ ?_
   ·refine LoopsOk.seq ?_ ?_
    ·exact loops_none (by kernel_rfl)
    ·refine LoopsOk.block ?_
     refine LoopsOk.loop (fun tm H=>?_) (fun k29 tm H r h0=>?_) (fun k29=>?_)
     ·refine none_of fun r h0=>?_
      obtain ⟨io,fb,ep,hks,e3,e5,e6,h⟩:=aH.lh29_inv (show aH.lh29 F [] 0 tm H = some r from h0)
      cases h
     ·obtain ⟨io,fb,ep,hks,e3,e5,e6,h⟩:=aH.lh29_inv (show aH.lh29 F [] (k29 + 1) tm H = some r from h0)
      have q0:(Tm.put tm 3 (.sl io)) = tm:=by exact Tm.put_same e3
      have q1:(Tm.put (Tm.put tm 3 (.sl io)) 5 (.int .i64 fb)) = tm:=by rw [q0]; exact Tm.put_same e5
      have q2:(Tm.put (Tm.put (Tm.put tm 3 (.sl io)) 5 (.int .i64 fb)) 6 (.int .i64 ep)) = tm:=by rw [q1]; exact Tm.put_same e6
      rw [← q2]
      exact Eq.trans (by kernel_rfl) h
     ·exact loops_none (by kernel_rfl)
   ·exact loops_none (by kernel_rfl)
theorem aH.eqX (F:Nat) (aa:Int) (H:Hp):aCode tabs (mkOrc (aH.cs F)) aH.pn (aH.lh F) F [] 1 aH.code (argTm [(.int .i64 aa)]) H (fun tm H=>aresults tabs.ty H tm Try.f116.results.toList fun v=>some (v,H)) (fun _ _ _=>none) (fun tm H=>aresults tabs.ty H tm Try.f116.results.toList fun v=>some (v,H)) = aH.twX F aa H:=by kernel_rfl
theorem aH.cs_ok (F:Nat):∀ p ∈ aH.cs F,∀ args H v H',p.2 args H = some (v,H')→Go.AE.T Try.prog p.1 args H v H':=by
 intro p hp
 exact absurd (show p ∈ [] from hp) List.not_mem_nil
theorem aH.ok:codeOk aH.pn Try.f116.ntmps aH.tb aH.code = true:=by kernel_rfl
theorem aH.T {F:Nat} {aa:Int} {H:Hp} {v:AV} {H':Hp} (h:aH.tw F aa H = some (v,H')):Go.AE.T Try.prog 116 [(.int .i64 aa)] H v H':=
 Go.AE.T.of (Y:=tabs) (C:=mkOrc (aH.cs F)) (PN:=aH.pn) (LH:=aH.lh F) (F:=F) (TB:=aH.tb) (fn:=Try.f116) (code:=aH.code) mixed tabs_ok (mkOrc_ok (aH.cs_ok F)) Try.func116 (by kernel_rfl) (by kernel_rfl) aH.ok (Nat.le_of_ble_eq_true (by kernel_rfl)) (aH.loops F) (Eq.trans (aH.eqX F aa H) h)
theorem aH.mk_T {F:Nat} {args:List AV} {H:Hp} {v:AV} {H':Hp} (h:aH.mk (aH.tw F) args H = some (v,H')):Go.AE.T Try.prog 116 args H v H':=by
 unfold aH.mk at h
 split at h
 ·exact aH.T h
 ·cases h
noncomputable def aB.j2 (F:Nat) (C7_:Sl→Int→Int→Sl→Int→Int→Hp→OA) (GQ:Sl) (mX:Int) (mY:Int) (GR:Sl) (mZ:Int) (m_:Int) (H50:Hp):OA:=C7_ GQ mX mY GR mZ (IntKind.i64.wrap (m_ + 1)) H50
noncomputable def aB.l7 (F:Nat) :Nat→Sl→Int→Int→Sl→Int→Int→Hp→OA
 | 0,_,_,_,_,_,_,_=>none
 | zI + 1,cM,dD,dP,hP,eG,dE,H16=>(bif (decide (dE < eG)) then ((Sl.idx hP dE 1).bind fun p34=>(Hp.ldI H16 .i64 p34.1 p34.2).bind fun n35=>(bif (n35 == dD) then ((Sl.idx cM dE 1).bind fun p36=>(Hp.st H16 p36.1 p36.2 (.int .i64 dP)).bind fun H37=>aB.j2 F (aB.l7 F zI) cM dD dP hP eG dE H37) else (aB.j2 F (aB.l7 F zI) cM dD dP hP eG dE H16))) else (some ((.tup []),H16)))
termination_by structural n=>n
noncomputable def aB.twX (F:Nat) (aa:Sl) (ae:Int) (bM:Int) (H:Hp):OA:=(Sl.idx aa bM 1).bind fun p4=>(Hp.ldI H .i64 p4.1 p4.2).bind fun n5=>(Sl.idx aa ae 1).bind fun p6=>(Hp.ldI H .i64 p6.1 p6.2).bind fun n7=>aB.l7 F F aa n5 n7 aa (aa.n:Int) 0 H
noncomputable def aB.tw (F:Nat) (aa:Sl) (ae:Int) (bM:Int) (H:Hp):OA:=aB.twX F aa ae bM H
noncomputable def aB.code:Go.Code:=(Try.f118.body).getD .skip
noncomputable def aB.lh7 (F:Nat) (ks:List Nat) (n:Nat) (tm:Tm) (H:Hp):OA:=match ks,tm 0,tm 6,tm 7,tm 18,tm 19,tm 20 with
 | [],(.sl cM),(.int .i64 dD),(.int .i64 dP),(.sl hP),(.int .i64 eG),(.int .i64 dE)=>aB.l7 F n cM dD dP hP eG dE H
 | _,_,_,_,_,_,_=>none
theorem aB.lh7_inv {F:Nat} {ks:List Nat} {n:Nat} {tm:Tm} {H:Hp} {r:AV×Hp} (h:aB.lh7 F ks n tm H = some r):∃ cM:Sl,∃ dD:Int,∃ dP:Int,∃ hP:Sl,∃ eG:Int,∃ dE:Int,ks = []∧tm 0 = (.sl cM)∧tm 6 = (.int .i64 dD)∧tm 7 = (.int .i64 dP)∧tm 18 = (.sl hP)∧tm 19 = (.int .i64 eG)∧tm 20 = (.int .i64 dE)∧aB.l7 F n cM dD dP hP eG dE H = some r:=by
 unfold aB.lh7 at h
 split at h
 ·exact ⟨_,_,_,_,_,_,rfl,by assumption,by assumption,by assumption,by assumption,by assumption,by assumption,h⟩
 ·cases h
noncomputable def aB.lh (F:Nat) (p:Nat) (ks:List Nat) (n:Nat) (tm:Tm) (H:Hp):OA:=bif p.beq 7 then aB.lh7 F ks n tm H else (none)
def aB.pn:Nat→List Nat:=fun i=>(([(0,[])]:List (Nat×List Nat)).lookup i).getD []
def aB.tb:Nat→List (List Nat):=fun i=>(([(0,[[],[],[0,1],[0,1,2],[],[],[4,5],[4,5,6],[0,1,2,3],[0,1,2,3,4,5,6,7,8]])]:List (Nat×List (List Nat))).lookup i).getD []
noncomputable def aB.mk (g:Sl→Int→Int→Hp→OA) (args:List AV) (H:Hp):OA:=match args with
 | [(.sl aa),(.int .i64 ae),(.int .i64 bM)]=>g aa ae bM H
 | _=>none
noncomputable def aB.cs (F:Nat):List (FuncId×(List AV→Hp→OA)):=[]
theorem aB.loops (F:Nat):LoopsOk tabs (mkOrc (aB.cs F)) aB.pn (aB.lh F) F [] 1 aB.code (fun tm H=>aresults tabs.ty H tm Try.f118.results.toList fun v=>some (v,H)) (fun _ _ _=>none) (fun tm H=>aresults tabs.ty H tm Try.f118.results.toList fun v=>some (v,H)):=by
 refine LoopsOk.seq ?_ ?_
 ·exact loops_none (by kernel_rfl)
 ·refine LoopsOk.seq ?_ ?_
  ·exact loops_none (by kernel_rfl)
  ·refine LoopsOk.block ?_
   refine LoopsOk.loop (fun tm H=>?_) (fun k7 tm H r h0=>?_) (fun k7=>?_)
   ·refine none_of fun r h0=>?_
    obtain ⟨cM,dD,dP,hP,eG,dE,hks,e0,e6,e7,e18,e19,e20,h⟩:=aB.lh7_inv (show aB.lh7 F [] 0 tm H = some r from h0)
    cases h
   ·obtain ⟨cM,dD,dP,hP,eG,dE,hks,e0,e6,e7,e18,e19,e20,h⟩:=aB.lh7_inv (show aB.lh7 F [] (k7 + 1) tm H = some r from h0)
    have q0:(Tm.put tm 0 (.sl cM)) = tm:=by exact Tm.put_same e0
    have q1:(Tm.put (Tm.put tm 0 (.sl cM)) 6 (.int .i64 dD)) = tm:=by rw [q0]; exact Tm.put_same e6
    have q2:(Tm.put (Tm.put (Tm.put tm 0 (.sl cM)) 6 (.int .i64 dD)) 7 (.int .i64 dP)) = tm:=by rw [q1]; exact Tm.put_same e7
    have q3:(Tm.put (Tm.put (Tm.put (Tm.put tm 0 (.sl cM)) 6 (.int .i64 dD)) 7 (.int .i64 dP)) 18 (.sl hP)) = tm:=by rw [q2]; exact Tm.put_same e18
    have q4:(Tm.put (Tm.put (Tm.put (Tm.put (Tm.put tm 0 (.sl cM)) 6 (.int .i64 dD)) 7 (.int .i64 dP)) 18 (.sl hP)) 19 (.int .i64 eG)) = tm:=by rw [q3]; exact Tm.put_same e19
    have q5:(Tm.put (Tm.put (Tm.put (Tm.put (Tm.put (Tm.put tm 0 (.sl cM)) 6 (.int .i64 dD)) 7 (.int .i64 dP)) 18 (.sl hP)) 19 (.int .i64 eG)) 20 (.int .i64 dE)) = tm:=by rw [q4]; exact Tm.put_same e20
    rw [← q5]
    exact Eq.trans (by kernel_rfl) h
   ·exact loops_none (by kernel_rfl)
theorem aB.eqX (F:Nat) (aa:Sl) (ae:Int) (bM:Int) (H:Hp):aCode tabs (mkOrc (aB.cs F)) aB.pn (aB.lh F) F [] 1 aB.code (argTm [(.sl aa),(.int .i64 ae),(.int .i64 bM)]) H (fun tm H=>aresults tabs.ty H tm Try.f118.results.toList fun v=>some (v,H)) (fun _ _ _=>none) (fun tm H=>aresults tabs.ty H tm Try.f118.results.toList fun v=>some (v,H)) = aB.twX F aa ae bM H:=by kernel_rfl
theorem aB.cs_ok (F:Nat):∀ p ∈ aB.cs F,∀ args H v H',p.2 args H = some (v,H')→Go.AE.T Try.prog p.1 args H v H':=by
 intro p hp
 exact absurd (show p ∈ [] from hp) List.not_mem_nil
theorem aB.ok:codeOk aB.pn Try.f118.ntmps aB.tb aB.code = true:=by kernel_rfl
theorem aB.T {F:Nat} {aa:Sl} {ae:Int} {bM:Int} {H:Hp} {v:AV} {H':Hp} (h:aB.tw F aa ae bM H = some (v,H')):Go.AE.T Try.prog 118 [(.sl aa),(.int .i64 ae),(.int .i64 bM)] H v H':=
 Go.AE.T.of (Y:=tabs) (C:=mkOrc (aB.cs F)) (PN:=aB.pn) (LH:=aB.lh F) (F:=F) (TB:=aB.tb) (fn:=Try.f118) (code:=aB.code) mixed tabs_ok (mkOrc_ok (aB.cs_ok F)) Try.func118 (by kernel_rfl) (by kernel_rfl) aB.ok (Nat.le_of_ble_eq_true (by kernel_rfl)) (aB.loops F) (Eq.trans (aB.eqX F aa ae bM H) h)
theorem aB.mk_T {F:Nat} {args:List AV} {H:Hp} {v:AV} {H':Hp} (h:aB.mk (aB.tw F) args H = some (v,H')):Go.AE.T Try.prog 118 args H v H':=by
 unfold aB.mk at h
 split at h
 ·exact aB.T h
 ·cases h
theorem nm_law:Keyed Try.prog 2:=int_keyed Try.underlying2
theorem nm_zero (w:World):(zeroValue 2).run Try.prog w = .ok (.int .i64 0) w:=by kernel_rfl
theorem nm_info:(Try.prog.info? 2).map (fun i=>(i.zero,i.size,i.bytes)) = some (some (.int .i64 0),1,8):=by kernel_rfl
theorem nm_none (a:Option Addr) (cap:Nat) (w:World):Calls Try.prog 119 #[.slice a 0 cap] w fun e w'=>e = .returned (.slice none 0 0)∧Below w.heap.size w w':=by
 have hmm:=@run_makeMap Try.prog
 go_enter Try.func119,Try.ntmps119
 go_wp2
 refine wp_loop_rounds 1 ?_
 rw [rounds_succ]
 go_wp2
 go_ret
 exact ⟨rfl,(Below.refl _ _).alloc (Nat.le_refl _) _⟩
theorem nm_any (b off len cap:Nat) (zs:List Int) (w:World) (hreach:len ≤ 4294967296) (hz:len ≤ zs.length) (hb:b < w.heap.size)
  (hc:∀ j,j < zs.length→w.cell? ⟨b,off + j,none⟩ = some (.int .i64 (zs.getD j 0))) (hwz:∀ n ∈ zs,(Lit.int .i64 n).wf = true) :
  Calls Try.prog 119 #[.slice (some ⟨b,off,none⟩) len cap] w fun e w'=>∃ v,e = .returned v∧w'.ownsRow (w.heap.size + 1) 2 1 v len ((nst zs len).2.map (Value.int .i64))∧Below w.heap.size w w':=by
 have hmm:=@run_makeMap Try.prog
 obtain ⟨i0,hi,hz0,hz1,hz2⟩:=info_parts nm_info
 go_enter Try.func119,Try.ntmps119
 go_wp2
 go_loopw [4,12] (fun v i wr=>∃ (k:Nat) (D:DataW Unit),k ≤ len∧i = .int .i64 k∧wr.ownsMap Try.prog 2 (plainElem Try.prog 2) w.heap.size k D∧ND D (nst zs k).1 ∧
   wr.ownsRow (w.heap.size + 1) 2 1 v k ((nst zs k).2.map (Value.int .i64))∧Below w.heap.size w wr∧w.heap.size + 1 ≤ wr.heap.size)
  (fun _ i _=>len - (intOf i).toNat)
 case atStart=>exact ⟨0,.map [],Nat.zero_le _,rfl,World.ownsMap_made _ _ _ _,ND.nil,World.ownsRow_nil _ _ _ _,(Below.refl _ _).alloc (Nat.le_refl _) _,by simp⟩
 case round=>
  obtain ⟨k,D,hk,rfl,hown,hD,hrow,hnx,hws⟩:=hrel
  obtain ⟨x,hx⟩:∃ x,x = zs.getD k 0:=⟨_,rfl⟩
  have hwx:(Lit.int .i64 x).wf = true:=by rw [hx]; exact wf_gd hwz k
  have hcx:k < len→wr.cell? ⟨b,off + k,none⟩ = some (.int .i64 x):=fun _=>by rw [hx]; exact (hnx.cell (by exact hb)).trans (hc k (by omega))
  have hkey:keyOf Try.prog 2 (.int .i64 x) = some (.int .i64 x):=keyOf_int_mk Try.underlying2 hwx
  have hl1:=nst_len1 zs k
  have hs1:Maps.size D ≤ k:=by rw [hD.size]; exact hl1
  have hht:=hown.tidy nm_law
  have n1:nst zs (k + 1) = (bif (nst zs k).1.contains x then (nst zs k).1 else (nst zs k).1 ++ [x],(nst zs k).2 ++ [(((bif (nst zs k).1.contains x then (nst zs k).1 else (nst zs k).1 ++ [x]).idxOf x:Nat):Int)]):=by rw [hx]; rfl
  clear hx
  go_wp2_with (first
   | (at_lookup; first
     | (refine wpList_lookup_own_ok_int _ rfl _ _ 157 rfl 2 2 .i64 nm_law Try.underlying157 Try.underlying2 (nm_zero _) w.heap.size k _ rfl hown _ _ rfl hkey ?_; intro c hat hwc)
     | (refine wpList_lookup_own_int _ rfl _ _ 157 rfl 2 2 .i64 nm_law Try.underlying157 Try.underlying2 (nm_zero _) w.heap.size (k + 1) _ rfl hown1 _ _ rfl hkey ?_; intro c2 hat2 hwc2)
     | (refine wpList_lookup_own_int _ rfl _ _ 157 rfl 2 2 .i64 nm_law Try.underlying157 Try.underlying2 (nm_zero _) w.heap.size k _ rfl hown _ _ rfl hkey ?_; intro c2 hat2 hwc2))
   | (at_len; refine wpList_len_own _ rfl _ 157 rfl 2 2 Try.underlying157 _ w.heap.size k _ rfl hown ?_)
   | (at_mapUpdate; refine wpList_mapUpdate_own _ rfl _ _ _ 157 rfl 2 2 nm_law Try.underlying157 (plainElem Try.prog 2) w.heap.size k _ rfl hown (by unfold maxLen; omega) _ _ _ rfl rfl hkey _ [] (plainElem_int Try.underlying2 (WalkArith.wf_i64 (by omega))) ?_; intro w1 hown1 hgrow1)
   | (at_builtin; first
     | (refine wpList_append_own _ rfl _ _ 26 rfl (w.heap.size + 1) 2 i0 (.int .i64 0) 1 8 Try.underlying26 hi hz0 hz1 hz2 rfl (by decide) _ _ _ rfl ((hrow.kept hgrow1 (Or.inr (rowNe hrow (Nat.lt_succ_self _)).symm)).alloc _) ⟨w1.heap.size,0,none⟩ 1 1 [.int .i64 c2] rfl rfl (cell_one_new _ _ _) (ints_oneCell .i64 [c2]) (by unfold maxLen; omega) (by omega) (by have:=hgrow1.size; simp at this ⊢; omega) ?_; intro v' w2 hown' hgrow2 hnil2)
     | (refine wpList_append_own _ rfl _ _ 26 rfl (w.heap.size + 1) 2 i0 (.int .i64 0) 1 8 Try.underlying26 hi hz0 hz1 hz2 rfl (by decide) _ _ _ rfl (hrow.alloc _) ⟨wr.heap.size,0,none⟩ 1 1 [.int .i64 c2] rfl rfl (cell_one_new _ _ _) (ints_oneCell .i64 [c2]) (by unfold maxLen; omega) (by omega) (by simp; omega) ?_; intro v' w2 hown' hgrow2 hnil2))
   | go_in)
  ·have hlt:k < len:=by assumption
   have ht:(!Maps.has D (Lit.int .i64 x)) = true:=by assumption
   have hc0:(nst zs k).1.contains x = false:=by rw [← hD.has x]; simpa using ht
   have hr1:=hrow.kept hgrow1 (Or.inr (rowNe hrow (Nat.lt_succ_self _)).symm)
   have s1:=hgrow1.size
   have s2:=hgrow2.size
   simp at s1 s2
   have hD1:=hD.new hht hc0
   rw [hD1.at_ x (by simp) _] at hat2
   have e2:c2 = (((nst zs k).1 ++ [x]).idxOf x:Nat):=by injection hat2 with q; injection q with _ q; exact q.symm
   rw [hc0,cond_false] at n1
   go_roundw
   case rel=>
    refine ⟨k + 1,_,by omega,by go_num,(hown1.alloc _).kept hgrow2 (rowNe hr1 (Nat.lt_succ_self _)),by rw [n1]; exact hD1,?_,?_,by omega⟩
    ·rw [n1,List.map_append,← e2]; exact hown'
    ·exact (((hnx.grown hgrow1 hnx.size (fun j hj=>by cases hj; exact Nat.le_refl _)).alloc (by omega) _).grown hgrow2 (by simp; omega) (fun j hj=>Nat.le_trans (Nat.le_succ _) (hr1.lt j hj).1))
   case measure=>simp [intOf]; omega
  ·have hlt:k < len:=by assumption
   have ht:(!Maps.has D (Lit.int .i64 x)) = false:=by assumption
   have hc1:(nst zs k).1.contains x = true:=by rw [← hD.has x]; simpa using ht
   have s2:=hgrow2.size
   simp at s2
   rw [hD.at_ x hc1 _] at hat2
   have e2:c2 = ((nst zs k).1.idxOf x:Nat):=by injection hat2 with q; injection q with _ q; exact q.symm
   rw [hc1,cond_true] at n1
   go_roundw
   case rel=>
    refine ⟨k + 1,_,by omega,by go_num,((hown.alloc _).kept hgrow2 (rowNe hrow (Nat.lt_succ_self _))).mono (Nat.le_succ _),by rw [n1]; exact hD,?_,?_,by omega⟩
    ·rw [n1,List.map_append,← e2]; exact hown'
    ·exact ((hnx.alloc hnx.size _).grown hgrow2 (by simp; omega) (fun j hj=>Nat.le_trans (Nat.le_succ _) (hrow.lt j hj).1))
   case measure=>simp [intOf]; omega
  ·have:k = len:=by omega
   subst this
   go_ret
   exact ⟨_,rfl,hrow,hnx⟩
theorem nm_ok:NumOk Try.prog 119 2:=⟨nm_none,nm_any⟩
noncomputable def ci.tw (F:Nat) (aa:Sl) (H:Hp):OA:=numTw aa H
noncomputable def ci.mk (g:Sl→Hp→OA) (args:List AV) (H:Hp):OA:=match args with
 | [.sl aa]=>g aa H
 | _=>none
theorem ci.T {F:Nat} {aa:Sl} {H:Hp} {v:AV} {H':Hp} (h:ci.tw F aa H = some (v,H')):Go.AE.T Try.prog 119 [.sl aa] H v H':=
 nm_ok.T (enters_of Try.func119 (by kernel_rfl) (by kernel_rfl)) h
theorem ci.mk_T {F:Nat} {args:List AV} {H:Hp} {v:AV} {H':Hp} (h:ci.mk (ci.tw F) args H = some (v,H')):Go.AE.T Try.prog 119 args H v H':=by
 unfold ci.mk at h
 split at h
 ·exact ci.T h
 ·cases h
noncomputable def aQ.l29 (F:Nat) (bJ:Sl→Hp→OA) (bU:Int→Hp→OA) (bV:Sl→Int→Int→Hp→OA) (bW:Sl→Hp→OA) :Nat→Nat→Nat→Sl→Sl→Int→Int→Hp→OA
 | 0,_,_,_,_,_,_,_=>none
 | dr + 1,fc,gM,gN,ip,fd,er,H26=>(bif (decide (er < fd)) then ((Sl.idx ip er 2).bind fun p40=>(Hp.ldI H26 .i64 p40.1 p40.2).bind fun n41=>(Hp.ldI H26 .i64 p40.1 (p40.2 + 1)).bind fun n42=>(Hp.new H26 [.int .i64 0,.int .i64 0]).bind fun H43=>(Hp.st H43 H26.length 0 (.int .i64 n41)).bind fun H44=>(Hp.st H44 H26.length (0 + 1) (.int .i64 n42)).bind fun H45=>(Hp.ldI H45 .i64 H26.length 0).bind fun n46=>(Hp.ldSl H45 fc (gM + 1)).bind fun s47=>(Sl.idx s47 er 2).bind fun p48=>(Hp.ldI H45 .i64 p48.1 p48.2).bind fun n49=>(bV gN n46 n49 H45).bind fun r50=>aQ.l29 F bJ bU bV bW dr fc gM gN ip fd (IntKind.i64.wrap (er + 1)) r50.2) else ((bW gN H26).bind fun r51=>((r51.1).asSl).bind fun s52=>some ((.sl s52),r51.2)))
termination_by structural n=>n
noncomputable def aQ.twX (F:Nat) (bJ:Sl→Hp→OA) (bU:Int→Hp→OA) (bV:Sl→Int→Int→Hp→OA) (bW:Sl→Hp→OA) (aa:Sl) (ab:Int) (af:Sl) (bf:Sl) (H:Hp):OA:=(Hp.new H [(.sl aa),(.int .i64 ab)]).bind fun H5=>(Hp.new H5 [(.sl af),(.sl bf)]).bind fun H6=>(Hp.ldSl H6 H.length 0).bind fun s7=>(bJ s7 H6).bind fun r8=>((r8.1).asI .i64).bind fun n9=>(bU n9 r8.2).bind fun r10=>((r10.1).asSl).bind fun s11=>(Hp.ldSl r10.2 H5.length 0).bind fun s12=>aQ.l29 F bJ bU bV bW F H5.length 0 s11 s12 (s12.n:Int) 0 r10.2
noncomputable def aQ.tw (F:Nat) (aa:Sl) (ab:Int) (af:Sl) (bf:Sl) (H:Hp):OA:=aQ.twX F (aY.tw F) (aH.tw F) (aB.tw F) (ci.tw F) aa ab af bf H
noncomputable def aQ.code:Go.Code:=(Try.f126.body).getD .skip
noncomputable def aQ.lh29 (F:Nat) (bJ:Sl→Hp→OA) (bU:Int→Hp→OA) (bV:Sl→Int→Int→Hp→OA) (bW:Sl→Hp→OA) (ks:List Nat) (n:Nat) (tm:Tm) (H:Hp):OA:=match ks,tm 3,tm 5,tm 13,tm 14,tm 15 with
 | [],(.ptr fc gM),(.sl gN),(.sl ip),(.int .i64 fd),(.int .i64 er)=>aQ.l29 F bJ bU bV bW n fc gM gN ip fd er H
 | _,_,_,_,_,_=>none
theorem aQ.lh29_inv {F:Nat} {bJ:Sl→Hp→OA} {bU:Int→Hp→OA} {bV:Sl→Int→Int→Hp→OA} {bW:Sl→Hp→OA} {ks:List Nat} {n:Nat} {tm:Tm} {H:Hp} {r:AV×Hp} (h:aQ.lh29 F bJ bU bV bW ks n tm H = some r):∃ fc:Nat,∃ gM:Nat,∃ gN:Sl,∃ ip:Sl,∃ fd:Int,∃ er:Int,ks = []∧tm 3 = (.ptr fc gM)∧tm 5 = (.sl gN)∧tm 13 = (.sl ip)∧tm 14 = (.int .i64 fd)∧tm 15 = (.int .i64 er)∧aQ.l29 F bJ bU bV bW n fc gM gN ip fd er H = some r:=by
 unfold aQ.lh29 at h
 split at h
 ·exact ⟨_,_,_,_,_,_,rfl,by assumption,by assumption,by assumption,by assumption,by assumption,h⟩
 ·cases h
noncomputable def aQ.lh (F:Nat) (bJ:Sl→Hp→OA) (bU:Int→Hp→OA) (bV:Sl→Int→Int→Hp→OA) (bW:Sl→Hp→OA) (p:Nat) (ks:List Nat) (n:Nat) (tm:Tm) (H:Hp):OA:=bif p.beq 29 then aQ.lh29 F bJ bU bV bW ks n tm H else (none)
def aQ.pn:Nat→List Nat:=fun i=>(([(5,[9])]:List (Nat×List Nat)).lookup i).getD []
def aQ.tb:Nat→List (List Nat):=fun i=>(([(5,[[],[],[1],[],[3],[],[3,4,5],[3,4,5,6],[3,4,5,6,7],[0,1,2,3,4,5,6,7,8]])]:List (Nat×List (List Nat))).lookup i).getD []
noncomputable def aQ.mk (g:Sl→Int→Sl→Sl→Hp→OA) (args:List AV) (H:Hp):OA:=match args with
 | [(.agg [(.sl aa),(.int .i64 ab)]),(.agg [(.sl af),(.sl bf)])]=>g aa ab af bf H
 | _=>none
noncomputable def aQ.cs (F:Nat) (bJ:Sl→Hp→OA) (bU:Int→Hp→OA) (bV:Sl→Int→Int→Hp→OA) (bW:Sl→Hp→OA):List (FuncId×(List AV→Hp→OA)):=[(117,aY.mk bJ),(116,aH.mk bU),(118,aB.mk bV),(119,ci.mk bW)]
theorem aQ.loops (F:Nat) (bJ:Sl→Hp→OA) (bU:Int→Hp→OA) (bV:Sl→Int→Int→Hp→OA) (bW:Sl→Hp→OA):LoopsOk tabs (mkOrc (aQ.cs F bJ bU bV bW)) aQ.pn (aQ.lh F bJ bU bV bW) F [] 1 aQ.code (fun tm H=>aresults tabs.ty H tm Try.f126.results.toList fun v=>some (v,H)) (fun _ _ _=>none) (fun tm H=>aresults tabs.ty H tm Try.f126.results.toList fun v=>some (v,H)):=by
 refine LoopsOk.seq ?_ ?_
 ·exact loops_none (by kernel_rfl)
 ·refine LoopsOk.seq ?_ ?_
  ·exact loops_none (by kernel_rfl)
  ·refine LoopsOk.seq ?_ ?_
   ·refine LoopsOk.seq ?_ ?_
    ·exact loops_none (by kernel_rfl)
    ·refine LoopsOk.block ?_
     refine LoopsOk.loop (fun tm H=>?_) (fun k29 tm H r h0=>?_) (fun k29=>?_)
     ·refine none_of fun r h0=>?_
      obtain ⟨fc,gM,gN,ip,fd,er,hks,e3,e5,e13,e14,e15,h⟩:=aQ.lh29_inv (show aQ.lh29 F bJ bU bV bW [] 0 tm H = some r from h0)
      cases h
     ·obtain ⟨fc,gM,gN,ip,fd,er,hks,e3,e5,e13,e14,e15,h⟩:=aQ.lh29_inv (show aQ.lh29 F bJ bU bV bW [] (k29 + 1) tm H = some r from h0)
      have q0:(Tm.put tm 3 (.ptr fc gM)) = tm:=by exact Tm.put_same e3
      have q1:(Tm.put (Tm.put tm 3 (.ptr fc gM)) 5 (.sl gN)) = tm:=by rw [q0]; exact Tm.put_same e5
      have q2:(Tm.put (Tm.put (Tm.put tm 3 (.ptr fc gM)) 5 (.sl gN)) 13 (.sl ip)) = tm:=by rw [q1]; exact Tm.put_same e13
      have q3:(Tm.put (Tm.put (Tm.put (Tm.put tm 3 (.ptr fc gM)) 5 (.sl gN)) 13 (.sl ip)) 14 (.int .i64 fd)) = tm:=by rw [q2]; exact Tm.put_same e14
      have q4:(Tm.put (Tm.put (Tm.put (Tm.put (Tm.put tm 3 (.ptr fc gM)) 5 (.sl gN)) 13 (.sl ip)) 14 (.int .i64 fd)) 15 (.int .i64 er)) = tm:=by rw [q3]; exact Tm.put_same e15
      rw [← q4]
      exact Eq.trans (by kernel_rfl) h
     ·exact loops_none (by kernel_rfl)
   ·exact loops_none (by kernel_rfl)
theorem aQ.eqX (F:Nat) (bJ:Sl→Hp→OA) (bU:Int→Hp→OA) (bV:Sl→Int→Int→Hp→OA) (bW:Sl→Hp→OA) (aa:Sl) (ab:Int) (af:Sl) (bf:Sl) (H:Hp):aCode tabs (mkOrc (aQ.cs F bJ bU bV bW)) aQ.pn (aQ.lh F bJ bU bV bW) F [] 1 aQ.code (argTm [(.agg [(.sl aa),(.int .i64 ab)]),(.agg [(.sl af),(.sl bf)])]) H (fun tm H=>aresults tabs.ty H tm Try.f126.results.toList fun v=>some (v,H)) (fun _ _ _=>none) (fun tm H=>aresults tabs.ty H tm Try.f126.results.toList fun v=>some (v,H)) = aQ.twX F bJ bU bV bW aa ab af bf H:=by kernel_rfl
theorem aQ.cs_ok (F:Nat):∀ p ∈ aQ.cs F (aY.tw F) (aH.tw F) (aB.tw F) (ci.tw F),∀ args H v H',p.2 args H = some (v,H')→Go.AE.T Try.prog p.1 args H v H':=by
 intro p hp
 simp only [aQ.cs,List.mem_cons,List.not_mem_nil,or_false] at hp
 rcases hp with rfl | rfl | rfl | rfl
 ·exact fun args H v H' h=>aY.mk_T h
 ·exact fun args H v H' h=>aH.mk_T h
 ·exact fun args H v H' h=>aB.mk_T h
 ·exact fun args H v H' h=>ci.mk_T h
theorem aQ.ok:codeOk aQ.pn Try.f126.ntmps aQ.tb aQ.code = true:=by kernel_rfl
theorem aQ.T {F:Nat} {aa:Sl} {ab:Int} {af:Sl} {bf:Sl} {H:Hp} {v:AV} {H':Hp} (h:aQ.tw F aa ab af bf H = some (v,H')):Go.AE.T Try.prog 126 [(.agg [(.sl aa),(.int .i64 ab)]),(.agg [(.sl af),(.sl bf)])] H v H':=
 Go.AE.T.of (Y:=tabs) (C:=mkOrc (aQ.cs F (aY.tw F) (aH.tw F) (aB.tw F) (ci.tw F))) (PN:=aQ.pn) (LH:=aQ.lh F (aY.tw F) (aH.tw F) (aB.tw F) (ci.tw F)) (F:=F) (TB:=aQ.tb) (fn:=Try.f126) (code:=aQ.code) mixed tabs_ok (mkOrc_ok (aQ.cs_ok F)) Try.func126 (by kernel_rfl) (by kernel_rfl) aQ.ok (Nat.le_of_ble_eq_true (by kernel_rfl)) (aQ.loops F (aY.tw F) (aH.tw F) (aB.tw F) (ci.tw F)) (Eq.trans (aQ.eqX F (aY.tw F) (aH.tw F) (aB.tw F) (ci.tw F) aa ab af bf H) h)
theorem aQ.mk_T {F:Nat} {args:List AV} {H:Hp} {v:AV} {H':Hp} (h:aQ.mk (aQ.tw F) args H = some (v,H')):Go.AE.T Try.prog 126 args H v H':=by
 unfold aQ.mk at h
 split at h
 ·exact aQ.T h
 ·cases h
noncomputable def aI.l61 (F:Nat) :Nat→Sl→Int→Int→Hp→OA
 | 0,_,_,_,_=>none
 | ba + 1,cM,cI,eQ,H13=>(bif (decide (eQ < (cM.n:Int))) then ((Sl.idx cM eQ 1).bind fun p16=>(Hp.ldI H13 .i64 p16.1 p16.2).bind fun n17=>aI.l61 F ba cM (if n17 > cI then n17 else cI) (IntKind.i64.wrap (eQ + 1)) H13) else (some ((.int .i64 cI),H13)))
termination_by structural n=>n
noncomputable def aI.j1 (F:Nat) (zJ:Sl) (H5:Hp):OA:=(Sl.idx zJ 0 1).bind fun p6=>(Hp.ldI H5 .i64 p6.1 p6.2).bind fun n7=>aI.l61 F F zJ n7 1 H5
noncomputable def aI.twX (F:Nat) (aa:Sl) (H:Hp):OA:=(bif (decide ((aa.n:Int) < 1)) then (none) else (aI.j1 F aa H))
noncomputable def aI.tw (F:Nat) (aa:Sl) (H:Hp):OA:=aI.twX F aa H
noncomputable def aI.code:Go.Code:=(Try.f151.body).getD .skip
noncomputable def aI.lh61 (F:Nat) (ks:List Nat) (n:Nat) (tm:Tm) (H:Hp):OA:=match ks,tm 0,tm 3,tm 4 with
 | [],(.sl cM),(.int .i64 cI),(.int .i64 eQ)=>aI.l61 F n cM cI eQ H
 | _,_,_,_=>none
theorem aI.lh61_inv {F:Nat} {ks:List Nat} {n:Nat} {tm:Tm} {H:Hp} {r:AV×Hp} (h:aI.lh61 F ks n tm H = some r):∃ cM:Sl,∃ cI:Int,∃ eQ:Int,ks = []∧tm 0 = (.sl cM)∧tm 3 = (.int .i64 cI)∧tm 4 = (.int .i64 eQ)∧aI.l61 F n cM cI eQ H = some r:=by
 unfold aI.lh61 at h
 split at h
 ·exact ⟨_,_,_,rfl,by assumption,by assumption,by assumption,h⟩
 ·cases h
noncomputable def aI.lh (F:Nat) (p:Nat) (ks:List Nat) (n:Nat) (tm:Tm) (H:Hp):OA:=bif p.beq 61 then aI.lh61 F ks n tm H else (none)
def aI.pn:Nat→List Nat:=fun i=>(([]:List (Nat×List Nat)).lookup i).getD []
def aI.tb:Nat→List (List Nat):=fun i=>(([]:List (Nat×List (List Nat))).lookup i).getD []
noncomputable def aI.mk (g:Sl→Hp→OA) (args:List AV) (H:Hp):OA:=match args with
 | [(.sl aa)]=>g aa H
 | _=>none
noncomputable def aI.cs (F:Nat):List (FuncId×(List AV→Hp→OA)):=[]
theorem aI.loops (F:Nat):LoopsOk tabs (mkOrc (aI.cs F)) aI.pn (aI.lh F) F [] 1 aI.code (fun tm H=>aresults tabs.ty H tm Try.f151.results.toList fun v=>some (v,H)) (fun _ _ _=>none) (fun tm H=>aresults tabs.ty H tm Try.f151.results.toList fun v=>some (v,H)):=by
 refine LoopsOk.seq ?_ ?_
 ·exact loops_none (by kernel_rfl)
 ·refine LoopsOk.seq ?_ ?_
  ·exact loops_none (by kernel_rfl)
  ·refine LoopsOk.seq ?_ ?_
   ·exact loops_none (by kernel_rfl)
   ·refine LoopsOk.seq ?_ ?_
    ·refine LoopsOk.seq ?_ ?_
     ·exact loops_none (by kernel_rfl)
     ·refine LoopsOk.block ?_
      refine LoopsOk.loop (fun tm H=>?_) (fun k61 tm H r h0=>?_) (fun k61=>?_)
      ·refine none_of fun r h0=>?_
       obtain ⟨cM,cI,eQ,hks,e0,e3,e4,h⟩:=aI.lh61_inv (show aI.lh61 F [] 0 tm H = some r from h0)
       cases h
      ·obtain ⟨cM,cI,eQ,hks,e0,e3,e4,h⟩:=aI.lh61_inv (show aI.lh61 F [] (k61 + 1) tm H = some r from h0)
       have q0:(Tm.put tm 0 (.sl cM)) = tm:=by exact Tm.put_same e0
       have q1:(Tm.put (Tm.put tm 0 (.sl cM)) 3 (.int .i64 cI)) = tm:=by rw [q0]; exact Tm.put_same e3
       have q2:(Tm.put (Tm.put (Tm.put tm 0 (.sl cM)) 3 (.int .i64 cI)) 4 (.int .i64 eQ)) = tm:=by rw [q1]; exact Tm.put_same e4
       rw [← q2]
       exact Eq.trans (by kernel_rfl) h
      ·exact loops_none (by kernel_rfl)
    ·exact loops_none (by kernel_rfl)
theorem aI.eqX (F:Nat) (aa:Sl) (H:Hp):aCode tabs (mkOrc (aI.cs F)) aI.pn (aI.lh F) F [] 1 aI.code (argTm [(.sl aa)]) H (fun tm H=>aresults tabs.ty H tm Try.f151.results.toList fun v=>some (v,H)) (fun _ _ _=>none) (fun tm H=>aresults tabs.ty H tm Try.f151.results.toList fun v=>some (v,H)) = aI.twX F aa H:=by kernel_rfl
theorem aI.cs_ok (F:Nat):∀ p ∈ aI.cs F,∀ args H v H',p.2 args H = some (v,H')→Go.AE.T Try.prog p.1 args H v H':=by
 intro p hp
 exact absurd (show p ∈ [] from hp) List.not_mem_nil
theorem aI.ok:codeOk aI.pn Try.f151.ntmps aI.tb aI.code = true:=by kernel_rfl
theorem aI.T {F:Nat} {aa:Sl} {H:Hp} {v:AV} {H':Hp} (h:aI.tw F aa H = some (v,H')):Go.AE.T Try.prog 151 [(.sl aa)] H v H':=
 Go.AE.T.of (Y:=tabs) (C:=mkOrc (aI.cs F)) (PN:=aI.pn) (LH:=aI.lh F) (F:=F) (TB:=aI.tb) (fn:=Try.f151) (code:=aI.code) mixed tabs_ok (mkOrc_ok (aI.cs_ok F)) Try.func151 (by kernel_rfl) (by kernel_rfl) aI.ok (Nat.le_of_ble_eq_true (by kernel_rfl)) (aI.loops F) (Eq.trans (aI.eqX F aa H) h)
theorem aI.mk_T {F:Nat} {args:List AV} {H:Hp} {v:AV} {H':Hp} (h:aI.mk (aI.tw F) args H = some (v,H')):Go.AE.T Try.prog 151 args H v H':=by
 unfold aI.mk at h
 split at h
 ·exact aI.T h
 ·cases h
noncomputable def bk.twX (F:Nat) (iN:Sl→Hp→OA) (aa:Sl) (H:Hp):OA:=(bif ((aa.n:Int) == 0) then (some ((.int .i64 0),H)) else ((iN aa H).bind fun r2=>((r2.1).asI .i64).bind fun n3=>some ((.int .i64 (IntKind.i64.wrap (n3 + 1))),r2.2)))
noncomputable def bk.tw (F:Nat) (aa:Sl) (H:Hp):OA:=bk.twX F (aI.tw F) aa H
noncomputable def bk.code:Go.Code:=(Try.f120.body).getD .skip
noncomputable def bk.lh (F:Nat) (iN:Sl→Hp→OA) (p:Nat) (ks:List Nat) (n:Nat) (tm:Tm) (H:Hp):OA:=none
def bk.pn:Nat→List Nat:=fun i=>(([]:List (Nat×List Nat)).lookup i).getD []
def bk.tb:Nat→List (List Nat):=fun i=>(([]:List (Nat×List (List Nat))).lookup i).getD []
noncomputable def bk.mk (g:Sl→Hp→OA) (args:List AV) (H:Hp):OA:=match args with
 | [(.sl aa)]=>g aa H
 | _=>none
noncomputable def bk.cs (F:Nat) (iN:Sl→Hp→OA):List (FuncId×(List AV→Hp→OA)):=[(151,aI.mk iN)]
theorem bk.loops (F:Nat) (iN:Sl→Hp→OA):LoopsOk tabs (mkOrc (bk.cs F iN)) bk.pn (bk.lh F iN) F [] 1 bk.code (fun tm H=>aresults tabs.ty H tm Try.f120.results.toList fun v=>some (v,H)) (fun _ _ _=>none) (fun tm H=>aresults tabs.ty H tm Try.f120.results.toList fun v=>some (v,H)):=by
 exact loops_none (by kernel_rfl)
theorem bk.eqX (F:Nat) (iN:Sl→Hp→OA) (aa:Sl) (H:Hp):aCode tabs (mkOrc (bk.cs F iN)) bk.pn (bk.lh F iN) F [] 1 bk.code (argTm [(.sl aa)]) H (fun tm H=>aresults tabs.ty H tm Try.f120.results.toList fun v=>some (v,H)) (fun _ _ _=>none) (fun tm H=>aresults tabs.ty H tm Try.f120.results.toList fun v=>some (v,H)) = bk.twX F iN aa H:=by kernel_rfl
theorem bk.cs_ok (F:Nat):∀ p ∈ bk.cs F (aI.tw F),∀ args H v H',p.2 args H = some (v,H')→Go.AE.T Try.prog p.1 args H v H':=by
 intro p hp
 simp only [bk.cs,List.mem_cons,List.not_mem_nil,or_false] at hp
 subst hp
 exact fun args H v H' h=>aI.mk_T h
theorem bk.ok:codeOk bk.pn Try.f120.ntmps bk.tb bk.code = true:=by kernel_rfl
theorem bk.T {F:Nat} {aa:Sl} {H:Hp} {v:AV} {H':Hp} (h:bk.tw F aa H = some (v,H')):Go.AE.T Try.prog 120 [(.sl aa)] H v H':=
 Go.AE.T.of (Y:=tabs) (C:=mkOrc (bk.cs F (aI.tw F))) (PN:=bk.pn) (LH:=bk.lh F (aI.tw F)) (F:=F) (TB:=bk.tb) (fn:=Try.f120) (code:=bk.code) mixed tabs_ok (mkOrc_ok (bk.cs_ok F)) Try.func120 (by kernel_rfl) (by kernel_rfl) bk.ok (Nat.le_of_ble_eq_true (by kernel_rfl)) (bk.loops F (aI.tw F)) (Eq.trans (bk.eqX F (aI.tw F) aa H) h)
theorem bk.mk_T {F:Nat} {args:List AV} {H:Hp} {v:AV} {H':Hp} (h:bk.mk (bk.tw F) args H = some (v,H')):Go.AE.T Try.prog 120 args H v H':=by
 unfold bk.mk at h
 split at h
 ·exact bk.T h
 ·cases h
noncomputable def bm.twX (F:Nat) (bJ:Sl→Hp→OA) (bI:Int→Int→Int→Hp→OA) (iO:Sl→Hp→OA) (iQ:Sl→Int→Hp→OA) (iS:Sl→Int→Sl→Sl→Hp→OA) (bX:Sl→Hp→OA) (iT:Sl→Int→Sl→Sl→Hp→OA) (cw:Sl→Hp→OA) (aa:Sl) (ab:Int) (H:Hp):OA:=(Hp.new H [(.sl aa),(.int .i64 ab)]).bind fun H3=>(Hp.new H3 [.sl ⟨none,0,.ex 0⟩,.sl ⟨none,0,.ex 0⟩]).bind fun H4=>(Hp.ldSl H4 H.length 0).bind fun s5=>(bJ s5 H4).bind fun r6=>((r6.1).asI .i64).bind fun n7=>(bif (decide (n7 > 10)) then ((Hp.st r6.2 H3.length 0 (.sl (⟨none,0,.ex 0⟩:Sl))).bind fun H8=>(Hp.st H8 H3.length (0 + 1) (.sl (⟨none,0,.ex 0⟩:Sl))).bind fun H9=>(Hp.ldSl H9 H3.length 0).bind fun s10=>(Hp.ldSl H9 H3.length (0 + 1)).bind fun s11=>some ((.tup [(.agg [(.sl s10),(.sl s11)]),(.bool false)]),H9)) else ((Hp.ldI r6.2 .i64 H.length 1).bind fun n12=>(bI n12 0 8 r6.2).bind fun r13=>((r13.1).asB).bind fun b14=>(bif (!b14) then ((Hp.st r13.2 H3.length 0 (.sl (⟨none,0,.ex 0⟩:Sl))).bind fun H15=>(Hp.st H15 H3.length (0 + 1) (.sl (⟨none,0,.ex 0⟩:Sl))).bind fun H16=>(Hp.ldSl H16 H3.length 0).bind fun s17=>(Hp.ldSl H16 H3.length (0 + 1)).bind fun s18=>some ((.tup [(.agg [(.sl s17),(.sl s18)]),(.bool false)]),H16)) else ((Hp.ldSl r13.2 H.length 0).bind fun s19=>(iO s19 r13.2).bind fun r20=>((r20.1).asB).bind fun b21=>(bif b21 then ((Hp.st r20.2 H3.length 0 (.sl (⟨none,0,.ex 0⟩:Sl))).bind fun H22=>(Hp.st H22 H3.length (0 + 1) (.sl (⟨none,0,.ex 0⟩:Sl))).bind fun H23=>(Hp.ldSl H23 H3.length 0).bind fun s24=>(Hp.ldSl H23 H3.length (0 + 1)).bind fun s25=>some ((.tup [(.agg [(.sl s24),(.sl s25)]),(.bool false)]),H23)) else ((Hp.ldSl r20.2 H.length 0).bind fun s26=>(Hp.ldI r20.2 .i64 H.length (0 + 1)).bind fun n27=>(iQ s26 n27 r20.2).bind fun r28=>((r28.1).asTup 2).bind fun l29=>(l29[0]?).bind fun v30=>((v30).asAgg 2).bind fun l31=>(l31[0]?).bind fun v32=>((v32).asSl).bind fun s33=>(l31[1]?).bind fun v34=>((v34).asSl).bind fun s35=>(l29[1]?).bind fun v36=>((v36).asB).bind fun b37=>(Hp.new r28.2 [.sl ⟨none,0,.ex 0⟩,.sl ⟨none,0,.ex 0⟩]).bind fun H38=>(Hp.st H38 r28.2.length 0 (.sl s33)).bind fun H39=>(Hp.st H39 r28.2.length (0 + 1) (.sl s35)).bind fun H40=>(bif (!b37) then ((Hp.st H40 H3.length 0 (.sl (⟨none,0,.ex 0⟩:Sl))).bind fun H41=>(Hp.st H41 H3.length (0 + 1) (.sl (⟨none,0,.ex 0⟩:Sl))).bind fun H42=>(Hp.ldSl H42 H3.length 0).bind fun s43=>(Hp.ldSl H42 H3.length (0 + 1)).bind fun s44=>some ((.tup [(.agg [(.sl s43),(.sl s44)]),(.bool false)]),H42)) else ((Hp.ldSl H40 H.length 0).bind fun s45=>(Hp.ldI H40 .i64 H.length (0 + 1)).bind fun n46=>(Hp.ldSl H40 r28.2.length 0).bind fun s47=>(Hp.ldSl H40 r28.2.length (0 + 1)).bind fun s48=>(iS s45 n46 s47 s48 H40).bind fun r49=>((r49.1).asSl).bind fun s50=>(if Cons H40 r49.2 then ((bX s50 r49.2).bind fun r51=>((r51.1).asI .i64).bind fun n52=>(if Cons r49.2 r51.2 then ((Hp.ldSl r51.2 H.length 0).bind fun s53=>(Hp.ldI r51.2 .i64 H.length (0 + 1)).bind fun n54=>(Hp.ldSl r51.2 r28.2.length 0).bind fun s55=>(Hp.ldSl r51.2 r28.2.length (0 + 1)).bind fun s56=>(iT s53 n54 s55 s56 r51.2).bind fun r57=>((r57.1).asSl).bind fun s58=>(cw s58 r57.2).bind fun r59=>((r59.1).asI .i64).bind fun n60=>(bif (n52 != (IntKind.i64.wrap (n7 + (IntKind.i64.wrap (2 * n60))))) then ((Hp.st r59.2 H3.length 0 (.sl (⟨none,0,.ex 0⟩:Sl))).bind fun H61=>(Hp.st H61 H3.length (0 + 1) (.sl (⟨none,0,.ex 0⟩:Sl))).bind fun H62=>(Hp.ldSl H62 H3.length 0).bind fun s63=>(Hp.ldSl H62 H3.length (0 + 1)).bind fun s64=>some ((.tup [(.agg [(.sl s63),(.sl s64)]),(.bool false)]),H62)) else ((Hp.ldSl r59.2 r28.2.length 0).bind fun s65=>(Hp.ldSl r59.2 r28.2.length (0 + 1)).bind fun s66=>(Hp.st r59.2 H3.length 0 (.sl s65)).bind fun H67=>(Hp.st H67 H3.length (0 + 1) (.sl s66)).bind fun H68=>(Hp.ldSl H68 H3.length 0).bind fun s69=>(Hp.ldSl H68 H3.length (0 + 1)).bind fun s70=>some ((.tup [(.agg [(.sl s69),(.sl s70)]),(.bool true)]),H68)))) else none)) else none)))))))))
noncomputable def bm.tw (F:Nat) (aa:Sl) (ab:Int) (H:Hp):OA:=bm.twX F (aY.tw F) (bc.tw F) (bw.tw F) (ay.tw F) (ap.tw F) (bj.tw F) (aQ.tw F) (bk.tw F) aa ab H
noncomputable def bm.code:Go.Code:=(Try.f69.body).getD .skip
noncomputable def bm.lh (F:Nat) (bJ:Sl→Hp→OA) (bI:Int→Int→Int→Hp→OA) (iO:Sl→Hp→OA) (iQ:Sl→Int→Hp→OA) (iS:Sl→Int→Sl→Sl→Hp→OA) (bX:Sl→Hp→OA) (iT:Sl→Int→Sl→Sl→Hp→OA) (cw:Sl→Hp→OA) (p:Nat) (ks:List Nat) (n:Nat) (tm:Tm) (H:Hp):OA:=none
def bm.pn:Nat→List Nat:=fun i=>(([(5,[10,11])]:List (Nat×List Nat)).lookup i).getD []
def bm.tb:Nat→List (List Nat):=fun i=>(([(5,[[],[0],[0,1],[0,1,2],[0,1,2],[0,1,2,3,4],[0,1,2,3,4,5],[0,1,2],[0,1,2],[0,1,2],[0,1,2,3,4,5,6,8,9],[0,1,2,3,4,5,6,8,9,10],[0,1,2,3,4,5,6,8,9,10,11],[0,1,2,3,4,5,6,7,8,9,10,11,12],[0,1,2,3,4,5,6,7,8,9,10,11,12,13],[0,1,2,3,4,5,6,7,8,9,10,11,12,13,14]])]:List (Nat×List (List Nat))).lookup i).getD []
noncomputable def bm.mk (g:Sl→Int→Hp→OA) (args:List AV) (H:Hp):OA:=match args with
 | [(.agg [(.sl aa),(.int .i64 ab)])]=>g aa ab H
 | _=>none
noncomputable def bm.cs (F:Nat) (bJ:Sl→Hp→OA) (bI:Int→Int→Int→Hp→OA) (iO:Sl→Hp→OA) (iQ:Sl→Int→Hp→OA) (iS:Sl→Int→Sl→Sl→Hp→OA) (bX:Sl→Hp→OA) (iT:Sl→Int→Sl→Sl→Hp→OA) (cw:Sl→Hp→OA):List (FuncId×(List AV→Hp→OA)):=[(117,aY.mk bJ),(81,bc.mk bI),(123,bw.mk iO),(125,ay.mk iQ),(103,ap.mk iS),(89,bj.mk bX),(126,aQ.mk iT),(120,bk.mk cw)]
theorem bm.loops (F:Nat) (bJ:Sl→Hp→OA) (bI:Int→Int→Int→Hp→OA) (iO:Sl→Hp→OA) (iQ:Sl→Int→Hp→OA) (iS:Sl→Int→Sl→Sl→Hp→OA) (bX:Sl→Hp→OA) (iT:Sl→Int→Sl→Sl→Hp→OA) (cw:Sl→Hp→OA):LoopsOk tabs (mkOrc (bm.cs F bJ bI iO iQ iS bX iT cw)) bm.pn (bm.lh F bJ bI iO iQ iS bX iT cw) F [] 1 bm.code (fun tm H=>aresults tabs.ty H tm Try.f69.results.toList fun v=>some (v,H)) (fun _ _ _=>none) (fun tm H=>aresults tabs.ty H tm Try.f69.results.toList fun v=>some (v,H)):=by
 exact loops_none (by kernel_rfl)
theorem bm.eqX (F:Nat) (bJ:Sl→Hp→OA) (bI:Int→Int→Int→Hp→OA) (iO:Sl→Hp→OA) (iQ:Sl→Int→Hp→OA) (iS:Sl→Int→Sl→Sl→Hp→OA) (bX:Sl→Hp→OA) (iT:Sl→Int→Sl→Sl→Hp→OA) (cw:Sl→Hp→OA) (aa:Sl) (ab:Int) (H:Hp):aCode tabs (mkOrc (bm.cs F bJ bI iO iQ iS bX iT cw)) bm.pn (bm.lh F bJ bI iO iQ iS bX iT cw) F [] 1 bm.code (argTm [(.agg [(.sl aa),(.int .i64 ab)])]) H (fun tm H=>aresults tabs.ty H tm Try.f69.results.toList fun v=>some (v,H)) (fun _ _ _=>none) (fun tm H=>aresults tabs.ty H tm Try.f69.results.toList fun v=>some (v,H)) = bm.twX F bJ bI iO iQ iS bX iT cw aa ab H:=by kernel_rfl
theorem bm.cs_ok (F:Nat):∀ p ∈ bm.cs F (aY.tw F) (bc.tw F) (bw.tw F) (ay.tw F) (ap.tw F) (bj.tw F) (aQ.tw F) (bk.tw F),∀ args H v H',p.2 args H = some (v,H')→Go.AE.T Try.prog p.1 args H v H':=by
 intro p hp
 simp only [bm.cs,List.mem_cons,List.not_mem_nil,or_false] at hp
 rcases hp with rfl | rfl | rfl | rfl | rfl | rfl | rfl | rfl
 ·exact fun args H v H' h=>aY.mk_T h
 ·exact fun args H v H' h=>bc.mk_T h
 ·exact fun args H v H' h=>bw.mk_T h
 ·exact fun args H v H' h=>ay.mk_T h
 ·exact fun args H v H' h=>ap.mk_T h
 ·exact fun args H v H' h=>bj.mk_T h
 ·exact fun args H v H' h=>aQ.mk_T h
 ·exact fun args H v H' h=>bk.mk_T h
theorem bm.ok:codeOk bm.pn Try.f69.ntmps bm.tb bm.code = true:=by kernel_rfl
theorem bm.T {F:Nat} {aa:Sl} {ab:Int} {H:Hp} {v:AV} {H':Hp} (h:bm.tw F aa ab H = some (v,H')):Go.AE.T Try.prog 69 [(.agg [(.sl aa),(.int .i64 ab)])] H v H':=
 Go.AE.T.of (Y:=tabs) (C:=mkOrc (bm.cs F (aY.tw F) (bc.tw F) (bw.tw F) (ay.tw F) (ap.tw F) (bj.tw F) (aQ.tw F) (bk.tw F))) (PN:=bm.pn) (LH:=bm.lh F (aY.tw F) (bc.tw F) (bw.tw F) (ay.tw F) (ap.tw F) (bj.tw F) (aQ.tw F) (bk.tw F)) (F:=F) (TB:=bm.tb) (fn:=Try.f69) (code:=bm.code) mixed tabs_ok (mkOrc_ok (bm.cs_ok F)) Try.func69 (by kernel_rfl) (by kernel_rfl) bm.ok (Nat.le_of_ble_eq_true (by kernel_rfl)) (bm.loops F (aY.tw F) (bc.tw F) (bw.tw F) (ay.tw F) (ap.tw F) (bj.tw F) (aQ.tw F) (bk.tw F)) (Eq.trans (bm.eqX F (aY.tw F) (bc.tw F) (bw.tw F) (ay.tw F) (ap.tw F) (bj.tw F) (aQ.tw F) (bk.tw F) aa ab H) h)
theorem bm.mk_T {F:Nat} {args:List AV} {H:Hp} {v:AV} {H':Hp} (h:bm.mk (bm.tw F) args H = some (v,H')):Go.AE.T Try.prog 69 args H v H':=by
 unfold bm.mk at h
 split at h
 ·exact bm.T h
 ·cases h
noncomputable def bt.twX (F:Nat) (bG:Int→Int→Int→Int→Int→Hp→OA) (aa:Sl) (ab:Int) (af:Sl) (bf:Sl) (cC:Int) (H:Hp):OA:=(Hp.new H [(.sl aa),(.int .i64 ab)]).bind fun H6=>(Hp.new H6 [(.sl af),(.sl bf)]).bind fun H7=>(Hp.ldSl H7 H6.length 1).bind fun s8=>(Sl.idx s8 cC 2).bind fun p9=>(Hp.ldI H7 .i64 p9.1 p9.2).bind fun n10=>(Hp.ldI H7 .i64 p9.1 (p9.2 + 1)).bind fun n11=>(Hp.new H7 [.int .i64 0,.int .i64 0]).bind fun H12=>(Hp.st H12 H7.length 0 (.int .i64 n10)).bind fun H13=>(Hp.st H13 H7.length (0 + 1) (.int .i64 n11)).bind fun H14=>(Hp.ldSl H14 H.length 0).bind fun s15=>(Hp.ldI H14 .i64 H7.length 0).bind fun n16=>(Sl.idx s15 n16 5).bind fun p17=>(Hp.ldI H14 .i64 p17.1 p17.2).bind fun n18=>(Hp.ldI H14 .i64 p17.1 (p17.2 + 1)).bind fun n19=>(Hp.ldI H14 .i64 p17.1 (p17.2 + 2)).bind fun n20=>(Hp.ldI H14 .i64 p17.1 (p17.2 + 3)).bind fun n21=>(Hp.ldI H14 .i64 p17.1 (p17.2 + 4)).bind fun n22=>(bG n18 n19 n20 n21 n22 H14).bind fun r23=>((r23.1).asAgg 4).bind fun l24=>(l24[0]?).bind fun v25=>((v25).asI .i64).bind fun n26=>(l24[1]?).bind fun v27=>((v27).asI .i64).bind fun n28=>(l24[2]?).bind fun v29=>((v29).asI .i64).bind fun n30=>(l24[3]?).bind fun v31=>((v31).asI .i64).bind fun n32=>(if Cons H14 r23.2 then ((Hp.ldI r23.2 .i64 H7.length 1).bind fun n33=>(if 0 ≤ (Int.tmod (IntKind.i64.wrap (n33 + 2)) 4)∧(Int.tmod (IntKind.i64.wrap (n33 + 2)) 4) < (4:Int) then (([(.int .i64 n26),(.int .i64 n28),(.int .i64 n30),(.int .i64 n32)]:List AV)[((Int.tmod (IntKind.i64.wrap (n33 + 2)) 4):Int).toNat * 1]?).bind fun v34=>((v34).asI .i64).bind fun n35=>some ((.int .i64 n35),r23.2) else none)) else none)
noncomputable def bt.tw (F:Nat) (aa:Sl) (ab:Int) (af:Sl) (bf:Sl) (cC:Int) (H:Hp):OA:=bt.twX F (bd.tw F) aa ab af bf cC H
noncomputable def bt.code:Go.Code:=(Try.f136.body).getD .skip
noncomputable def bt.lh (F:Nat) (bG:Int→Int→Int→Int→Int→Hp→OA) (p:Nat) (ks:List Nat) (n:Nat) (tm:Tm) (H:Hp):OA:=none
def bt.pn:Nat→List Nat:=fun i=>(([(2,[])]:List (Nat×List Nat)).lookup i).getD []
def bt.tb:Nat→List (List Nat):=fun i=>(([(2,[[],[0],[],[2],[0,1,2,3],[0,1,2,3,4],[0,1,2,3,4,5],[],[7],[7,8],[7,8,9],[0,1,2,3,4,5,6,7,8,9,10],[0,1,2,3,4,5,6,7,8,9,10,11]])]:List (Nat×List (List Nat))).lookup i).getD []
noncomputable def bt.mk (g:Sl→Int→Sl→Sl→Int→Hp→OA) (args:List AV) (H:Hp):OA:=match args with
 | [(.agg [(.sl aa),(.int .i64 ab)]),(.agg [(.sl af),(.sl bf)]),(.int .i64 cC)]=>g aa ab af bf cC H
 | _=>none
noncomputable def bt.cs (F:Nat) (bG:Int→Int→Int→Int→Int→Hp→OA):List (FuncId×(List AV→Hp→OA)):=[(155,bd.mk bG)]
theorem bt.loops (F:Nat) (bG:Int→Int→Int→Int→Int→Hp→OA):LoopsOk tabs (mkOrc (bt.cs F bG)) bt.pn (bt.lh F bG) F [] 1 bt.code (fun tm H=>aresults tabs.ty H tm Try.f136.results.toList fun v=>some (v,H)) (fun _ _ _=>none) (fun tm H=>aresults tabs.ty H tm Try.f136.results.toList fun v=>some (v,H)):=by
 exact loops_none (by kernel_rfl)
theorem bt.eqX (F:Nat) (bG:Int→Int→Int→Int→Int→Hp→OA) (aa:Sl) (ab:Int) (af:Sl) (bf:Sl) (cC:Int) (H:Hp):aCode tabs (mkOrc (bt.cs F bG)) bt.pn (bt.lh F bG) F [] 1 bt.code (argTm [(.agg [(.sl aa),(.int .i64 ab)]),(.agg [(.sl af),(.sl bf)]),(.int .i64 cC)]) H (fun tm H=>aresults tabs.ty H tm Try.f136.results.toList fun v=>some (v,H)) (fun _ _ _=>none) (fun tm H=>aresults tabs.ty H tm Try.f136.results.toList fun v=>some (v,H)) = bt.twX F bG aa ab af bf cC H:=by kernel_rfl
theorem bt.cs_ok (F:Nat):∀ p ∈ bt.cs F (bd.tw F),∀ args H v H',p.2 args H = some (v,H')→Go.AE.T Try.prog p.1 args H v H':=by
 intro p hp
 simp only [bt.cs,List.mem_cons,List.not_mem_nil,or_false] at hp
 subst hp
 exact fun args H v H' h=>bd.mk_T h
theorem bt.ok:codeOk bt.pn Try.f136.ntmps bt.tb bt.code = true:=by kernel_rfl
theorem bt.T {F:Nat} {aa:Sl} {ab:Int} {af:Sl} {bf:Sl} {cC:Int} {H:Hp} {v:AV} {H':Hp} (h:bt.tw F aa ab af bf cC H = some (v,H')):Go.AE.T Try.prog 136 [(.agg [(.sl aa),(.int .i64 ab)]),(.agg [(.sl af),(.sl bf)]),(.int .i64 cC)] H v H':=
 Go.AE.T.of (Y:=tabs) (C:=mkOrc (bt.cs F (bd.tw F))) (PN:=bt.pn) (LH:=bt.lh F (bd.tw F)) (F:=F) (TB:=bt.tb) (fn:=Try.f136) (code:=bt.code) mixed tabs_ok (mkOrc_ok (bt.cs_ok F)) Try.func136 (by kernel_rfl) (by kernel_rfl) bt.ok (Nat.le_of_ble_eq_true (by kernel_rfl)) (bt.loops F (bd.tw F)) (Eq.trans (bt.eqX F (bd.tw F) aa ab af bf cC H) h)
theorem bt.mk_T {F:Nat} {args:List AV} {H:Hp} {v:AV} {H':Hp} (h:bt.mk (bt.tw F) args H = some (v,H')):Go.AE.T Try.prog 136 args H v H':=by
 unfold bt.mk at h
 split at h
 ·exact bt.T h
 ·cases h
noncomputable def ak.j4 (F:Nat) (cg:Sl→Int→Sl→Sl→Int→Hp→OA) (C61_:Nat→Nat→Nat→Nat→Sl→Sl→Int→Int→Hp→OA) (rR:Nat) (GS:Nat) (rS:Nat) (GT:Nat) (GU:Sl) (GV:Sl) (na:Int) (nb:Int) (H221:Hp):OA:=C61_ rR GS rS GT GU GV na (IntKind.i64.wrap (nb + 1)) H221
noncomputable def ak.j5 (F:Nat) (cg:Sl→Int→Sl→Sl→Int→Hp→OA) (C61_:Nat→Nat→Nat→Nat→Sl→Sl→Int→Int→Hp→OA) (mP:Nat) (GW:Nat) (rT:Nat) (GX:Nat) (GY:Sl) (GZ:Sl) (nc:Int) (nd:Int) (H201:Hp):OA:=ak.j4 F cg C61_ mP GW rT GX GY GZ nc nd H201
noncomputable def ak.j6 (F:Nat) (cg:Sl→Int→Sl→Sl→Int→Hp→OA) (C61_:Nat→Nat→Nat→Nat→Sl→Sl→Int→Int→Hp→OA) (nE:Nat) (zK:Nat) (nF:Nat) (zL:Nat) (zM:Sl) (zN:Sl) (zO:Sl) (kV:Int) (kW:Int) (H178:Hp):OA:=(bif (decide ((zO.n:Int) > 0)) then ((Hp.new H178 [(.sl zO)]).bind fun H179=>(Sl.row H179 (⟨some (H178.length,0),1,.ex 1⟩:Sl) 1).bind fun xs181=>(Hp.app H179 1 24 zM (⟨some (H178.length,0),1,.ex 1⟩:Sl).n xs181).bind fun a180=>ak.j5 F cg C61_ nE zK nF zL a180.1 zN kV kW a180.2) else (ak.j5 F cg C61_ nE zK nF zL zM zN kV kW H178))
noncomputable def ak.l15725 (F:Nat) (cg:Sl→Int→Sl→Sl→Int→Hp→OA) (C61_:Nat→Nat→Nat→Nat→Sl→Sl→Int→Int→Hp→OA):Nat→Nat→Nat→Nat→Nat→Sl→Sl→Int→Int→Sl→Int→Hp→OA
 | 0,_,_,_,_,_,_,_,_,_,_,_=>none
 | wM + 1,ca,cA,dQ,fD,gx,gj,fe,fE,hQ,dm,H146=>(Sl.idx gj dm 1).bind fun p222=>(Hp.ldB H146 p222.1 p222.2).bind fun b223=>(bif (!b223) then ((Sl.idx gj dm 1).bind fun p224=>(Hp.st H146 p224.1 p224.2 (.bool true)).bind fun H225=>(Hp.new H225 [(.int .i64 dm)]).bind fun H226=>(Sl.row H226 (⟨some (H225.length,0),1,.ex 1⟩:Sl) 1).bind fun xs228=>(Hp.app H226 1 8 hQ (⟨some (H225.length,0),1,.ex 1⟩:Sl).n xs228).bind fun a227=>(Hp.ldSl a227.2 ca cA).bind fun s229=>(Hp.ldI a227.2 .i64 ca (cA + 1)).bind fun n230=>(Hp.ldSl a227.2 dQ fD).bind fun s231=>(Hp.ldSl a227.2 dQ (fD + 1)).bind fun s232=>(cg s229 n230 s231 s232 dm a227.2).bind fun r233=>((r233.1).asI .i64).bind fun n234=>ak.l15725 F cg C61_ wM ca cA dQ fD gx gj fe fE a227.1 n234 r233.2) else (ak.j6 F cg C61_ ca cA dQ fD gx gj hQ fe fE H146))
termination_by structural n=>n
noncomputable def ak.l61 (F:Nat) (cg:Sl→Int→Sl→Sl→Int→Hp→OA) :Nat→Nat→Nat→Nat→Nat→Sl→Sl→Int→Int→Hp→OA
 | 0,_,_,_,_,_,_,_,_,_=>none
 | ba + 1,co,cQ,cu,df,dg,dO,ff,eR,H22=>(bif (decide (eR < ff)) then (ak.l15725 F cg (ak.l61 F cg ba) F co cQ cu df dg dO ff eR (⟨none,0,.ex 0⟩:Sl) eR H22) else (some ((.sl dg),H22)))
termination_by structural n=>n
noncomputable def ak.twX (F:Nat) (cg:Sl→Int→Sl→Sl→Int→Hp→OA) (aa:Sl) (ab:Int) (af:Sl) (bf:Sl) (H:Hp):OA:=(Hp.new H [(.sl aa),(.int .i64 ab)]).bind fun H5=>(Hp.new H5 [(.sl af),(.sl bf)]).bind fun H6=>(Hp.ldSl H6 H5.length 1).bind fun s7=>(Hp.mk H6 [.bool false] 1 (s7.n:Int) (s7.n:Int)).bind fun m8=>ak.l61 F cg F H.length 0 H5.length 0 (⟨none,0,.ex 0⟩:Sl) m8.1 (m8.1.n:Int) 0 m8.2
noncomputable def ak.tw (F:Nat) (aa:Sl) (ab:Int) (af:Sl) (bf:Sl) (H:Hp):OA:=ak.twX F (bt.tw F) aa ab af bf H
noncomputable def ak.code:Go.Code:=(Try.f87.body).getD .skip
noncomputable def ak.lh61 (F:Nat) (cg:Sl→Int→Sl→Sl→Int→Hp→OA) (ks:List Nat) (n:Nat) (tm:Tm) (H:Hp):OA:=match ks,tm 2,tm 3,tm 5,tm 6,tm 15,tm 16 with
 | [],(.ptr co cQ),(.ptr cu df),(.sl dg),(.sl dO),(.int .i64 ff),(.int .i64 eR)=>ak.l61 F cg n co cQ cu df dg dO ff eR H
 | _,_,_,_,_,_,_=>none
theorem ak.lh61_inv {F:Nat} {cg:Sl→Int→Sl→Sl→Int→Hp→OA} {ks:List Nat} {n:Nat} {tm:Tm} {H:Hp} {r:AV×Hp} (h:ak.lh61 F cg ks n tm H = some r):∃ co:Nat,∃ cQ:Nat,∃ cu:Nat,∃ df:Nat,∃ dg:Sl,∃ dO:Sl,∃ ff:Int,∃ eR:Int,ks = []∧tm 2 = (.ptr co cQ)∧tm 3 = (.ptr cu df)∧tm 5 = (.sl dg)∧tm 6 = (.sl dO)∧tm 15 = (.int .i64 ff)∧tm 16 = (.int .i64 eR)∧ak.l61 F cg n co cQ cu df dg dO ff eR H = some r:=by
 unfold ak.lh61 at h
 split at h
 ·exact ⟨_,_,_,_,_,_,_,_,rfl,by assumption,by assumption,by assumption,by assumption,by assumption,by assumption,h⟩
 ·cases h
noncomputable def ak.lh15725 (F:Nat) (cg:Sl→Int→Sl→Sl→Int→Hp→OA) (ks:List Nat) (n:Nat) (tm:Tm) (H:Hp):OA:=match ks,tm 2,tm 3,tm 5,tm 6,tm 8,tm 9,tm 15,tm 16 with
 | [ba],(.ptr ca cA),(.ptr dQ fD),(.sl gx),(.sl gj),(.sl hQ),(.int .i64 dm),(.int .i64 fe),(.int .i64 fE)=>ak.l15725 F cg (ak.l61 F cg ba) n ca cA dQ fD gx gj fe fE hQ dm H
 | _,_,_,_,_,_,_,_,_=>none
theorem ak.lh15725_inv {F:Nat} {cg:Sl→Int→Sl→Sl→Int→Hp→OA} {ks:List Nat} {n:Nat} {tm:Tm} {H:Hp} {r:AV×Hp} (h:ak.lh15725 F cg ks n tm H = some r):∃ ba:Nat,∃ ca:Nat,∃ cA:Nat,∃ dQ:Nat,∃ fD:Nat,∃ gx:Sl,∃ gj:Sl,∃ hQ:Sl,∃ dm:Int,∃ fe:Int,∃ fE:Int,ks = [ba]∧tm 2 = (.ptr ca cA)∧tm 3 = (.ptr dQ fD)∧tm 5 = (.sl gx)∧tm 6 = (.sl gj)∧tm 8 = (.sl hQ)∧tm 9 = (.int .i64 dm)∧tm 15 = (.int .i64 fe)∧tm 16 = (.int .i64 fE)∧ak.l15725 F cg (ak.l61 F cg ba) n ca cA dQ fD gx gj fe fE hQ dm H = some r:=by
 unfold ak.lh15725 at h
 split at h
 ·exact ⟨_,_,_,_,_,_,_,_,_,_,_,rfl,by assumption,by assumption,by assumption,by assumption,by assumption,by assumption,by assumption,by assumption,h⟩
 ·cases h
noncomputable def ak.lh (F:Nat) (cg:Sl→Int→Sl→Sl→Int→Hp→OA) (p:Nat) (ks:List Nat) (n:Nat) (tm:Tm) (H:Hp):OA:=bif p.beq 15725 then ak.lh15725 F cg ks n tm H else (bif p.beq 61 then ak.lh61 F cg ks n tm H else (none))
def ak.pn:Nat→List Nat:=fun i=>(([]:List (Nat×List Nat)).lookup i).getD []
def ak.tb:Nat→List (List Nat):=fun i=>(([]:List (Nat×List (List Nat))).lookup i).getD []
noncomputable def ak.mk (g:Sl→Int→Sl→Sl→Hp→OA) (args:List AV) (H:Hp):OA:=match args with
 | [(.agg [(.sl aa),(.int .i64 ab)]),(.agg [(.sl af),(.sl bf)])]=>g aa ab af bf H
 | _=>none
noncomputable def ak.cs (F:Nat) (cg:Sl→Int→Sl→Sl→Int→Hp→OA):List (FuncId×(List AV→Hp→OA)):=[(136,bt.mk cg)]
theorem ak.loops (F:Nat) (cg:Sl→Int→Sl→Sl→Int→Hp→OA):LoopsOk tabs (mkOrc (ak.cs F cg)) ak.pn (ak.lh F cg) F [] 1 ak.code (fun tm H=>aresults tabs.ty H tm Try.f87.results.toList fun v=>some (v,H)) (fun _ _ _=>none) (fun tm H=>aresults tabs.ty H tm Try.f87.results.toList fun v=>some (v,H)):=by
 refine LoopsOk.seq ?_ ?_
 ·exact loops_none (by kernel_rfl)
 ·refine LoopsOk.seq ?_ ?_
  ·exact loops_none (by kernel_rfl)
  ·refine LoopsOk.seq ?_ ?_
   ·exact loops_none (by kernel_rfl)
   ·refine LoopsOk.seq ?_ ?_
    ·refine LoopsOk.seq ?_ ?_
     ·exact loops_none (by kernel_rfl)
     ·refine LoopsOk.block ?_
      refine LoopsOk.loop (fun tm H=>?_) (fun k61 tm H r h0=>?_) (fun k61=>?_)
      ·refine none_of fun r h0=>?_
       obtain ⟨co,cQ,cu,df,dg,dO,ff,eR,hks,e2,e3,e5,e6,e15,e16,h⟩:=ak.lh61_inv (show ak.lh61 F cg [] 0 tm H = some r from h0)
       cases h
      ·obtain ⟨co,cQ,cu,df,dg,dO,ff,eR,hks,e2,e3,e5,e6,e15,e16,h⟩:=ak.lh61_inv (show ak.lh61 F cg [] (k61 + 1) tm H = some r from h0)
       have q0:(Tm.put tm 2 (.ptr co cQ)) = tm:=by exact Tm.put_same e2
       have q1:(Tm.put (Tm.put tm 2 (.ptr co cQ)) 3 (.ptr cu df)) = tm:=by rw [q0]; exact Tm.put_same e3
       have q2:(Tm.put (Tm.put (Tm.put tm 2 (.ptr co cQ)) 3 (.ptr cu df)) 5 (.sl dg)) = tm:=by rw [q1]; exact Tm.put_same e5
       have q3:(Tm.put (Tm.put (Tm.put (Tm.put tm 2 (.ptr co cQ)) 3 (.ptr cu df)) 5 (.sl dg)) 6 (.sl dO)) = tm:=by rw [q2]; exact Tm.put_same e6
       have q4:(Tm.put (Tm.put (Tm.put (Tm.put (Tm.put tm 2 (.ptr co cQ)) 3 (.ptr cu df)) 5 (.sl dg)) 6 (.sl dO)) 15 (.int .i64 ff)) = tm:=by rw [q3]; exact Tm.put_same e15
       have q5:(Tm.put (Tm.put (Tm.put (Tm.put (Tm.put (Tm.put tm 2 (.ptr co cQ)) 3 (.ptr cu df)) 5 (.sl dg)) 6 (.sl dO)) 15 (.int .i64 ff)) 16 (.int .i64 eR)) = tm:=by rw [q4]; exact Tm.put_same e16
       rw [← q5]
       exact Eq.trans (by kernel_rfl) h
      ·refine LoopsOk.seq ?_ ?_
       ·exact loops_none (by kernel_rfl)
       ·refine LoopsOk.seq ?_ ?_
        ·exact loops_none (by kernel_rfl)
        ·refine LoopsOk.seq ?_ ?_
         ·refine LoopsOk.block ?_
          refine LoopsOk.seq ?_ ?_
          ·exact loops_none (by kernel_rfl)
          ·refine LoopsOk.seq ?_ ?_
           ·exact loops_none (by kernel_rfl)
           ·refine LoopsOk.seq ?_ ?_
            ·refine LoopsOk.seq ?_ ?_
             ·exact loops_none (by kernel_rfl)
             ·refine LoopsOk.block ?_
              refine LoopsOk.loop (fun tm H=>?_) (fun k15725 tm H r h0=>?_) (fun k15725=>?_)
              ·refine none_of fun r h0=>?_
               obtain ⟨ba,ca,cA,dQ,fD,gx,gj,hQ,dm,fe,fE,hks,e2,e3,e5,e6,e8,e9,e15,e16,h⟩:=ak.lh15725_inv (show ak.lh15725 F cg [k61] 0 tm H = some r from h0)
               cases h
              ·obtain ⟨ba,ca,cA,dQ,fD,gx,gj,hQ,dm,fe,fE,hks,e2,e3,e5,e6,e8,e9,e15,e16,h⟩:=ak.lh15725_inv (show ak.lh15725 F cg [k61] (k15725 + 1) tm H = some r from h0)
               obtain rfl:ba = k61:=by simpa [eq_comm] using hks
               have q0:(Tm.put tm 2 (.ptr ca cA)) = tm:=by exact Tm.put_same e2
               have q1:(Tm.put (Tm.put tm 2 (.ptr ca cA)) 3 (.ptr dQ fD)) = tm:=by rw [q0]; exact Tm.put_same e3
               have q2:(Tm.put (Tm.put (Tm.put tm 2 (.ptr ca cA)) 3 (.ptr dQ fD)) 5 (.sl gx)) = tm:=by rw [q1]; exact Tm.put_same e5
               have q3:(Tm.put (Tm.put (Tm.put (Tm.put tm 2 (.ptr ca cA)) 3 (.ptr dQ fD)) 5 (.sl gx)) 6 (.sl gj)) = tm:=by rw [q2]; exact Tm.put_same e6
               have q4:(Tm.put (Tm.put (Tm.put (Tm.put (Tm.put tm 2 (.ptr ca cA)) 3 (.ptr dQ fD)) 5 (.sl gx)) 6 (.sl gj)) 8 (.sl hQ)) = tm:=by rw [q3]; exact Tm.put_same e8
               have q5:(Tm.put (Tm.put (Tm.put (Tm.put (Tm.put (Tm.put tm 2 (.ptr ca cA)) 3 (.ptr dQ fD)) 5 (.sl gx)) 6 (.sl gj)) 8 (.sl hQ)) 9 (.int .i64 dm)) = tm:=by rw [q4]; exact Tm.put_same e9
               have q6:(Tm.put (Tm.put (Tm.put (Tm.put (Tm.put (Tm.put (Tm.put tm 2 (.ptr ca cA)) 3 (.ptr dQ fD)) 5 (.sl gx)) 6 (.sl gj)) 8 (.sl hQ)) 9 (.int .i64 dm)) 15 (.int .i64 fe)) = tm:=by rw [q5]; exact Tm.put_same e15
               have q7:(Tm.put (Tm.put (Tm.put (Tm.put (Tm.put (Tm.put (Tm.put (Tm.put tm 2 (.ptr ca cA)) 3 (.ptr dQ fD)) 5 (.sl gx)) 6 (.sl gj)) 8 (.sl hQ)) 9 (.int .i64 dm)) 15 (.int .i64 fe)) 16 (.int .i64 fE)) = tm:=by rw [q6]; exact Tm.put_same e16
               rw [← q7]
               exact Eq.trans (by kernel_rfl) h
              ·exact loops_none (by kernel_rfl)
            ·exact loops_none (by kernel_rfl)
         ·exact loops_none (by kernel_rfl)
    ·exact loops_none (by kernel_rfl)
theorem ak.eqX (F:Nat) (cg:Sl→Int→Sl→Sl→Int→Hp→OA) (aa:Sl) (ab:Int) (af:Sl) (bf:Sl) (H:Hp):aCode tabs (mkOrc (ak.cs F cg)) ak.pn (ak.lh F cg) F [] 1 ak.code (argTm [(.agg [(.sl aa),(.int .i64 ab)]),(.agg [(.sl af),(.sl bf)])]) H (fun tm H=>aresults tabs.ty H tm Try.f87.results.toList fun v=>some (v,H)) (fun _ _ _=>none) (fun tm H=>aresults tabs.ty H tm Try.f87.results.toList fun v=>some (v,H)) = ak.twX F cg aa ab af bf H:=by kernel_rfl
theorem ak.cs_ok (F:Nat):∀ p ∈ ak.cs F (bt.tw F),∀ args H v H',p.2 args H = some (v,H')→Go.AE.T Try.prog p.1 args H v H':=by
 intro p hp
 simp only [ak.cs,List.mem_cons,List.not_mem_nil,or_false] at hp
 subst hp
 exact fun args H v H' h=>bt.mk_T h
theorem ak.ok:codeOk ak.pn Try.f87.ntmps ak.tb ak.code = true:=by kernel_rfl
theorem ak.T {F:Nat} {aa:Sl} {ab:Int} {af:Sl} {bf:Sl} {H:Hp} {v:AV} {H':Hp} (h:ak.tw F aa ab af bf H = some (v,H')):Go.AE.T Try.prog 87 [(.agg [(.sl aa),(.int .i64 ab)]),(.agg [(.sl af),(.sl bf)])] H v H':=
 Go.AE.T.of (Y:=tabs) (C:=mkOrc (ak.cs F (bt.tw F))) (PN:=ak.pn) (LH:=ak.lh F (bt.tw F)) (F:=F) (TB:=ak.tb) (fn:=Try.f87) (code:=ak.code) mixed tabs_ok (mkOrc_ok (ak.cs_ok F)) Try.func87 (by kernel_rfl) (by kernel_rfl) ak.ok (Nat.le_of_ble_eq_true (by kernel_rfl)) (ak.loops F (bt.tw F)) (Eq.trans (ak.eqX F (bt.tw F) aa ab af bf H) h)
theorem ak.mk_T {F:Nat} {args:List AV} {H:Hp} {v:AV} {H':Hp} (h:ak.mk (ak.tw F) args H = some (v,H')):Go.AE.T Try.prog 87 args H v H':=by
 unfold ak.mk at h
 split at h
 ·exact ak.T h
 ·cases h
noncomputable def ar.j3 (F:Nat) (C29_:Sl→Sl→Int→Int→Hp→OA) (G_:Sl) (Ha:Sl) (ng:Int) (nh:Int) (H115:Hp):OA:=C29_ G_ Ha ng (IntKind.i64.wrap (nh + 1)) H115
noncomputable def ar.j4 (F:Nat) (C29_:Sl→Sl→Int→Int→Hp→OA) (Hb:Sl) (Hc:Sl) (ni:Int) (nj:Int) (H100:Hp):OA:=ar.j3 F C29_ Hb Hc ni nj H100
noncomputable def ar.l1883 (F:Nat) (C29_:Sl→Sl→Int→Int→Hp→OA):Nat→Sl→Sl→Int→Int→Int→Sl→Int→Int→Hp→OA
 | 0,_,_,_,_,_,_,_,_,_=>none
 | Hd + 1,fF,gy,es,eH,dG,iq,fg,eS,H81=>(bif (decide (eS < fg)) then ((Sl.idx iq eS 1).bind fun p116=>(Hp.ldI H81 .i64 p116.1 p116.2).bind fun n117=>(Sl.idx fF n117 1).bind fun p118=>(Hp.st H81 p118.1 p118.2 (.int .i64 dG)).bind fun H119=>ar.l1883 F C29_ Hd fF gy es eH dG iq fg (IntKind.i64.wrap (eS + 1)) H119) else (ar.j4 F C29_ fF gy es eH H81))
termination_by structural n=>n
noncomputable def ar.l29 (F:Nat) :Nat→Sl→Sl→Int→Int→Hp→OA
 | 0,_,_,_,_,_=>none
 | dr + 1,bK,ir,fh,et,H11=>(bif (decide (et < fh)) then ((Sl.idx ir et 1).bind fun p66=>(Hp.ldSl H11 p66.1 p66.2).bind fun s67=>ar.l1883 F (ar.l29 F dr) F bK ir fh et et s67 (s67.n:Int) 0 H11) else (some ((.sl bK),H11)))
termination_by structural n=>n
noncomputable def ar.twX (F:Nat) (aa:Sl) (ae:Int) (H:Hp):OA:=(Hp.mk H [.int .i64 0] 8 ae ae).bind fun m3=>ar.l29 F F m3.1 aa (aa.n:Int) 0 m3.2
noncomputable def ar.tw (F:Nat) (aa:Sl) (ae:Int) (H:Hp):OA:=ar.twX F aa ae H
noncomputable def ar.code:Go.Code:=(Try.f88.body).getD .skip
noncomputable def ar.lh29 (F:Nat) (ks:List Nat) (n:Nat) (tm:Tm) (H:Hp):OA:=match ks,tm 5,tm 12,tm 13,tm 14 with
 | [],(.sl bK),(.sl ir),(.int .i64 fh),(.int .i64 et)=>ar.l29 F n bK ir fh et H
 | _,_,_,_,_=>none
theorem ar.lh29_inv {F:Nat} {ks:List Nat} {n:Nat} {tm:Tm} {H:Hp} {r:AV×Hp} (h:ar.lh29 F ks n tm H = some r):∃ bK:Sl,∃ ir:Sl,∃ fh:Int,∃ et:Int,ks = []∧tm 5 = (.sl bK)∧tm 12 = (.sl ir)∧tm 13 = (.int .i64 fh)∧tm 14 = (.int .i64 et)∧ar.l29 F n bK ir fh et H = some r:=by
 unfold ar.lh29 at h
 split at h
 ·exact ⟨_,_,_,_,rfl,by assumption,by assumption,by assumption,by assumption,h⟩
 ·cases h
noncomputable def ar.lh1883 (F:Nat) (ks:List Nat) (n:Nat) (tm:Tm) (H:Hp):OA:=match ks,tm 5,tm 6,tm 12,tm 13,tm 14,tm 19,tm 20,tm 21 with
 | [dr],(.sl fF),(.int .i64 dG),(.sl gy),(.int .i64 es),(.int .i64 eH),(.sl iq),(.int .i64 fg),(.int .i64 eS)=>ar.l1883 F (ar.l29 F dr) n fF gy es eH dG iq fg eS H
 | _,_,_,_,_,_,_,_,_=>none
theorem ar.lh1883_inv {F:Nat} {ks:List Nat} {n:Nat} {tm:Tm} {H:Hp} {r:AV×Hp} (h:ar.lh1883 F ks n tm H = some r):∃ dr:Nat,∃ fF:Sl,∃ dG:Int,∃ gy:Sl,∃ es:Int,∃ eH:Int,∃ iq:Sl,∃ fg:Int,∃ eS:Int,ks = [dr]∧tm 5 = (.sl fF)∧tm 6 = (.int .i64 dG)∧tm 12 = (.sl gy)∧tm 13 = (.int .i64 es)∧tm 14 = (.int .i64 eH)∧tm 19 = (.sl iq)∧tm 20 = (.int .i64 fg)∧tm 21 = (.int .i64 eS)∧ar.l1883 F (ar.l29 F dr) n fF gy es eH dG iq fg eS H = some r:=by
 unfold ar.lh1883 at h
 split at h
 ·exact ⟨_,_,_,_,_,_,_,_,_,rfl,by assumption,by assumption,by assumption,by assumption,by assumption,by assumption,by assumption,by assumption,h⟩
 ·cases h
noncomputable def ar.lh (F:Nat) (p:Nat) (ks:List Nat) (n:Nat) (tm:Tm) (H:Hp):OA:=bif p.beq 1883 then ar.lh1883 F ks n tm H else (bif p.beq 29 then ar.lh29 F ks n tm H else (none))
def ar.pn:Nat→List Nat:=fun i=>(([]:List (Nat×List Nat)).lookup i).getD []
def ar.tb:Nat→List (List Nat):=fun i=>(([]:List (Nat×List (List Nat))).lookup i).getD []
noncomputable def ar.mk (g:Sl→Int→Hp→OA) (args:List AV) (H:Hp):OA:=match args with
 | [(.sl aa),(.int .i64 ae)]=>g aa ae H
 | _=>none
noncomputable def ar.cs (F:Nat):List (FuncId×(List AV→Hp→OA)):=[]
theorem ar.loops (F:Nat):LoopsOk tabs (mkOrc (ar.cs F)) ar.pn (ar.lh F) F [] 1 ar.code (fun tm H=>aresults tabs.ty H tm Try.f88.results.toList fun v=>some (v,H)) (fun _ _ _=>none) (fun tm H=>aresults tabs.ty H tm Try.f88.results.toList fun v=>some (v,H)):=by
 refine LoopsOk.seq ?_ ?_
 ·exact loops_none (by kernel_rfl)
 ·refine LoopsOk.seq ?_ ?_
  ·exact loops_none (by kernel_rfl)
  ·refine LoopsOk.seq ?_ ?_
   ·refine LoopsOk.seq ?_ ?_
    ·exact loops_none (by kernel_rfl)
    ·refine LoopsOk.block ?_
     refine LoopsOk.loop (fun tm H=>?_) (fun k29 tm H r h0=>?_) (fun k29=>?_)
     ·refine none_of fun r h0=>?_
      obtain ⟨bK,ir,fh,et,hks,e5,e12,e13,e14,h⟩:=ar.lh29_inv (show ar.lh29 F [] 0 tm H = some r from h0)
      cases h
     ·obtain ⟨bK,ir,fh,et,hks,e5,e12,e13,e14,h⟩:=ar.lh29_inv (show ar.lh29 F [] (k29 + 1) tm H = some r from h0)
      have q0:(Tm.put tm 5 (.sl bK)) = tm:=by exact Tm.put_same e5
      have q1:(Tm.put (Tm.put tm 5 (.sl bK)) 12 (.sl ir)) = tm:=by rw [q0]; exact Tm.put_same e12
      have q2:(Tm.put (Tm.put (Tm.put tm 5 (.sl bK)) 12 (.sl ir)) 13 (.int .i64 fh)) = tm:=by rw [q1]; exact Tm.put_same e13
      have q3:(Tm.put (Tm.put (Tm.put (Tm.put tm 5 (.sl bK)) 12 (.sl ir)) 13 (.int .i64 fh)) 14 (.int .i64 et)) = tm:=by rw [q2]; exact Tm.put_same e14
      rw [← q3]
      exact Eq.trans (by kernel_rfl) h
     ·refine LoopsOk.seq ?_ ?_
      ·exact loops_none (by kernel_rfl)
      ·refine LoopsOk.seq ?_ ?_
       ·exact loops_none (by kernel_rfl)
       ·refine LoopsOk.seq ?_ ?_
        ·refine LoopsOk.block ?_
         refine LoopsOk.seq ?_ ?_
         ·exact loops_none (by kernel_rfl)
         ·refine LoopsOk.seq ?_ ?_
          ·exact loops_none (by kernel_rfl)
          ·refine LoopsOk.block ?_
           refine LoopsOk.loop (fun tm H=>?_) (fun k1883 tm H r h0=>?_) (fun k1883=>?_)
           ·refine none_of fun r h0=>?_
            obtain ⟨dr,fF,dG,gy,es,eH,iq,fg,eS,hks,e5,e6,e12,e13,e14,e19,e20,e21,h⟩:=ar.lh1883_inv (show ar.lh1883 F [k29] 0 tm H = some r from h0)
            cases h
           ·obtain ⟨dr,fF,dG,gy,es,eH,iq,fg,eS,hks,e5,e6,e12,e13,e14,e19,e20,e21,h⟩:=ar.lh1883_inv (show ar.lh1883 F [k29] (k1883 + 1) tm H = some r from h0)
            obtain rfl:dr = k29:=by simpa [eq_comm] using hks
            have q0:(Tm.put tm 5 (.sl fF)) = tm:=by exact Tm.put_same e5
            have q1:(Tm.put (Tm.put tm 5 (.sl fF)) 6 (.int .i64 dG)) = tm:=by rw [q0]; exact Tm.put_same e6
            have q2:(Tm.put (Tm.put (Tm.put tm 5 (.sl fF)) 6 (.int .i64 dG)) 12 (.sl gy)) = tm:=by rw [q1]; exact Tm.put_same e12
            have q3:(Tm.put (Tm.put (Tm.put (Tm.put tm 5 (.sl fF)) 6 (.int .i64 dG)) 12 (.sl gy)) 13 (.int .i64 es)) = tm:=by rw [q2]; exact Tm.put_same e13
            have q4:(Tm.put (Tm.put (Tm.put (Tm.put (Tm.put tm 5 (.sl fF)) 6 (.int .i64 dG)) 12 (.sl gy)) 13 (.int .i64 es)) 14 (.int .i64 eH)) = tm:=by rw [q3]; exact Tm.put_same e14
            have q5:(Tm.put (Tm.put (Tm.put (Tm.put (Tm.put (Tm.put tm 5 (.sl fF)) 6 (.int .i64 dG)) 12 (.sl gy)) 13 (.int .i64 es)) 14 (.int .i64 eH)) 19 (.sl iq)) = tm:=by rw [q4]; exact Tm.put_same e19
            have q6:(Tm.put (Tm.put (Tm.put (Tm.put (Tm.put (Tm.put (Tm.put tm 5 (.sl fF)) 6 (.int .i64 dG)) 12 (.sl gy)) 13 (.int .i64 es)) 14 (.int .i64 eH)) 19 (.sl iq)) 20 (.int .i64 fg)) = tm:=by rw [q5]; exact Tm.put_same e20
            have q7:(Tm.put (Tm.put (Tm.put (Tm.put (Tm.put (Tm.put (Tm.put (Tm.put tm 5 (.sl fF)) 6 (.int .i64 dG)) 12 (.sl gy)) 13 (.int .i64 es)) 14 (.int .i64 eH)) 19 (.sl iq)) 20 (.int .i64 fg)) 21 (.int .i64 eS)) = tm:=by rw [q6]; exact Tm.put_same e21
            rw [← q7]
            exact Eq.trans (by kernel_rfl) h
           ·exact loops_none (by kernel_rfl)
        ·exact loops_none (by kernel_rfl)
   ·exact loops_none (by kernel_rfl)
theorem ar.eqX (F:Nat) (aa:Sl) (ae:Int) (H:Hp):aCode tabs (mkOrc (ar.cs F)) ar.pn (ar.lh F) F [] 1 ar.code (argTm [(.sl aa),(.int .i64 ae)]) H (fun tm H=>aresults tabs.ty H tm Try.f88.results.toList fun v=>some (v,H)) (fun _ _ _=>none) (fun tm H=>aresults tabs.ty H tm Try.f88.results.toList fun v=>some (v,H)) = ar.twX F aa ae H:=by kernel_rfl
theorem ar.cs_ok (F:Nat):∀ p ∈ ar.cs F,∀ args H v H',p.2 args H = some (v,H')→Go.AE.T Try.prog p.1 args H v H':=by
 intro p hp
 exact absurd (show p ∈ [] from hp) List.not_mem_nil
theorem ar.ok:codeOk ar.pn Try.f88.ntmps ar.tb ar.code = true:=by kernel_rfl
theorem ar.T {F:Nat} {aa:Sl} {ae:Int} {H:Hp} {v:AV} {H':Hp} (h:ar.tw F aa ae H = some (v,H')):Go.AE.T Try.prog 88 [(.sl aa),(.int .i64 ae)] H v H':=
 Go.AE.T.of (Y:=tabs) (C:=mkOrc (ar.cs F)) (PN:=ar.pn) (LH:=ar.lh F) (F:=F) (TB:=ar.tb) (fn:=Try.f88) (code:=ar.code) mixed tabs_ok (mkOrc_ok (ar.cs_ok F)) Try.func88 (by kernel_rfl) (by kernel_rfl) ar.ok (Nat.le_of_ble_eq_true (by kernel_rfl)) (ar.loops F) (Eq.trans (ar.eqX F aa ae H) h)
theorem ar.mk_T {F:Nat} {args:List AV} {H:Hp} {v:AV} {H':Hp} (h:ar.mk (ar.tw F) args H = some (v,H')):Go.AE.T Try.prog 88 args H v H':=by
 unfold ar.mk at h
 split at h
 ·exact ar.T h
 ·cases h
noncomputable def aF.j1 (F:Nat) (bJ:Sl→Hp→OA) (bU:Int→Hp→OA) (bV:Sl→Int→Int→Hp→OA) (bW:Sl→Hp→OA) (cw:Sl→Hp→OA) (rU:Nat) (He:Nat) (Hf:Sl) (H47:Hp):OA:=(bW Hf H47).bind fun r48=>((r48.1).asSl).bind fun s49=>(cw s49 r48.2).bind fun r50=>((r50.1).asI .i64).bind fun n51=>(if Cons r48.2 r50.2 then ((Hp.ldI r50.2 .i64 rU (He + 1)).bind fun n52=>some ((.tup [(.sl s49),(.int .i64 (IntKind.i64.wrap (n51 + n52)))]),r50.2)) else none)
noncomputable def aF.l29 (F:Nat) (bJ:Sl→Hp→OA) (bU:Int→Hp→OA) (bV:Sl→Int→Int→Hp→OA) (bW:Sl→Hp→OA) (cw:Sl→Hp→OA) :Nat→Nat→Nat→Sl→Sl→Int→Int→Hp→OA
 | 0,_,_,_,_,_,_,_=>none
 | dr + 1,fi,gO,gP,iu,fj,eT,H20=>(bif (decide (eT < fj)) then ((Sl.idx iu eT 5).bind fun p53=>(Hp.ldI H20 .i64 p53.1 p53.2).bind fun n54=>(Hp.ldI H20 .i64 p53.1 (p53.2 + 1)).bind fun n55=>(Hp.ldI H20 .i64 p53.1 (p53.2 + 2)).bind fun n56=>(Hp.ldI H20 .i64 p53.1 (p53.2 + 3)).bind fun n57=>(Hp.ldI H20 .i64 p53.1 (p53.2 + 4)).bind fun n58=>(Hp.new H20 [.int .i64 0,.int .i64 0,.int .i64 0,.int .i64 0,.int .i64 0]).bind fun H59=>(Hp.st H59 H20.length 0 (.int .i64 n54)).bind fun H60=>(Hp.st H60 H20.length (0 + 1) (.int .i64 n55)).bind fun H61=>(Hp.st H61 H20.length (0 + 1 + 1) (.int .i64 n56)).bind fun H62=>(Hp.st H62 H20.length (0 + 1 + 1 + 1) (.int .i64 n57)).bind fun H63=>(Hp.st H63 H20.length (0 + 1 + 1 + 1 + 1) (.int .i64 n58)).bind fun H64=>(Hp.ldI H64 .i64 H20.length 1).bind fun n65=>(Hp.ldI H64 .i64 H20.length 3).bind fun n66=>(bV gP n65 n66 H64).bind fun r67=>aF.l29 F bJ bU bV bW cw dr fi gO gP iu fj (IntKind.i64.wrap (eT + 1)) r67.2) else (aF.j1 F bJ bU bV bW cw fi gO gP H20))
termination_by structural n=>n
noncomputable def aF.twX (F:Nat) (bJ:Sl→Hp→OA) (bU:Int→Hp→OA) (bV:Sl→Int→Int→Hp→OA) (bW:Sl→Hp→OA) (cw:Sl→Hp→OA) (aa:Sl) (ab:Int) (H:Hp):OA:=(Hp.new H [(.sl aa),(.int .i64 ab)]).bind fun H3=>(Hp.ldSl H3 H.length 0).bind fun s4=>(bJ s4 H3).bind fun r5=>((r5.1).asI .i64).bind fun n6=>(bU (IntKind.i64.wrap (2 * n6)) r5.2).bind fun r7=>((r7.1).asSl).bind fun s8=>(Hp.ldSl r7.2 H.length 0).bind fun s9=>aF.l29 F bJ bU bV bW cw F H.length 0 s8 s9 (s9.n:Int) 0 r7.2
noncomputable def aF.tw (F:Nat) (aa:Sl) (ab:Int) (H:Hp):OA:=aF.twX F (aY.tw F) (aH.tw F) (aB.tw F) (ci.tw F) (bk.tw F) aa ab H
noncomputable def aF.code:Go.Code:=(Try.f62.body).getD .skip
noncomputable def aF.lh29 (F:Nat) (bJ:Sl→Hp→OA) (bU:Int→Hp→OA) (bV:Sl→Int→Int→Hp→OA) (bW:Sl→Hp→OA) (cw:Sl→Hp→OA) (ks:List Nat) (n:Nat) (tm:Tm) (H:Hp):OA:=match ks,tm 1,tm 4,tm 14,tm 15,tm 16 with
 | [],(.ptr fi gO),(.sl gP),(.sl iu),(.int .i64 fj),(.int .i64 eT)=>aF.l29 F bJ bU bV bW cw n fi gO gP iu fj eT H
 | _,_,_,_,_,_=>none
theorem aF.lh29_inv {F:Nat} {bJ:Sl→Hp→OA} {bU:Int→Hp→OA} {bV:Sl→Int→Int→Hp→OA} {bW:Sl→Hp→OA} {cw:Sl→Hp→OA} {ks:List Nat} {n:Nat} {tm:Tm} {H:Hp} {r:AV×Hp} (h:aF.lh29 F bJ bU bV bW cw ks n tm H = some r):∃ fi:Nat,∃ gO:Nat,∃ gP:Sl,∃ iu:Sl,∃ fj:Int,∃ eT:Int,ks = []∧tm 1 = (.ptr fi gO)∧tm 4 = (.sl gP)∧tm 14 = (.sl iu)∧tm 15 = (.int .i64 fj)∧tm 16 = (.int .i64 eT)∧aF.l29 F bJ bU bV bW cw n fi gO gP iu fj eT H = some r:=by
 unfold aF.lh29 at h
 split at h
 ·exact ⟨_,_,_,_,_,_,rfl,by assumption,by assumption,by assumption,by assumption,by assumption,h⟩
 ·cases h
noncomputable def aF.lh (F:Nat) (bJ:Sl→Hp→OA) (bU:Int→Hp→OA) (bV:Sl→Int→Int→Hp→OA) (bW:Sl→Hp→OA) (cw:Sl→Hp→OA) (p:Nat) (ks:List Nat) (n:Nat) (tm:Tm) (H:Hp):OA:=bif p.beq 29 then aF.lh29 F bJ bU bV bW cw ks n tm H else (none)
def aF.pn:Nat→List Nat:=fun i=>(([(8,[])]:List (Nat×List Nat)).lookup i).getD []
def aF.tb:Nat→List (List Nat):=fun i=>(([(8,[[],[],[1],[],[3],[1,2,3,4],[0,1,2],[0,1,2,3,4,5,6]])]:List (Nat×List (List Nat))).lookup i).getD []
noncomputable def aF.mk (g:Sl→Int→Hp→OA) (args:List AV) (H:Hp):OA:=match args with
 | [(.agg [(.sl aa),(.int .i64 ab)])]=>g aa ab H
 | _=>none
noncomputable def aF.cs (F:Nat) (bJ:Sl→Hp→OA) (bU:Int→Hp→OA) (bV:Sl→Int→Int→Hp→OA) (bW:Sl→Hp→OA) (cw:Sl→Hp→OA):List (FuncId×(List AV→Hp→OA)):=[(117,aY.mk bJ),(116,aH.mk bU),(118,aB.mk bV),(119,ci.mk bW),(120,bk.mk cw)]
theorem aF.loops (F:Nat) (bJ:Sl→Hp→OA) (bU:Int→Hp→OA) (bV:Sl→Int→Int→Hp→OA) (bW:Sl→Hp→OA) (cw:Sl→Hp→OA):LoopsOk tabs (mkOrc (aF.cs F bJ bU bV bW cw)) aF.pn (aF.lh F bJ bU bV bW cw) F [] 1 aF.code (fun tm H=>aresults tabs.ty H tm Try.f62.results.toList fun v=>some (v,H)) (fun _ _ _=>none) (fun tm H=>aresults tabs.ty H tm Try.f62.results.toList fun v=>some (v,H)):=by
 refine LoopsOk.seq ?_ ?_
 ·exact loops_none (by kernel_rfl)
 ·refine LoopsOk.seq ?_ ?_
  ·exact loops_none (by kernel_rfl)
  ·refine LoopsOk.seq ?_ ?_
   ·refine LoopsOk.seq ?_ ?_
    ·exact loops_none (by kernel_rfl)
    ·refine LoopsOk.block ?_
     refine LoopsOk.loop (fun tm H=>?_) (fun k29 tm H r h0=>?_) (fun k29=>?_)
     ·refine none_of fun r h0=>?_
      obtain ⟨fi,gO,gP,iu,fj,eT,hks,e1,e4,e14,e15,e16,h⟩:=aF.lh29_inv (show aF.lh29 F bJ bU bV bW cw [] 0 tm H = some r from h0)
      cases h
     ·obtain ⟨fi,gO,gP,iu,fj,eT,hks,e1,e4,e14,e15,e16,h⟩:=aF.lh29_inv (show aF.lh29 F bJ bU bV bW cw [] (k29 + 1) tm H = some r from h0)
      have q0:(Tm.put tm 1 (.ptr fi gO)) = tm:=by exact Tm.put_same e1
      have q1:(Tm.put (Tm.put tm 1 (.ptr fi gO)) 4 (.sl gP)) = tm:=by rw [q0]; exact Tm.put_same e4
      have q2:(Tm.put (Tm.put (Tm.put tm 1 (.ptr fi gO)) 4 (.sl gP)) 14 (.sl iu)) = tm:=by rw [q1]; exact Tm.put_same e14
      have q3:(Tm.put (Tm.put (Tm.put (Tm.put tm 1 (.ptr fi gO)) 4 (.sl gP)) 14 (.sl iu)) 15 (.int .i64 fj)) = tm:=by rw [q2]; exact Tm.put_same e15
      have q4:(Tm.put (Tm.put (Tm.put (Tm.put (Tm.put tm 1 (.ptr fi gO)) 4 (.sl gP)) 14 (.sl iu)) 15 (.int .i64 fj)) 16 (.int .i64 eT)) = tm:=by rw [q3]; exact Tm.put_same e16
      rw [← q4]
      exact Eq.trans (by kernel_rfl) h
     ·exact loops_none (by kernel_rfl)
   ·exact loops_none (by kernel_rfl)
theorem aF.eqX (F:Nat) (bJ:Sl→Hp→OA) (bU:Int→Hp→OA) (bV:Sl→Int→Int→Hp→OA) (bW:Sl→Hp→OA) (cw:Sl→Hp→OA) (aa:Sl) (ab:Int) (H:Hp):aCode tabs (mkOrc (aF.cs F bJ bU bV bW cw)) aF.pn (aF.lh F bJ bU bV bW cw) F [] 1 aF.code (argTm [(.agg [(.sl aa),(.int .i64 ab)])]) H (fun tm H=>aresults tabs.ty H tm Try.f62.results.toList fun v=>some (v,H)) (fun _ _ _=>none) (fun tm H=>aresults tabs.ty H tm Try.f62.results.toList fun v=>some (v,H)) = aF.twX F bJ bU bV bW cw aa ab H:=by kernel_rfl
theorem aF.cs_ok (F:Nat):∀ p ∈ aF.cs F (aY.tw F) (aH.tw F) (aB.tw F) (ci.tw F) (bk.tw F),∀ args H v H',p.2 args H = some (v,H')→Go.AE.T Try.prog p.1 args H v H':=by
 intro p hp
 simp only [aF.cs,List.mem_cons,List.not_mem_nil,or_false] at hp
 rcases hp with rfl | rfl | rfl | rfl | rfl
 ·exact fun args H v H' h=>aY.mk_T h
 ·exact fun args H v H' h=>aH.mk_T h
 ·exact fun args H v H' h=>aB.mk_T h
 ·exact fun args H v H' h=>ci.mk_T h
 ·exact fun args H v H' h=>bk.mk_T h
theorem aF.ok:codeOk aF.pn Try.f62.ntmps aF.tb aF.code = true:=by kernel_rfl
theorem aF.T {F:Nat} {aa:Sl} {ab:Int} {H:Hp} {v:AV} {H':Hp} (h:aF.tw F aa ab H = some (v,H')):Go.AE.T Try.prog 62 [(.agg [(.sl aa),(.int .i64 ab)])] H v H':=
 Go.AE.T.of (Y:=tabs) (C:=mkOrc (aF.cs F (aY.tw F) (aH.tw F) (aB.tw F) (ci.tw F) (bk.tw F))) (PN:=aF.pn) (LH:=aF.lh F (aY.tw F) (aH.tw F) (aB.tw F) (ci.tw F) (bk.tw F)) (F:=F) (TB:=aF.tb) (fn:=Try.f62) (code:=aF.code) mixed tabs_ok (mkOrc_ok (aF.cs_ok F)) Try.func62 (by kernel_rfl) (by kernel_rfl) aF.ok (Nat.le_of_ble_eq_true (by kernel_rfl)) (aF.loops F (aY.tw F) (aH.tw F) (aB.tw F) (ci.tw F) (bk.tw F)) (Eq.trans (aF.eqX F (aY.tw F) (aH.tw F) (aB.tw F) (ci.tw F) (bk.tw F) aa ab H) h)
theorem aF.mk_T {F:Nat} {args:List AV} {H:Hp} {v:AV} {H':Hp} (h:aF.mk (aF.tw F) args H = some (v,H')):Go.AE.T Try.prog 62 args H v H':=by
 unfold aF.mk at h
 split at h
 ·exact aF.T h
 ·cases h
noncomputable def az.l2045 (F:Nat) (cD:Sl→Int→Hp→OA) (bI:Int→Int→Int→Hp→OA) (cE:Sl→Int→Sl→Sl→Hp→OA) (cF:Sl→Int→Hp→OA) (cG:Sl→Int→Hp→OA) (bX:Sl→Hp→OA) :Nat→Int→Nat→Nat→Sl→Int→Sl→Int→Int→Hp→OA
 | 0,_,_,_,_,_,_,_,_,_=>none
 | Hg + 1,dp,eU,gz,gQ,eI,hT,fk,eu,H113=>(bif (decide (eu < fk)) then ((Hp.ldI H113 .i64 eU (gz + 1)).bind fun n119=>(bX gQ H113).bind fun r120=>((r120.1).asI .i64).bind fun n121=>(if Cons H113 r120.2 then ((if dp = 0 then none else ((Sl.idx hT (IntKind.i64.wrap ((IntKind.i64.wrap (eI - n119)) + eu)) 1).bind fun p122=>(Hp.st r120.2 p122.1 p122.2 (.int .i64 (Int.tmod (IntKind.i64.wrap (n121 + eu)) dp))).bind fun H123=>az.l2045 F cD bI cE cF cG bX Hg dp eU gz gQ eI hT fk (IntKind.i64.wrap (eu + 1)) H123))) else none)) else (some ((.tup [(.sl hT),(.int .i64 0)]),H113)))
termination_by structural n=>n
noncomputable def az.j1 (F:Nat) (cD:Sl→Int→Hp→OA) (bI:Int→Int→Int→Hp→OA) (cE:Sl→Int→Sl→Sl→Hp→OA) (cF:Sl→Int→Hp→OA) (cG:Sl→Int→Hp→OA) (bX:Sl→Hp→OA) (nk:Int) (nG:Nat) (zP:Nat) (Hh:Sl) (nl:Int) (Hi:Sl) (H88:Hp):OA:=(Hp.ldI H88 .i64 nG (zP + 1)).bind fun n89=>az.l2045 F cD bI cE cF cG bX F nk nG zP Hh nl Hi n89 0 H88
end Go.Proofs.Ythfinhmkgdmelaa.AE
