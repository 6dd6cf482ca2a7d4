import Derived.Test.YthfinhmkgdmelaaTab1
import Derived.Test.YthfinhmkgdmelaaE2
set_option linter.unusedVariables false
set_option linter.unusedSimpArgs false
namespace Go.Proofs.Ythfinhmkgdmelaa.AE
open Go Go.AE Go.Proofs Go.RowKit Go.Maps
set_option linter.unusedVariables false
set_option maxHeartbeats 4000000
set_option maxRecDepth 100000
noncomputable def bE.twX (F:Nat) (aa:Sl) (ae:Int) (H:Hp):OA:=(bif (decide ((IntKind.i64.wrap (ae - (aa.n:Int))) < 0)) then (some ((.int .i64 (-1)),H)) else (some ((.int .i64 (IntKind.i64.wrap (ae - (aa.n:Int)))),H)))
noncomputable def bE.tw (F:Nat) (aa:Sl) (ae:Int) (H:Hp):OA:=bE.twX F aa ae H
noncomputable def bE.code:Go.Code:=(Try.f58.body).getD .skip
noncomputable def bE.lh (F:Nat) (p:Nat) (ks:List Nat) (n:Nat) (tm:Tm) (H:Hp):OA:=none
def bE.pn:Nat→List Nat:=fun i=>(([]:List (Nat×List Nat)).lookup i).getD []
def bE.tb:Nat→List (List Nat):=fun i=>(([]:List (Nat×List (List Nat))).lookup i).getD []
noncomputable def bE.mk (g:Sl→Int→Hp→OA) (args:List AV) (H:Hp):OA:=match args with
 | [(.sl aa),(.int .i64 ae)]=>g aa ae H
 | _=>none
noncomputable def bE.cs (F:Nat):List (FuncId×(List AV→Hp→OA)):=[]
theorem bE.loops (F:Nat):LoopsOk tabs (mkOrc (bE.cs F)) bE.pn (bE.lh F) F [] 1 bE.code (fun tm H=>aresults tabs.ty H tm Try.f58.results.toList fun v=>some (v,H)) (fun _ _ _=>none) (fun tm H=>aresults tabs.ty H tm Try.f58.results.toList fun v=>some (v,H)):=by
 exact loops_none (by kernel_rfl)
theorem bE.eqX (F:Nat) (aa:Sl) (ae:Int) (H:Hp):aCode tabs (mkOrc (bE.cs F)) bE.pn (bE.lh F) F [] 1 bE.code (argTm [(.sl aa),(.int .i64 ae)]) H (fun tm H=>aresults tabs.ty H tm Try.f58.results.toList fun v=>some (v,H)) (fun _ _ _=>none) (fun tm H=>aresults tabs.ty H tm Try.f58.results.toList fun v=>some (v,H)) = bE.twX F aa ae H:=by kernel_rfl
theorem bE.cs_ok (F:Nat):∀ p ∈ bE.cs F,∀ args H v H',p.2 args H = some (v,H')→Go.AE.T Try.prog p.1 args H v H':=by
 intro p hp
 exact absurd (show p ∈ [] from hp) List.not_mem_nil
theorem bE.ok:codeOk bE.pn Try.f58.ntmps bE.tb bE.code = true:=by kernel_rfl
theorem bE.T {F:Nat} {aa:Sl} {ae:Int} {H:Hp} {v:AV} {H':Hp} (h:bE.tw F aa ae H = some (v,H')):Go.AE.T Try.prog 58 [(.sl aa),(.int .i64 ae)] H v H':=
 Go.AE.T.of (Y:=tabs) (C:=mkOrc (bE.cs F)) (PN:=bE.pn) (LH:=bE.lh F) (F:=F) (TB:=bE.tb) (fn:=Try.f58) (code:=bE.code) mixed tabs_ok (mkOrc_ok (bE.cs_ok F)) Try.func58 (by kernel_rfl) (by kernel_rfl) bE.ok (Nat.le_of_ble_eq_true (by kernel_rfl)) (bE.loops F) (Eq.trans (bE.eqX F aa ae H) h)
theorem bE.mk_T {F:Nat} {args:List AV} {H:Hp} {v:AV} {H':Hp} (h:bE.mk (bE.tw F) args H = some (v,H')):Go.AE.T Try.prog 58 args H v H':=by
 unfold bE.mk at h
 split at h
 ·exact bE.T h
 ·cases h
noncomputable def bw.twX (F:Nat) (gT:Sl→Int→Hp→OA) (aa:Sl) (ab:Int) (aq:Int) (H:Hp):OA:=(Hp.new H [(.sl aa),(.int .i64 ab)]).bind fun H4=>(Hp.ldSl H4 H.length 0).bind fun s5=>(gT s5 aq H4).bind fun r6=>((r6.1).asI .i64).bind fun n7=>(bif (decide (n7 < 0)) then (some ((.int .i64 (-1)),r6.2)) else (some ((.int .i64 n7),r6.2)))
noncomputable def bw.tw (F:Nat) (aa:Sl) (ab:Int) (aq:Int) (H:Hp):OA:=bw.twX F (bE.tw F) aa ab aq H
noncomputable def bw.code:Go.Code:=(Try.f15.body).getD .skip
noncomputable def bw.lh (F:Nat) (gT:Sl→Int→Hp→OA) (p:Nat) (ks:List Nat) (n:Nat) (tm:Tm) (H:Hp):OA:=none
def bw.pn:Nat→List Nat:=fun i=>(([]:List (Nat×List Nat)).lookup i).getD []
def bw.tb:Nat→List (List Nat):=fun i=>(([]:List (Nat×List (List Nat))).lookup i).getD []
noncomputable def bw.mk (g:Sl→Int→Int→Hp→OA) (args:List AV) (H:Hp):OA:=match args with
 | [(.agg [(.sl aa),(.int .i64 ab)]),(.int .i64 aq)]=>g aa ab aq H
 | _=>none
noncomputable def bw.cs (F:Nat) (gT:Sl→Int→Hp→OA):List (FuncId×(List AV→Hp→OA)):=[(58,bE.mk gT)]
theorem bw.loops (F:Nat) (gT:Sl→Int→Hp→OA):LoopsOk tabs (mkOrc (bw.cs F gT)) bw.pn (bw.lh F gT) F [] 1 bw.code (fun tm H=>aresults tabs.ty H tm Try.f15.results.toList fun v=>some (v,H)) (fun _ _ _=>none) (fun tm H=>aresults tabs.ty H tm Try.f15.results.toList fun v=>some (v,H)):=by
 exact loops_none (by kernel_rfl)
theorem bw.eqX (F:Nat) (gT:Sl→Int→Hp→OA) (aa:Sl) (ab:Int) (aq:Int) (H:Hp):aCode tabs (mkOrc (bw.cs F gT)) bw.pn (bw.lh F gT) F [] 1 bw.code (argTm [(.agg [(.sl aa),(.int .i64 ab)]),(.int .i64 aq)]) H (fun tm H=>aresults tabs.ty H tm Try.f15.results.toList fun v=>some (v,H)) (fun _ _ _=>none) (fun tm H=>aresults tabs.ty H tm Try.f15.results.toList fun v=>some (v,H)) = bw.twX F gT aa ab aq H:=by kernel_rfl
theorem bw.cs_ok (F:Nat):∀ p ∈ bw.cs F (bE.tw F),∀ args H v H',p.2 args H = some (v,H')→Go.AE.T Try.prog p.1 args H v H':=by
 intro p hp
 simp only [bw.cs,List.mem_cons,List.not_mem_nil,or_false] at hp
 subst hp
 exact fun args H v H' h=>bE.mk_T h
theorem bw.ok:codeOk bw.pn Try.f15.ntmps bw.tb bw.code = true:=by kernel_rfl
theorem bw.T {F:Nat} {aa:Sl} {ab:Int} {aq:Int} {H:Hp} {v:AV} {H':Hp} (h:bw.tw F aa ab aq H = some (v,H')):Go.AE.T Try.prog 15 [(.agg [(.sl aa),(.int .i64 ab)]),(.int .i64 aq)] H v H':=
 Go.AE.T.of (Y:=tabs) (C:=mkOrc (bw.cs F (bE.tw F))) (PN:=bw.pn) (LH:=bw.lh F (bE.tw F)) (F:=F) (TB:=bw.tb) (fn:=Try.f15) (code:=bw.code) mixed tabs_ok (mkOrc_ok (bw.cs_ok F)) Try.func15 (by kernel_rfl) (by kernel_rfl) bw.ok (Nat.le_of_ble_eq_true (by kernel_rfl)) (bw.loops F (bE.tw F)) (Eq.trans (bw.eqX F (bE.tw F) aa ab aq H) h)
theorem bw.mk_T {F:Nat} {args:List AV} {H:Hp} {v:AV} {H':Hp} (h:bw.mk (bw.tw F) args H = some (v,H')):Go.AE.T Try.prog 15 args H v H':=by
 unfold bw.mk at h
 split at h
 ·exact bw.T h
 ·cases h
noncomputable def bF.twX (F:Nat) (aa:Int) (ab:Int) (aA:Int) (aB:Int) (az:Int) (H:Hp):OA:=(Hp.new H [(.int .i64 aa),(.int .i64 ab),(.int .i64 aA),(.int .i64 aB),(.int .i64 az)]).bind fun H6=>(Hp.new H6 [.int .i64 0,.int .i64 0,.int .i64 0,.int .i64 0,.int .i64 0]).bind fun H7=>(Hp.new H7 [.int .i64 0,.int .i64 0,.int .i64 0,.int .i64 0,.int .i64 0]).bind fun H8=>(Hp.ldI H8 .i64 H.length 0).bind fun n9=>(Hp.st H8 H7.length 0 (.int .i64 n9)).bind fun H10=>(Hp.ldI H10 .i64 H.length 1).bind fun n11=>(Hp.st H10 H7.length 1 (.int .i64 n11)).bind fun H12=>(Hp.ldI H12 .i64 H.length 2).bind fun n13=>(Hp.st H12 H7.length 2 (.int .i64 n13)).bind fun H14=>(Hp.ldI H14 .i64 H.length 3).bind fun n15=>(Hp.st H14 H7.length 3 (.int .i64 n15)).bind fun H16=>(Hp.ldI H16 .i64 H.length 4).bind fun n17=>(Hp.st H16 H7.length 4 (.int .i64 n17)).bind fun H18=>(Hp.ldI H18 .i64 H7.length 0).bind fun n19=>(Hp.ldI H18 .i64 H7.length (0 + 1)).bind fun n20=>(Hp.ldI H18 .i64 H7.length (0 + 2)).bind fun n21=>(Hp.ldI H18 .i64 H7.length (0 + 3)).bind fun n22=>(Hp.ldI H18 .i64 H7.length (0 + 4)).bind fun n23=>(Hp.st H18 H6.length 0 (.int .i64 n19)).bind fun H24=>(Hp.st H24 H6.length (0 + 1) (.int .i64 n20)).bind fun H25=>(Hp.st H25 H6.length (0 + 1 + 1) (.int .i64 n21)).bind fun H26=>(Hp.st H26 H6.length (0 + 1 + 1 + 1) (.int .i64 n22)).bind fun H27=>(Hp.st H27 H6.length (0 + 1 + 1 + 1 + 1) (.int .i64 n23)).bind fun H28=>(Hp.ldI H28 .i64 H6.length 0).bind fun n29=>(Hp.ldI H28 .i64 H6.length (0 + 1)).bind fun n30=>(Hp.ldI H28 .i64 H6.length (0 + 2)).bind fun n31=>(Hp.ldI H28 .i64 H6.length (0 + 3)).bind fun n32=>(Hp.ldI H28 .i64 H6.length (0 + 4)).bind fun n33=>some ((.agg [(.int .i64 n29),(.int .i64 n30),(.int .i64 n31),(.int .i64 n32),(.int .i64 n33)]),H28)
noncomputable def bF.tw (F:Nat) (aa:Int) (ab:Int) (aA:Int) (aB:Int) (az:Int) (H:Hp):OA:=bF.twX F aa ab aA aB az H
noncomputable def bF.code:Go.Code:=(Try.f115.body).getD .skip
noncomputable def bF.lh (F:Nat) (p:Nat) (ks:List Nat) (n:Nat) (tm:Tm) (H:Hp):OA:=none
def bF.pn:Nat→List Nat:=fun i=>(([]:List (Nat×List Nat)).lookup i).getD []
def bF.tb:Nat→List (List Nat):=fun i=>(([]:List (Nat×List (List Nat))).lookup i).getD []
noncomputable def bF.mk (g:Int→Int→Int→Int→Int→Hp→OA) (args:List AV) (H:Hp):OA:=match args with
 | [(.agg [(.int .i64 aa),(.int .i64 ab),(.int .i64 aA),(.int .i64 aB),(.int .i64 az)])]=>g aa ab aA aB az H
 | _=>none
noncomputable def bF.cs (F:Nat):List (FuncId×(List AV→Hp→OA)):=[]
theorem bF.loops (F:Nat):LoopsOk tabs (mkOrc (bF.cs F)) bF.pn (bF.lh F) F [] 1 bF.code (fun tm H=>aresults tabs.ty H tm Try.f115.results.toList fun v=>some (v,H)) (fun _ _ _=>none) (fun tm H=>aresults tabs.ty H tm Try.f115.results.toList fun v=>some (v,H)):=by
 exact loops_none (by kernel_rfl)
theorem bF.eqX (F:Nat) (aa:Int) (ab:Int) (aA:Int) (aB:Int) (az:Int) (H:Hp):aCode tabs (mkOrc (bF.cs F)) bF.pn (bF.lh F) F [] 1 bF.code (argTm [(.agg [(.int .i64 aa),(.int .i64 ab),(.int .i64 aA),(.int .i64 aB),(.int .i64 az)])]) H (fun tm H=>aresults tabs.ty H tm Try.f115.results.toList fun v=>some (v,H)) (fun _ _ _=>none) (fun tm H=>aresults tabs.ty H tm Try.f115.results.toList fun v=>some (v,H)) = bF.twX F aa ab aA aB az H:=by kernel_rfl
theorem bF.cs_ok (F:Nat):∀ p ∈ bF.cs F,∀ args H v H',p.2 args H = some (v,H')→Go.AE.T Try.prog p.1 args H v H':=by
 intro p hp
 exact absurd (show p ∈ [] from hp) List.not_mem_nil
theorem bF.ok:codeOk bF.pn Try.f115.ntmps bF.tb bF.code = true:=by kernel_rfl
theorem bF.T {F:Nat} {aa:Int} {ab:Int} {aA:Int} {aB:Int} {az:Int} {H:Hp} {v:AV} {H':Hp} (h:bF.tw F aa ab aA aB az H = some (v,H')):Go.AE.T Try.prog 115 [(.agg [(.int .i64 aa),(.int .i64 ab),(.int .i64 aA),(.int .i64 aB),(.int .i64 az)])] H v H':=
 Go.AE.T.of (Y:=tabs) (C:=mkOrc (bF.cs F)) (PN:=bF.pn) (LH:=bF.lh F) (F:=F) (TB:=bF.tb) (fn:=Try.f115) (code:=bF.code) mixed tabs_ok (mkOrc_ok (bF.cs_ok F)) Try.func115 (by kernel_rfl) (by kernel_rfl) bF.ok (Nat.le_of_ble_eq_true (by kernel_rfl)) (bF.loops F) (Eq.trans (bF.eqX F aa ab aA aB az H) h)
theorem bF.mk_T {F:Nat} {args:List AV} {H:Hp} {v:AV} {H':Hp} (h:bF.mk (bF.tw F) args H = some (v,H')):Go.AE.T Try.prog 115 args H v H':=by
 unfold bF.mk at h
 split at h
 ·exact bF.T h
 ·cases h
noncomputable def aR.l29 (F:Nat) (dA:Int→Int→Int→Int→Int→Hp→OA) :Nat→Sl→Sl→Int→Hp→OA
 | 0,_,_,_,_=>none
 | dZ + 1,aZ,gG,dB,H7=>(bif (decide (dB < (aZ.n:Int))) then ((Sl.idx aZ dB 5).bind fun p32=>(Hp.ldI H7 .i64 p32.1 p32.2).bind fun n33=>(Hp.ldI H7 .i64 p32.1 (p32.2 + 1)).bind fun n34=>(Hp.ldI H7 .i64 p32.1 (p32.2 + 2)).bind fun n35=>(Hp.ldI H7 .i64 p32.1 (p32.2 + 3)).bind fun n36=>(Hp.ldI H7 .i64 p32.1 (p32.2 + 4)).bind fun n37=>(dA n33 n34 n35 n36 n37 H7).bind fun r38=>((r38.1).asAgg 5).bind fun l39=>(l39[0]?).bind fun v40=>((v40).asI .i64).bind fun n41=>(l39[1]?).bind fun v42=>((v42).asI .i64).bind fun n43=>(l39[2]?).bind fun v44=>((v44).asI .i64).bind fun n45=>(l39[3]?).bind fun v46=>((v46).asI .i64).bind fun n47=>(l39[4]?).bind fun v48=>((v48).asI .i64).bind fun n49=>(Sl.idx gG dB 5).bind fun p50=>(Hp.st r38.2 p50.1 p50.2 (.int .i64 n41)).bind fun H51=>(Hp.st H51 p50.1 (p50.2 + 1) (.int .i64 n43)).bind fun H52=>(Hp.st H52 p50.1 (p50.2 + 1 + 1) (.int .i64 n45)).bind fun H53=>(Hp.st H53 p50.1 (p50.2 + 1 + 1 + 1) (.int .i64 n47)).bind fun H54=>(Hp.st H54 p50.1 (p50.2 + 1 + 1 + 1 + 1) (.int .i64 n49)).bind fun H55=>aR.l29 F dA dZ aZ gG (IntKind.i64.wrap (dB + 1)) H55) else (some ((.sl gG),H7)))
termination_by structural n=>n
noncomputable def aR.twX (F:Nat) (dA:Int→Int→Int→Int→Int→Hp→OA) (aa:Sl) (H:Hp):OA:=(Hp.mk H [.int .i64 0,.int .i64 0,.int .i64 0,.int .i64 0,.int .i64 0] 40 (aa.n:Int) (aa.n:Int)).bind fun m2=>aR.l29 F dA F aa m2.1 0 m2.2
noncomputable def aR.tw (F:Nat) (aa:Sl) (H:Hp):OA:=aR.twX F (bF.tw F) aa H
noncomputable def aR.code:Go.Code:=(Try.f60.body).getD .skip
noncomputable def aR.lh29 (F:Nat) (dA:Int→Int→Int→Int→Int→Hp→OA) (ks:List Nat) (n:Nat) (tm:Tm) (H:Hp):OA:=match ks,tm 0,tm 3,tm 4 with
 | [],(.sl aZ),(.sl gG),(.int .i64 dB)=>aR.l29 F dA n aZ gG dB H
 | _,_,_,_=>none
theorem aR.lh29_inv {F:Nat} {dA:Int→Int→Int→Int→Int→Hp→OA} {ks:List Nat} {n:Nat} {tm:Tm} {H:Hp} {r:AV×Hp} (h:aR.lh29 F dA ks n tm H = some r):∃ aZ:Sl,∃ gG:Sl,∃ dB:Int,ks = []∧tm 0 = (.sl aZ)∧tm 3 = (.sl gG)∧tm 4 = (.int .i64 dB)∧aR.l29 F dA n aZ gG dB H = some r:=by
 unfold aR.lh29 at h
 split at h
 ·exact ⟨_,_,_,rfl,by assumption,by assumption,by assumption,h⟩
 ·cases h
noncomputable def aR.lh (F:Nat) (dA:Int→Int→Int→Int→Int→Hp→OA) (p:Nat) (ks:List Nat) (n:Nat) (tm:Tm) (H:Hp):OA:=bif p.beq 29 then aR.lh29 F dA ks n tm H else (none)
def aR.pn:Nat→List Nat:=fun i=>(([]:List (Nat×List Nat)).lookup i).getD []
def aR.tb:Nat→List (List Nat):=fun i=>(([]:List (Nat×List (List Nat))).lookup i).getD []
noncomputable def aR.mk (g:Sl→Hp→OA) (args:List AV) (H:Hp):OA:=match args with
 | [(.sl aa)]=>g aa H
 | _=>none
noncomputable def aR.cs (F:Nat) (dA:Int→Int→Int→Int→Int→Hp→OA):List (FuncId×(List AV→Hp→OA)):=[(115,bF.mk dA)]
theorem aR.loops (F:Nat) (dA:Int→Int→Int→Int→Int→Hp→OA):LoopsOk tabs (mkOrc (aR.cs F dA)) aR.pn (aR.lh F dA) F [] 1 aR.code (fun tm H=>aresults tabs.ty H tm Try.f60.results.toList fun v=>some (v,H)) (fun _ _ _=>none) (fun tm H=>aresults tabs.ty H tm Try.f60.results.toList fun v=>some (v,H)):=by
 refine LoopsOk.seq ?_ ?_
 ·exact loops_none (by kernel_rfl)
 ·refine LoopsOk.seq ?_ ?_
  ·exact loops_none (by kernel_rfl)
  ·refine LoopsOk.seq ?_ ?_
   ·refine LoopsOk.seq ?_ ?_
    ·exact loops_none (by kernel_rfl)
    ·refine LoopsOk.block ?_
     refine LoopsOk.loop (fun tm H=>?_) (fun k29 tm H r h0=>?_) (fun k29=>?_)
     ·refine none_of fun r h0=>?_
      obtain ⟨aZ,gG,dB,hks,e0,e3,e4,h⟩:=aR.lh29_inv (show aR.lh29 F dA [] 0 tm H = some r from h0)
      cases h
     ·obtain ⟨aZ,gG,dB,hks,e0,e3,e4,h⟩:=aR.lh29_inv (show aR.lh29 F dA [] (k29 + 1) tm H = some r from h0)
      have q0:(Tm.put tm 0 (.sl aZ)) = tm:=by exact Tm.put_same e0
      have q1:(Tm.put (Tm.put tm 0 (.sl aZ)) 3 (.sl gG)) = tm:=by rw [q0]; exact Tm.put_same e3
      have q2:(Tm.put (Tm.put (Tm.put tm 0 (.sl aZ)) 3 (.sl gG)) 4 (.int .i64 dB)) = tm:=by rw [q1]; exact Tm.put_same e4
      rw [← q2]
      exact Eq.trans (by kernel_rfl) h
     ·exact loops_none (by kernel_rfl)
   ·exact loops_none (by kernel_rfl)
theorem aR.eqX (F:Nat) (dA:Int→Int→Int→Int→Int→Hp→OA) (aa:Sl) (H:Hp):aCode tabs (mkOrc (aR.cs F dA)) aR.pn (aR.lh F dA) F [] 1 aR.code (argTm [(.sl aa)]) H (fun tm H=>aresults tabs.ty H tm Try.f60.results.toList fun v=>some (v,H)) (fun _ _ _=>none) (fun tm H=>aresults tabs.ty H tm Try.f60.results.toList fun v=>some (v,H)) = aR.twX F dA aa H:=by kernel_rfl
theorem aR.cs_ok (F:Nat):∀ p ∈ aR.cs F (bF.tw F),∀ args H v H',p.2 args H = some (v,H')→Go.AE.T Try.prog p.1 args H v H':=by
 intro p hp
 simp only [aR.cs,List.mem_cons,List.not_mem_nil,or_false] at hp
 subst hp
 exact fun args H v H' h=>bF.mk_T h
theorem aR.ok:codeOk aR.pn Try.f60.ntmps aR.tb aR.code = true:=by kernel_rfl
theorem aR.T {F:Nat} {aa:Sl} {H:Hp} {v:AV} {H':Hp} (h:aR.tw F aa H = some (v,H')):Go.AE.T Try.prog 60 [(.sl aa)] H v H':=
 Go.AE.T.of (Y:=tabs) (C:=mkOrc (aR.cs F (bF.tw F))) (PN:=aR.pn) (LH:=aR.lh F (bF.tw F)) (F:=F) (TB:=aR.tb) (fn:=Try.f60) (code:=aR.code) mixed tabs_ok (mkOrc_ok (aR.cs_ok F)) Try.func60 (by kernel_rfl) (by kernel_rfl) aR.ok (Nat.le_of_ble_eq_true (by kernel_rfl)) (aR.loops F (bF.tw F)) (Eq.trans (aR.eqX F (bF.tw F) aa H) h)
theorem aR.mk_T {F:Nat} {args:List AV} {H:Hp} {v:AV} {H':Hp} (h:aR.mk (aR.tw F) args H = some (v,H')):Go.AE.T Try.prog 60 args H v H':=by
 unfold aR.mk at h
 split at h
 ·exact aR.T h
 ·cases h
noncomputable def bp.twX (F:Nat) (gU:Sl→Hp→OA) (aa:Sl) (ab:Int) (H:Hp):OA:=(Hp.new H [(.sl aa),(.int .i64 ab)]).bind fun H3=>(Hp.new H3 [.sl ⟨none,0,.ex 0⟩,.int .i64 0]).bind fun H4=>(Hp.new H4 [.sl ⟨none,0,.ex 0⟩,.int .i64 0]).bind fun H5=>(Hp.ldSl H5 H.length 0).bind fun s6=>(gU s6 H5).bind fun r7=>((r7.1).asSl).bind fun s8=>(Hp.st r7.2 H4.length 0 (.sl s8)).bind fun H9=>(Hp.ldI H9 .i64 H.length 1).bind fun n10=>(Hp.st H9 H4.length 1 (.int .i64 n10)).bind fun H11=>(Hp.ldSl H11 H4.length 0).bind fun s12=>(Hp.ldI H11 .i64 H4.length (0 + 1)).bind fun n13=>(Hp.st H11 H3.length 0 (.sl s12)).bind fun H14=>(Hp.st H14 H3.length (0 + 1) (.int .i64 n13)).bind fun H15=>(Hp.ldSl H15 H3.length 0).bind fun s16=>(Hp.ldI H15 .i64 H3.length (0 + 1)).bind fun n17=>some ((.agg [(.sl s16),(.int .i64 n17)]),H15)
noncomputable def bp.tw (F:Nat) (aa:Sl) (ab:Int) (H:Hp):OA:=bp.twX F (aR.tw F) aa ab H
noncomputable def bp.code:Go.Code:=(Try.f17.body).getD .skip
noncomputable def bp.lh (F:Nat) (gU:Sl→Hp→OA) (p:Nat) (ks:List Nat) (n:Nat) (tm:Tm) (H:Hp):OA:=none
def bp.pn:Nat→List Nat:=fun i=>(([]:List (Nat×List Nat)).lookup i).getD []
def bp.tb:Nat→List (List Nat):=fun i=>(([]:List (Nat×List (List Nat))).lookup i).getD []
noncomputable def bp.mk (g:Sl→Int→Hp→OA) (args:List AV) (H:Hp):OA:=match args with
 | [(.agg [(.sl aa),(.int .i64 ab)])]=>g aa ab H
 | _=>none
noncomputable def bp.cs (F:Nat) (gU:Sl→Hp→OA):List (FuncId×(List AV→Hp→OA)):=[(60,aR.mk gU)]
theorem bp.loops (F:Nat) (gU:Sl→Hp→OA):LoopsOk tabs (mkOrc (bp.cs F gU)) bp.pn (bp.lh F gU) F [] 1 bp.code (fun tm H=>aresults tabs.ty H tm Try.f17.results.toList fun v=>some (v,H)) (fun _ _ _=>none) (fun tm H=>aresults tabs.ty H tm Try.f17.results.toList fun v=>some (v,H)):=by
 exact loops_none (by kernel_rfl)
theorem bp.eqX (F:Nat) (gU:Sl→Hp→OA) (aa:Sl) (ab:Int) (H:Hp):aCode tabs (mkOrc (bp.cs F gU)) bp.pn (bp.lh F gU) F [] 1 bp.code (argTm [(.agg [(.sl aa),(.int .i64 ab)])]) H (fun tm H=>aresults tabs.ty H tm Try.f17.results.toList fun v=>some (v,H)) (fun _ _ _=>none) (fun tm H=>aresults tabs.ty H tm Try.f17.results.toList fun v=>some (v,H)) = bp.twX F gU aa ab H:=by kernel_rfl
theorem bp.cs_ok (F:Nat):∀ p ∈ bp.cs F (aR.tw F),∀ args H v H',p.2 args H = some (v,H')→Go.AE.T Try.prog p.1 args H v H':=by
 intro p hp
 simp only [bp.cs,List.mem_cons,List.not_mem_nil,or_false] at hp
 subst hp
 exact fun args H v H' h=>aR.mk_T h
theorem bp.ok:codeOk bp.pn Try.f17.ntmps bp.tb bp.code = true:=by kernel_rfl
theorem bp.T {F:Nat} {aa:Sl} {ab:Int} {H:Hp} {v:AV} {H':Hp} (h:bp.tw F aa ab H = some (v,H')):Go.AE.T Try.prog 17 [(.agg [(.sl aa),(.int .i64 ab)])] H v H':=
 Go.AE.T.of (Y:=tabs) (C:=mkOrc (bp.cs F (aR.tw F))) (PN:=bp.pn) (LH:=bp.lh F (aR.tw F)) (F:=F) (TB:=bp.tb) (fn:=Try.f17) (code:=bp.code) mixed tabs_ok (mkOrc_ok (bp.cs_ok F)) Try.func17 (by kernel_rfl) (by kernel_rfl) bp.ok (Nat.le_of_ble_eq_true (by kernel_rfl)) (bp.loops F (aR.tw F)) (Eq.trans (bp.eqX F (aR.tw F) aa ab H) h)
theorem bp.mk_T {F:Nat} {args:List AV} {H:Hp} {v:AV} {H':Hp} (h:bp.mk (bp.tw F) args H = some (v,H')):Go.AE.T Try.prog 17 args H v H':=by
 unfold bp.mk at h
 split at h
 ·exact bp.T h
 ·cases h
noncomputable def bh.twX (F:Nat) (aa:Int) (ae:Int) (bN:Int) (H:Hp):OA:=(bif (decide (aa ≥ ae)) then (some ((.bool (decide (aa ≤ bN))),H)) else (some ((.bool false),H)))
noncomputable def bh.tw (F:Nat) (aa:Int) (ae:Int) (bN:Int) (H:Hp):OA:=bh.twX F aa ae bN H
noncomputable def bh.code:Go.Code:=(Try.f65.body).getD .skip
noncomputable def bh.lh (F:Nat) (p:Nat) (ks:List Nat) (n:Nat) (tm:Tm) (H:Hp):OA:=none
def bh.pn:Nat→List Nat:=fun i=>(([]:List (Nat×List Nat)).lookup i).getD []
def bh.tb:Nat→List (List Nat):=fun i=>(([]:List (Nat×List (List Nat))).lookup i).getD []
noncomputable def bh.mk (g:Int→Int→Int→Hp→OA) (args:List AV) (H:Hp):OA:=match args with
 | [(.int .i64 aa),(.int .i64 ae),(.int .i64 bN)]=>g aa ae bN H
 | _=>none
noncomputable def bh.cs (F:Nat):List (FuncId×(List AV→Hp→OA)):=[]
theorem bh.loops (F:Nat):LoopsOk tabs (mkOrc (bh.cs F)) bh.pn (bh.lh F) F [] 1 bh.code (fun tm H=>aresults tabs.ty H tm Try.f65.results.toList fun v=>some (v,H)) (fun _ _ _=>none) (fun tm H=>aresults tabs.ty H tm Try.f65.results.toList fun v=>some (v,H)):=by
 exact loops_none (by kernel_rfl)
theorem bh.eqX (F:Nat) (aa:Int) (ae:Int) (bN:Int) (H:Hp):aCode tabs (mkOrc (bh.cs F)) bh.pn (bh.lh F) F [] 1 bh.code (argTm [(.int .i64 aa),(.int .i64 ae),(.int .i64 bN)]) H (fun tm H=>aresults tabs.ty H tm Try.f65.results.toList fun v=>some (v,H)) (fun _ _ _=>none) (fun tm H=>aresults tabs.ty H tm Try.f65.results.toList fun v=>some (v,H)) = bh.twX F aa ae bN H:=by kernel_rfl
theorem bh.cs_ok (F:Nat):∀ p ∈ bh.cs F,∀ args H v H',p.2 args H = some (v,H')→Go.AE.T Try.prog p.1 args H v H':=by
 intro p hp
 exact absurd (show p ∈ [] from hp) List.not_mem_nil
theorem bh.ok:codeOk bh.pn Try.f65.ntmps bh.tb bh.code = true:=by kernel_rfl
theorem bh.T {F:Nat} {aa:Int} {ae:Int} {bN:Int} {H:Hp} {v:AV} {H':Hp} (h:bh.tw F aa ae bN H = some (v,H')):Go.AE.T Try.prog 65 [(.int .i64 aa),(.int .i64 ae),(.int .i64 bN)] H v H':=
 Go.AE.T.of (Y:=tabs) (C:=mkOrc (bh.cs F)) (PN:=bh.pn) (LH:=bh.lh F) (F:=F) (TB:=bh.tb) (fn:=Try.f65) (code:=bh.code) mixed tabs_ok (mkOrc_ok (bh.cs_ok F)) Try.func65 (by kernel_rfl) (by kernel_rfl) bh.ok (Nat.le_of_ble_eq_true (by kernel_rfl)) (bh.loops F) (Eq.trans (bh.eqX F aa ae bN H) h)
theorem bh.mk_T {F:Nat} {args:List AV} {H:Hp} {v:AV} {H':Hp} (h:bh.mk (bh.tw F) args H = some (v,H')):Go.AE.T Try.prog 65 args H v H':=by
 unfold bh.mk at h
 split at h
 ·exact bh.T h
 ·cases h
noncomputable def aX.twX (F:Nat) (aa:Int) (ab:Int) (aA:Int) (aB:Int) (az:Int) (bd:Int) (H:Hp):OA:=(Hp.new H [(.int .i64 aa),(.int .i64 ab),(.int .i64 aA),(.int .i64 aB),(.int .i64 az)]).bind fun H7=>(Hp.ldI H7 .i64 H.length 0).bind fun n8=>(Hp.ldI H7 .i64 H.length 1).bind fun n9=>(Hp.ldI H7 .i64 H.length 2).bind fun n10=>(Hp.ldI H7 .i64 H.length 3).bind fun n11=>(Hp.new H7 [(.int .i64 n8),(.int .i64 n9),(.int .i64 n10),(.int .i64 n11)]).bind fun H12=>(Sl.idx (⟨some (H7.length,0),4,.ex 4⟩:Sl) bd 1).bind fun p13=>(Hp.ldI H12 .i64 p13.1 p13.2).bind fun n14=>some ((.int .i64 n14),H12)
noncomputable def aX.tw (F:Nat) (aa:Int) (ab:Int) (aA:Int) (aB:Int) (az:Int) (bd:Int) (H:Hp):OA:=aX.twX F aa ab aA aB az bd H
noncomputable def aX.code:Go.Code:=(Try.f140.body).getD .skip
noncomputable def aX.lh (F:Nat) (p:Nat) (ks:List Nat) (n:Nat) (tm:Tm) (H:Hp):OA:=none
def aX.pn:Nat→List Nat:=fun i=>(([]:List (Nat×List Nat)).lookup i).getD []
def aX.tb:Nat→List (List Nat):=fun i=>(([]:List (Nat×List (List Nat))).lookup i).getD []
noncomputable def aX.mk (g:Int→Int→Int→Int→Int→Int→Hp→OA) (args:List AV) (H:Hp):OA:=match args with
 | [(.agg [(.int .i64 aa),(.int .i64 ab),(.int .i64 aA),(.int .i64 aB),(.int .i64 az)]),(.int .i64 bd)]=>g aa ab aA aB az bd H
 | _=>none
noncomputable def aX.cs (F:Nat):List (FuncId×(List AV→Hp→OA)):=[]
theorem aX.loops (F:Nat):LoopsOk tabs (mkOrc (aX.cs F)) aX.pn (aX.lh F) F [] 1 aX.code (fun tm H=>aresults tabs.ty H tm Try.f140.results.toList fun v=>some (v,H)) (fun _ _ _=>none) (fun tm H=>aresults tabs.ty H tm Try.f140.results.toList fun v=>some (v,H)):=by
 exact loops_none (by kernel_rfl)
theorem aX.eqX (F:Nat) (aa:Int) (ab:Int) (aA:Int) (aB:Int) (az:Int) (bd:Int) (H:Hp):aCode tabs (mkOrc (aX.cs F)) aX.pn (aX.lh F) F [] 1 aX.code (argTm [(.agg [(.int .i64 aa),(.int .i64 ab),(.int .i64 aA),(.int .i64 aB),(.int .i64 az)]),(.int .i64 bd)]) H (fun tm H=>aresults tabs.ty H tm Try.f140.results.toList fun v=>some (v,H)) (fun _ _ _=>none) (fun tm H=>aresults tabs.ty H tm Try.f140.results.toList fun v=>some (v,H)) = aX.twX F aa ab aA aB az bd H:=by kernel_rfl
theorem aX.cs_ok (F:Nat):∀ p ∈ aX.cs F,∀ args H v H',p.2 args H = some (v,H')→Go.AE.T Try.prog p.1 args H v H':=by
 intro p hp
 exact absurd (show p ∈ [] from hp) List.not_mem_nil
theorem aX.ok:codeOk aX.pn Try.f140.ntmps aX.tb aX.code = true:=by kernel_rfl
theorem aX.T {F:Nat} {aa:Int} {ab:Int} {aA:Int} {aB:Int} {az:Int} {bd:Int} {H:Hp} {v:AV} {H':Hp} (h:aX.tw F aa ab aA aB az bd H = some (v,H')):Go.AE.T Try.prog 140 [(.agg [(.int .i64 aa),(.int .i64 ab),(.int .i64 aA),(.int .i64 aB),(.int .i64 az)]),(.int .i64 bd)] H v H':=
 Go.AE.T.of (Y:=tabs) (C:=mkOrc (aX.cs F)) (PN:=aX.pn) (LH:=aX.lh F) (F:=F) (TB:=aX.tb) (fn:=Try.f140) (code:=aX.code) mixed tabs_ok (mkOrc_ok (aX.cs_ok F)) Try.func140 (by kernel_rfl) (by kernel_rfl) aX.ok (Nat.le_of_ble_eq_true (by kernel_rfl)) (aX.loops F) (Eq.trans (aX.eqX F aa ab aA aB az bd H) h)
theorem aX.mk_T {F:Nat} {args:List AV} {H:Hp} {v:AV} {H':Hp} (h:aX.mk (aX.tw F) args H = some (v,H')):Go.AE.T Try.prog 140 args H v H':=by
 unfold aX.mk at h
 split at h
 ·exact aX.T h
 ·cases h
noncomputable def aY.twX (F:Nat) (aa:Int) (ab:Int) (aA:Int) (aB:Int) (az:Int) (bd:Int) (H:Hp):OA:=(Hp.new H [(.int .i64 aa),(.int .i64 ab),(.int .i64 aA),(.int .i64 aB),(.int .i64 az)]).bind fun H7=>(bif (bd == 0) then (some ((.bool true),H7)) else ((bif (bd == 3) then ((Hp.ldI H7 .i64 H.length 4).bind fun n8=>(bif (n8 == 1) then (some ((.bool true),H7)) else ((bif (bd == 1) then ((Hp.ldI H7 .i64 H.length 4).bind fun n9=>some ((.bool (n9 == (-1))),H7)) else (some ((.bool false),H7)))))) else ((bif (bd == 1) then ((Hp.ldI H7 .i64 H.length 4).bind fun n10=>some ((.bool (n10 == (-1))),H7)) else (some ((.bool false),H7)))))))
noncomputable def aY.tw (F:Nat) (aa:Int) (ab:Int) (aA:Int) (aB:Int) (az:Int) (bd:Int) (H:Hp):OA:=aY.twX F aa ab aA aB az bd H
noncomputable def aY.code:Go.Code:=(Try.f141.body).getD .skip
noncomputable def aY.lh (F:Nat) (p:Nat) (ks:List Nat) (n:Nat) (tm:Tm) (H:Hp):OA:=none
def aY.pn:Nat→List Nat:=fun i=>(([]:List (Nat×List Nat)).lookup i).getD []
def aY.tb:Nat→List (List Nat):=fun i=>(([]:List (Nat×List (List Nat))).lookup i).getD []
noncomputable def aY.mk (g:Int→Int→Int→Int→Int→Int→Hp→OA) (args:List AV) (H:Hp):OA:=match args with
 | [(.agg [(.int .i64 aa),(.int .i64 ab),(.int .i64 aA),(.int .i64 aB),(.int .i64 az)]),(.int .i64 bd)]=>g aa ab aA aB az bd H
 | _=>none
noncomputable def aY.cs (F:Nat):List (FuncId×(List AV→Hp→OA)):=[]
theorem aY.loops (F:Nat):LoopsOk tabs (mkOrc (aY.cs F)) aY.pn (aY.lh F) F [] 1 aY.code (fun tm H=>aresults tabs.ty H tm Try.f141.results.toList fun v=>some (v,H)) (fun _ _ _=>none) (fun tm H=>aresults tabs.ty H tm Try.f141.results.toList fun v=>some (v,H)):=by
 exact loops_none (by kernel_rfl)
theorem aY.eqX (F:Nat) (aa:Int) (ab:Int) (aA:Int) (aB:Int) (az:Int) (bd:Int) (H:Hp):aCode tabs (mkOrc (aY.cs F)) aY.pn (aY.lh F) F [] 1 aY.code (argTm [(.agg [(.int .i64 aa),(.int .i64 ab),(.int .i64 aA),(.int .i64 aB),(.int .i64 az)]),(.int .i64 bd)]) H (fun tm H=>aresults tabs.ty H tm Try.f141.results.toList fun v=>some (v,H)) (fun _ _ _=>none) (fun tm H=>aresults tabs.ty H tm Try.f141.results.toList fun v=>some (v,H)) = aY.twX F aa ab aA aB az bd H:=by kernel_rfl
theorem aY.cs_ok (F:Nat):∀ p ∈ aY.cs F,∀ args H v H',p.2 args H = some (v,H')→Go.AE.T Try.prog p.1 args H v H':=by
 intro p hp
 exact absurd (show p ∈ [] from hp) List.not_mem_nil
theorem aY.ok:codeOk aY.pn Try.f141.ntmps aY.tb aY.code = true:=by kernel_rfl
theorem aY.T {F:Nat} {aa:Int} {ab:Int} {aA:Int} {aB:Int} {az:Int} {bd:Int} {H:Hp} {v:AV} {H':Hp} (h:aY.tw F aa ab aA aB az bd H = some (v,H')):Go.AE.T Try.prog 141 [(.agg [(.int .i64 aa),(.int .i64 ab),(.int .i64 aA),(.int .i64 aB),(.int .i64 az)]),(.int .i64 bd)] H v H':=
 Go.AE.T.of (Y:=tabs) (C:=mkOrc (aY.cs F)) (PN:=aY.pn) (LH:=aY.lh F) (F:=F) (TB:=aY.tb) (fn:=Try.f141) (code:=aY.code) mixed tabs_ok (mkOrc_ok (aY.cs_ok F)) Try.func141 (by kernel_rfl) (by kernel_rfl) aY.ok (Nat.le_of_ble_eq_true (by kernel_rfl)) (aY.loops F) (Eq.trans (aY.eqX F aa ab aA aB az bd H) h)
theorem aY.mk_T {F:Nat} {args:List AV} {H:Hp} {v:AV} {H':Hp} (h:aY.mk (aY.tw F) args H = some (v,H')):Go.AE.T Try.prog 141 args H v H':=by
 unfold aY.mk at h
 split at h
 ·exact aY.T h
 ·cases h
noncomputable def au.l3927 (F:Nat) (aS:Int→Int→Int→Int→Int→Int→Hp→OA) (bO:Int→Int→Int→Hp→OA) (aT:Int→Int→Int→Int→Int→Int→Hp→OA) (C61_:Nat→Nat→Int→Sl→Sl→Int→Hp→OA):Nat→Nat→Nat→Int→Sl→Sl→Int→Nat→Nat→Int→Hp→OA
 | 0,_,_,_,_,_,_,_,_,_,_=>none
 | vW + 1,dC,fd,cJ,fe,fw,cg,cM,d_,cX,H126=>(bif (decide (cX < 4)) then ((Hp.ldI H126 .i64 cM d_).bind fun n151=>(Hp.ldI H126 .i64 cM (d_ + 1)).bind fun n152=>(Hp.ldI H126 .i64 cM (d_ + 2)).bind fun n153=>(Hp.ldI H126 .i64 cM (d_ + 3)).bind fun n154=>(Hp.ldI H126 .i64 cM (d_ + 4)).bind fun n155=>(aS n151 n152 n153 n154 n155 cX H126).bind fun r156=>((r156.1).asI .i64).bind fun n157=>(bO n157 0 (IntKind.i64.wrap (cJ - 1)) r156.2).bind fun r158=>((r158.1).asB).bind fun b159=>(bif (!b159) then (some ((.bool false),r158.2)) else ((Hp.ldI r158.2 .i64 cM d_).bind fun n160=>(Hp.ldI r158.2 .i64 cM (d_ + 1)).bind fun n161=>(Hp.ldI r158.2 .i64 cM (d_ + 2)).bind fun n162=>(Hp.ldI r158.2 .i64 cM (d_ + 3)).bind fun n163=>(Hp.ldI r158.2 .i64 cM (d_ + 4)).bind fun n164=>(aT n160 n161 n162 n163 n164 cX r158.2).bind fun r165=>((r165.1).asB).bind fun b166=>(bif b166 then ((Sl.idx fe n157 1).bind fun p167=>(Hp.ldB r165.2 p167.1 p167.2).bind fun b168=>(bif b168 then (some ((.bool false),r165.2)) else ((Sl.idx fe n157 1).bind fun p169=>(Hp.st r165.2 p169.1 p169.2 (.bool true)).bind fun H170=>au.l3927 F aS bO aT C61_ vW dC fd cJ fe fw cg cM d_ (IntKind.i64.wrap (cX + 1)) H170))) else ((Sl.idx fw n157 1).bind fun p171=>(Hp.ldB r165.2 p171.1 p171.2).bind fun b172=>(bif b172 then (some ((.bool false),r165.2)) else ((Sl.idx fw n157 1).bind fun p173=>(Hp.st r165.2 p173.1 p173.2 (.bool true)).bind fun H174=>au.l3927 F aS bO aT C61_ vW dC fd cJ fe fw cg cM d_ (IntKind.i64.wrap (cX + 1)) H174))))))) else (C61_ dC fd cJ fe fw (IntKind.i64.wrap (cg + 1)) H126))
termination_by structural n=>n
noncomputable def au.l61 (F:Nat) (aS:Int→Int→Int→Int→Int→Int→Hp→OA) (bO:Int→Int→Int→Hp→OA) (aT:Int→Int→Int→Int→Int→Int→Hp→OA) :Nat→Nat→Nat→Int→Sl→Sl→Int→Hp→OA
 | 0,_,_,_,_,_,_,_=>none
 | bv + 1,bV,cr,cd,cN,cb,dD,H16=>(Hp.ldSl H16 bV cr).bind fun s96=>(bif (decide (dD < (s96.n:Int))) then ((Hp.ldSl H16 bV cr).bind fun s97=>(Sl.idx s97 dD 5).bind fun p98=>(Hp.ldI H16 .i64 p98.1 p98.2).bind fun n99=>(Hp.ldI H16 .i64 p98.1 (p98.2 + 1)).bind fun n100=>(Hp.ldI H16 .i64 p98.1 (p98.2 + 2)).bind fun n101=>(Hp.ldI H16 .i64 p98.1 (p98.2 + 3)).bind fun n102=>(Hp.ldI H16 .i64 p98.1 (p98.2 + 4)).bind fun n103=>(Hp.new H16 [.int .i64 0,.int .i64 0,.int .i64 0,.int .i64 0,.int .i64 0]).bind fun H104=>(Hp.st H104 H16.length 0 (.int .i64 n99)).bind fun H105=>(Hp.st H105 H16.length (0 + 1) (.int .i64 n100)).bind fun H106=>(Hp.st H106 H16.length (0 + 1 + 1) (.int .i64 n101)).bind fun H107=>(Hp.st H107 H16.length (0 + 1 + 1 + 1) (.int .i64 n102)).bind fun H108=>(Hp.st H108 H16.length (0 + 1 + 1 + 1 + 1) (.int .i64 n103)).bind fun H109=>(Hp.ldI H109 .i64 H16.length 4).bind fun n110=>(bif (n110 != 1) then ((Hp.ldI H109 .i64 H16.length 4).bind fun n111=>(bif (n111 != (-1)) then (some ((.bool false),H109)) else (au.l3927 F aS bO aT (au.l61 F aS bO aT bv) F bV cr cd cN cb dD H16.length 0 0 H109))) else (au.l3927 F aS bO aT (au.l61 F aS bO aT bv) F bV cr cd cN cb dD H16.length 0 0 H109))) else (some ((.bool true),H16)))
termination_by structural n=>n
noncomputable def au.twX (F:Nat) (aS:Int→Int→Int→Int→Int→Int→Hp→OA) (bO:Int→Int→Int→Hp→OA) (aT:Int→Int→Int→Int→Int→Int→Hp→OA) (aa:Sl) (ab:Int) (H:Hp):OA:=(Hp.new H [(.sl aa),(.int .i64 ab)]).bind fun H3=>(Hp.ldSl H3 H.length 0).bind fun s4=>(Hp.mk H3 [.bool false] 1 (IntKind.i64.wrap (2 * (s4.n:Int))) (IntKind.i64.wrap (2 * (s4.n:Int)))).bind fun m5=>(Hp.mk m5.2 [.bool false] 1 (IntKind.i64.wrap (2 * (s4.n:Int))) (IntKind.i64.wrap (2 * (s4.n:Int)))).bind fun m6=>au.l61 F aS bO aT F H.length 0 (IntKind.i64.wrap (2 * (s4.n:Int))) m5.1 m6.1 0 m6.2
noncomputable def au.tw (F:Nat) (aa:Sl) (ab:Int) (H:Hp):OA:=au.twX F (aX.tw F) (bh.tw F) (aY.tw F) aa ab H
noncomputable def au.code:Go.Code:=(Try.f104.body).getD .skip
noncomputable def au.lh61 (F:Nat) (aS:Int→Int→Int→Int→Int→Int→Hp→OA) (bO:Int→Int→Int→Hp→OA) (aT:Int→Int→Int→Int→Int→Int→Hp→OA) (ks:List Nat) (n:Nat) (tm:Tm) (H:Hp):OA:=match ks,tm 1,tm 3,tm 4,tm 5,tm 6 with
 | [],(.ptr bV cr),(.int .i64 cd),(.sl cN),(.sl cb),(.int .i64 dD)=>au.l61 F aS bO aT n bV cr cd cN cb dD H
 | _,_,_,_,_,_=>none
theorem au.lh61_inv {F:Nat} {aS:Int→Int→Int→Int→Int→Int→Hp→OA} {bO:Int→Int→Int→Hp→OA} {aT:Int→Int→Int→Int→Int→Int→Hp→OA} {ks:List Nat} {n:Nat} {tm:Tm} {H:Hp} {r:AV×Hp} (h:au.lh61 F aS bO aT ks n tm H = some r):∃ bV:Nat,∃ cr:Nat,∃ cd:Int,∃ cN:Sl,∃ cb:Sl,∃ dD:Int,ks = []∧tm 1 = (.ptr bV cr)∧tm 3 = (.int .i64 cd)∧tm 4 = (.sl cN)∧tm 5 = (.sl cb)∧tm 6 = (.int .i64 dD)∧au.l61 F aS bO aT n bV cr cd cN cb dD H = some r:=by
 unfold au.lh61 at h
 split at h
 ·exact ⟨_,_,_,_,_,_,rfl,by assumption,by assumption,by assumption,by assumption,by assumption,h⟩
 ·cases h
noncomputable def au.lh3927 (F:Nat) (aS:Int→Int→Int→Int→Int→Int→Hp→OA) (bO:Int→Int→Int→Hp→OA) (aT:Int→Int→Int→Int→Int→Int→Hp→OA) (ks:List Nat) (n:Nat) (tm:Tm) (H:Hp):OA:=match ks,tm 1,tm 3,tm 4,tm 5,tm 6,tm 7,tm 8 with
 | [bv],(.ptr dC fd),(.int .i64 cJ),(.sl fe),(.sl fw),(.int .i64 cg),(.ptr cM d_),(.int .i64 cX)=>au.l3927 F aS bO aT (au.l61 F aS bO aT bv) n dC fd cJ fe fw cg cM d_ cX H
 | _,_,_,_,_,_,_,_=>none
theorem au.lh3927_inv {F:Nat} {aS:Int→Int→Int→Int→Int→Int→Hp→OA} {bO:Int→Int→Int→Hp→OA} {aT:Int→Int→Int→Int→Int→Int→Hp→OA} {ks:List Nat} {n:Nat} {tm:Tm} {H:Hp} {r:AV×Hp} (h:au.lh3927 F aS bO aT ks n tm H = some r):∃ bv:Nat,∃ dC:Nat,∃ fd:Nat,∃ cJ:Int,∃ fe:Sl,∃ fw:Sl,∃ cg:Int,∃ cM:Nat,∃ d_:Nat,∃ cX:Int,ks = [bv]∧tm 1 = (.ptr dC fd)∧tm 3 = (.int .i64 cJ)∧tm 4 = (.sl fe)∧tm 5 = (.sl fw)∧tm 6 = (.int .i64 cg)∧tm 7 = (.ptr cM d_)∧tm 8 = (.int .i64 cX)∧au.l3927 F aS bO aT (au.l61 F aS bO aT bv) n dC fd cJ fe fw cg cM d_ cX H = some r:=by
 unfold au.lh3927 at h
 split at h
 ·exact ⟨_,_,_,_,_,_,_,_,_,_,rfl,by assumption,by assumption,by assumption,by assumption,by assumption,by assumption,by assumption,h⟩
 ·cases h
noncomputable def au.lh (F:Nat) (aS:Int→Int→Int→Int→Int→Int→Hp→OA) (bO:Int→Int→Int→Hp→OA) (aT:Int→Int→Int→Int→Int→Int→Hp→OA) (p:Nat) (ks:List Nat) (n:Nat) (tm:Tm) (H:Hp):OA:=bif p.beq 3927 then au.lh3927 F aS bO aT ks n tm H else (bif p.beq 61 then au.lh61 F aS bO aT ks n tm H else (none))
def au.pn:Nat→List Nat:=fun i=>(([(2,[])]:List (Nat×List Nat)).lookup i).getD []
def au.tb:Nat→List (List Nat):=fun i=>(([(2,[[],[0],[],[2],[0,1],[0,1,2,3,4]])]:List (Nat×List (List Nat))).lookup i).getD []
noncomputable def au.mk (g:Sl→Int→Hp→OA) (args:List AV) (H:Hp):OA:=match args with
 | [(.agg [(.sl aa),(.int .i64 ab)])]=>g aa ab H
 | _=>none
noncomputable def au.cs (F:Nat) (aS:Int→Int→Int→Int→Int→Int→Hp→OA) (bO:Int→Int→Int→Hp→OA) (aT:Int→Int→Int→Int→Int→Int→Hp→OA):List (FuncId×(List AV→Hp→OA)):=[(140,aX.mk aS),(65,bh.mk bO),(141,aY.mk aT)]
theorem au.loops (F:Nat) (aS:Int→Int→Int→Int→Int→Int→Hp→OA) (bO:Int→Int→Int→Hp→OA) (aT:Int→Int→Int→Int→Int→Int→Hp→OA):LoopsOk tabs (mkOrc (au.cs F aS bO aT)) au.pn (au.lh F aS bO aT) F [] 1 au.code (fun tm H=>aresults tabs.ty H tm Try.f104.results.toList fun v=>some (v,H)) (fun _ _ _=>none) (fun tm H=>aresults tabs.ty H tm Try.f104.results.toList fun v=>some (v,H)):=by
 refine LoopsOk.seq ?_ ?_
 ·exact loops_none (by kernel_rfl)
 ·refine LoopsOk.seq ?_ ?_
  ·exact loops_none (by kernel_rfl)
  ·refine LoopsOk.seq ?_ ?_
   ·exact loops_none (by kernel_rfl)
   ·refine LoopsOk.seq ?_ ?_
    ·refine LoopsOk.seq ?_ ?_
     ·exact loops_none (by kernel_rfl)
     ·refine LoopsOk.block ?_
      refine LoopsOk.loop (fun tm H=>?_) (fun k61 tm H r h0=>?_) (fun k61=>?_)
      ·refine none_of fun r h0=>?_
       obtain ⟨bV,cr,cd,cN,cb,dD,hks,e1,e3,e4,e5,e6,h⟩:=au.lh61_inv (show au.lh61 F aS bO aT [] 0 tm H = some r from h0)
       cases h
      ·obtain ⟨bV,cr,cd,cN,cb,dD,hks,e1,e3,e4,e5,e6,h⟩:=au.lh61_inv (show au.lh61 F aS bO aT [] (k61 + 1) tm H = some r from h0)
       have q0:(Tm.put tm 1 (.ptr bV cr)) = tm:=by exact Tm.put_same e1
       have q1:(Tm.put (Tm.put tm 1 (.ptr bV cr)) 3 (.int .i64 cd)) = tm:=by rw [q0]; exact Tm.put_same e3
       have q2:(Tm.put (Tm.put (Tm.put tm 1 (.ptr bV cr)) 3 (.int .i64 cd)) 4 (.sl cN)) = tm:=by rw [q1]; exact Tm.put_same e4
       have q3:(Tm.put (Tm.put (Tm.put (Tm.put tm 1 (.ptr bV cr)) 3 (.int .i64 cd)) 4 (.sl cN)) 5 (.sl cb)) = tm:=by rw [q2]; exact Tm.put_same e5
       have q4:(Tm.put (Tm.put (Tm.put (Tm.put (Tm.put tm 1 (.ptr bV cr)) 3 (.int .i64 cd)) 4 (.sl cN)) 5 (.sl cb)) 6 (.int .i64 dD)) = tm:=by rw [q3]; exact Tm.put_same e6
       rw [← q4]
       exact Eq.trans (by kernel_rfl) h
      ·refine LoopsOk.seq ?_ ?_
       ·exact loops_none (by kernel_rfl)
       ·refine LoopsOk.seq ?_ ?_
        ·refine LoopsOk.block ?_
         refine LoopsOk.seq ?_ ?_
         ·exact loops_none (by kernel_rfl)
         ·refine LoopsOk.seq ?_ ?_
          ·exact loops_none (by kernel_rfl)
          ·refine LoopsOk.seq ?_ ?_
           ·exact loops_none (by kernel_rfl)
           ·refine LoopsOk.block ?_
            refine LoopsOk.loop (fun tm H=>?_) (fun k3927 tm H r h0=>?_) (fun k3927=>?_)
            ·refine none_of fun r h0=>?_
             obtain ⟨bv,dC,fd,cJ,fe,fw,cg,cM,d_,cX,hks,e1,e3,e4,e5,e6,e7,e8,h⟩:=au.lh3927_inv (show au.lh3927 F aS bO aT [k61] 0 tm H = some r from h0)
             cases h
            ·obtain ⟨bv,dC,fd,cJ,fe,fw,cg,cM,d_,cX,hks,e1,e3,e4,e5,e6,e7,e8,h⟩:=au.lh3927_inv (show au.lh3927 F aS bO aT [k61] (k3927 + 1) tm H = some r from h0)
             obtain rfl:bv = k61:=by simpa [eq_comm] using hks
             have q0:(Tm.put tm 1 (.ptr dC fd)) = tm:=by exact Tm.put_same e1
             have q1:(Tm.put (Tm.put tm 1 (.ptr dC fd)) 3 (.int .i64 cJ)) = tm:=by rw [q0]; exact Tm.put_same e3
             have q2:(Tm.put (Tm.put (Tm.put tm 1 (.ptr dC fd)) 3 (.int .i64 cJ)) 4 (.sl fe)) = tm:=by rw [q1]; exact Tm.put_same e4
             have q3:(Tm.put (Tm.put (Tm.put (Tm.put tm 1 (.ptr dC fd)) 3 (.int .i64 cJ)) 4 (.sl fe)) 5 (.sl fw)) = tm:=by rw [q2]; exact Tm.put_same e5
             have q4:(Tm.put (Tm.put (Tm.put (Tm.put (Tm.put tm 1 (.ptr dC fd)) 3 (.int .i64 cJ)) 4 (.sl fe)) 5 (.sl fw)) 6 (.int .i64 cg)) = tm:=by rw [q3]; exact Tm.put_same e6
             have q5:(Tm.put (Tm.put (Tm.put (Tm.put (Tm.put (Tm.put tm 1 (.ptr dC fd)) 3 (.int .i64 cJ)) 4 (.sl fe)) 5 (.sl fw)) 6 (.int .i64 cg)) 7 (.ptr cM d_)) = tm:=by rw [q4]; exact Tm.put_same e7
             have q6:(Tm.put (Tm.put (Tm.put (Tm.put (Tm.put (Tm.put (Tm.put tm 1 (.ptr dC fd)) 3 (.int .i64 cJ)) 4 (.sl fe)) 5 (.sl fw)) 6 (.int .i64 cg)) 7 (.ptr cM d_)) 8 (.int .i64 cX)) = tm:=by rw [q5]; exact Tm.put_same e8
             rw [← q6]
             exact Eq.trans (by kernel_rfl) h
            ·exact loops_none (by kernel_rfl)
        ·exact loops_none (by kernel_rfl)
    ·exact loops_none (by kernel_rfl)
theorem au.eqX (F:Nat) (aS:Int→Int→Int→Int→Int→Int→Hp→OA) (bO:Int→Int→Int→Hp→OA) (aT:Int→Int→Int→Int→Int→Int→Hp→OA) (aa:Sl) (ab:Int) (H:Hp):aCode tabs (mkOrc (au.cs F aS bO aT)) au.pn (au.lh F aS bO aT) F [] 1 au.code (argTm [(.agg [(.sl aa),(.int .i64 ab)])]) H (fun tm H=>aresults tabs.ty H tm Try.f104.results.toList fun v=>some (v,H)) (fun _ _ _=>none) (fun tm H=>aresults tabs.ty H tm Try.f104.results.toList fun v=>some (v,H)) = au.twX F aS bO aT aa ab H:=by kernel_rfl
theorem au.cs_ok (F:Nat):∀ p ∈ au.cs F (aX.tw F) (bh.tw F) (aY.tw F),∀ args H v H',p.2 args H = some (v,H')→Go.AE.T Try.prog p.1 args H v H':=by
 intro p hp
 simp only [au.cs,List.mem_cons,List.not_mem_nil,or_false] at hp
 rcases hp with rfl | rfl | rfl
 ·exact fun args H v H' h=>aX.mk_T h
 ·exact fun args H v H' h=>bh.mk_T h
 ·exact fun args H v H' h=>aY.mk_T h
theorem au.ok:codeOk au.pn Try.f104.ntmps au.tb au.code = true:=by kernel_rfl
theorem au.T {F:Nat} {aa:Sl} {ab:Int} {H:Hp} {v:AV} {H':Hp} (h:au.tw F aa ab H = some (v,H')):Go.AE.T Try.prog 104 [(.agg [(.sl aa),(.int .i64 ab)])] H v H':=
 Go.AE.T.of (Y:=tabs) (C:=mkOrc (au.cs F (aX.tw F) (bh.tw F) (aY.tw F))) (PN:=au.pn) (LH:=au.lh F (aX.tw F) (bh.tw F) (aY.tw F)) (F:=F) (TB:=au.tb) (fn:=Try.f104) (code:=au.code) mixed tabs_ok (mkOrc_ok (au.cs_ok F)) Try.func104 (by kernel_rfl) (by kernel_rfl) au.ok (Nat.le_of_ble_eq_true (by kernel_rfl)) (au.loops F (aX.tw F) (bh.tw F) (aY.tw F)) (Eq.trans (au.eqX F (aX.tw F) (bh.tw F) (aY.tw F) aa ab H) h)
theorem au.mk_T {F:Nat} {args:List AV} {H:Hp} {v:AV} {H':Hp} (h:au.mk (au.tw F) args H = some (v,H')):Go.AE.T Try.prog 104 args H v H':=by
 unfold au.mk at h
 split at h
 ·exact au.T h
 ·cases h
noncomputable def ak.j3 (F:Nat) (aS:Int→Int→Int→Int→Int→Int→Hp→OA) (aT:Int→Int→Int→Int→Int→Int→Hp→OA) (C13_:Int→Bool→Nat→Nat→Int→Hp→OA) (jf:Int) (j_:Bool) (ka:Nat) (CM:Nat) (kb:Int) (H147:Hp):OA:=C13_ jf j_ ka CM (IntKind.i64.wrap (kb + 1)) H147
noncomputable def ak.j4 (F:Nat) (aS:Int→Int→Int→Int→Int→Int→Hp→OA) (aT:Int→Int→Int→Int→Int→Int→Hp→OA) (C13_:Int→Bool→Nat→Nat→Int→Hp→OA) (kd:Int) (ke:Bool) (oS:Nat) (CN:Nat) (kf:Int) (H134:Hp):OA:=ak.j3 F aS aT C13_ kd ke oS CN kf H134
noncomputable def ak.l213 (F:Nat) (aS:Int→Int→Int→Int→Int→Int→Hp→OA) (aT:Int→Int→Int→Int→Int→Int→Hp→OA) (C13_:Int→Bool→Nat→Nat→Int→Hp→OA):Nat→Int→Bool→Nat→Nat→Int→Int→Hp→OA
 | 0,_,_,_,_,_,_,_=>none
 | vX + 1,cO,cT,eg,fE,cK,cP,H103=>(bif (decide (cP < 4)) then ((Hp.ldSl H103 eg fE).bind fun s148=>(Sl.idx s148 cK 5).bind fun p149=>(Hp.ldI H103 .i64 p149.1 p149.2).bind fun n150=>(Hp.ldI H103 .i64 p149.1 (p149.2 + 1)).bind fun n151=>(Hp.ldI H103 .i64 p149.1 (p149.2 + 2)).bind fun n152=>(Hp.ldI H103 .i64 p149.1 (p149.2 + 3)).bind fun n153=>(Hp.ldI H103 .i64 p149.1 (p149.2 + 4)).bind fun n154=>(aS n150 n151 n152 n153 n154 cP H103).bind fun r155=>((r155.1).asI .i64).bind fun n156=>(bif (n156 == cO) then ((Hp.ldSl r155.2 eg fE).bind fun s157=>(Sl.idx s157 cK 5).bind fun p158=>(Hp.ldI r155.2 .i64 p158.1 p158.2).bind fun n159=>(Hp.ldI r155.2 .i64 p158.1 (p158.2 + 1)).bind fun n160=>(Hp.ldI r155.2 .i64 p158.1 (p158.2 + 2)).bind fun n161=>(Hp.ldI r155.2 .i64 p158.1 (p158.2 + 3)).bind fun n162=>(Hp.ldI r155.2 .i64 p158.1 (p158.2 + 4)).bind fun n163=>(aT n159 n160 n161 n162 n163 cP r155.2).bind fun r164=>((r164.1).asB).bind fun b165=>(bif (b165 == cT) then (some ((.tup [(.int .i64 cK),(.int .i64 cP)]),r164.2)) else (ak.l213 F aS aT C13_ vX cO cT eg fE cK (IntKind.i64.wrap (cP + 1)) r164.2))) else (ak.l213 F aS aT C13_ vX cO cT eg fE cK (IntKind.i64.wrap (cP + 1)) r155.2))) else (ak.j4 F aS aT C13_ cO cT eg fE cK H103))
termination_by structural n=>n
noncomputable def ak.l13 (F:Nat) (aS:Int→Int→Int→Int→Int→Int→Hp→OA) (aT:Int→Int→Int→Int→Int→Int→Hp→OA) :Nat→Int→Bool→Nat→Nat→Int→Hp→OA
 | 0,_,_,_,_,_,_=>none
 | ff + 1,ck,eO,cv,cl,eP,H15=>(Hp.ldSl H15 cv cl).bind fun s91=>(bif (decide (eP < (s91.n:Int))) then (ak.l213 F aS aT (ak.l13 F aS aT ff) F ck eO cv cl eP 0 H15) else (some ((.tup [(.int .i64 (-1)),(.int .i64 (-1))]),H15)))
termination_by structural n=>n
noncomputable def ak.twX (F:Nat) (aS:Int→Int→Int→Int→Int→Int→Hp→OA) (aT:Int→Int→Int→Int→Int→Int→Hp→OA) (aa:Sl) (ab:Int) (aq:Int) (fg:Bool) (H:Hp):OA:=(Hp.new H [(.sl aa),(.int .i64 ab)]).bind fun H5=>ak.l13 F aS aT F aq fg H.length 0 0 H5
noncomputable def ak.tw (F:Nat) (aa:Sl) (ab:Int) (aq:Int) (fg:Bool) (H:Hp):OA:=ak.twX F (aX.tw F) (aY.tw F) aa ab aq fg H
noncomputable def ak.code:Go.Code:=(Try.f152.body).getD .skip
noncomputable def ak.lh13 (F:Nat) (aS:Int→Int→Int→Int→Int→Int→Hp→OA) (aT:Int→Int→Int→Int→Int→Int→Hp→OA) (ks:List Nat) (n:Nat) (tm:Tm) (H:Hp):OA:=match ks,tm 1,tm 2,tm 3,tm 8 with
 | [],(.int .i64 ck),(.bool eO),(.ptr cv cl),(.int .i64 eP)=>ak.l13 F aS aT n ck eO cv cl eP H
 | _,_,_,_,_=>none
theorem ak.lh13_inv {F:Nat} {aS:Int→Int→Int→Int→Int→Int→Hp→OA} {aT:Int→Int→Int→Int→Int→Int→Hp→OA} {ks:List Nat} {n:Nat} {tm:Tm} {H:Hp} {r:AV×Hp} (h:ak.lh13 F aS aT ks n tm H = some r):∃ ck:Int,∃ eO:Bool,∃ cv:Nat,∃ cl:Nat,∃ eP:Int,ks = []∧tm 1 = (.int .i64 ck)∧tm 2 = (.bool eO)∧tm 3 = (.ptr cv cl)∧tm 8 = (.int .i64 eP)∧ak.l13 F aS aT n ck eO cv cl eP H = some r:=by
 unfold ak.lh13 at h
 split at h
 ·exact ⟨_,_,_,_,_,rfl,by assumption,by assumption,by assumption,by assumption,h⟩
 ·cases h
noncomputable def ak.lh213 (F:Nat) (aS:Int→Int→Int→Int→Int→Int→Hp→OA) (aT:Int→Int→Int→Int→Int→Int→Hp→OA) (ks:List Nat) (n:Nat) (tm:Tm) (H:Hp):OA:=match ks,tm 1,tm 2,tm 3,tm 8,tm 9 with
 | [ff],(.int .i64 cO),(.bool cT),(.ptr eg fE),(.int .i64 cK),(.int .i64 cP)=>ak.l213 F aS aT (ak.l13 F aS aT ff) n cO cT eg fE cK cP H
 | _,_,_,_,_,_=>none
theorem ak.lh213_inv {F:Nat} {aS:Int→Int→Int→Int→Int→Int→Hp→OA} {aT:Int→Int→Int→Int→Int→Int→Hp→OA} {ks:List Nat} {n:Nat} {tm:Tm} {H:Hp} {r:AV×Hp} (h:ak.lh213 F aS aT ks n tm H = some r):∃ ff:Nat,∃ cO:Int,∃ cT:Bool,∃ eg:Nat,∃ fE:Nat,∃ cK:Int,∃ cP:Int,ks = [ff]∧tm 1 = (.int .i64 cO)∧tm 2 = (.bool cT)∧tm 3 = (.ptr eg fE)∧tm 8 = (.int .i64 cK)∧tm 9 = (.int .i64 cP)∧ak.l213 F aS aT (ak.l13 F aS aT ff) n cO cT eg fE cK cP H = some r:=by
 unfold ak.lh213 at h
 split at h
 ·exact ⟨_,_,_,_,_,_,_,rfl,by assumption,by assumption,by assumption,by assumption,by assumption,h⟩
 ·cases h
noncomputable def ak.lh (F:Nat) (aS:Int→Int→Int→Int→Int→Int→Hp→OA) (aT:Int→Int→Int→Int→Int→Int→Hp→OA) (p:Nat) (ks:List Nat) (n:Nat) (tm:Tm) (H:Hp):OA:=bif p.beq 213 then ak.lh213 F aS aT ks n tm H else (bif p.beq 13 then ak.lh13 F aS aT ks n tm H else (none))
def ak.pn:Nat→List Nat:=fun i=>(([]:List (Nat×List Nat)).lookup i).getD []
def ak.tb:Nat→List (List Nat):=fun i=>(([]:List (Nat×List (List Nat))).lookup i).getD []
noncomputable def ak.mk (g:Sl→Int→Int→Bool→Hp→OA) (args:List AV) (H:Hp):OA:=match args with
 | [(.agg [(.sl aa),(.int .i64 ab)]),(.int .i64 aq),(.bool fg)]=>g aa ab aq fg H
 | _=>none
noncomputable def ak.cs (F:Nat) (aS:Int→Int→Int→Int→Int→Int→Hp→OA) (aT:Int→Int→Int→Int→Int→Int→Hp→OA):List (FuncId×(List AV→Hp→OA)):=[(140,aX.mk aS),(141,aY.mk aT)]
theorem ak.loops (F:Nat) (aS:Int→Int→Int→Int→Int→Int→Hp→OA) (aT:Int→Int→Int→Int→Int→Int→Hp→OA):LoopsOk tabs (mkOrc (ak.cs F aS aT)) ak.pn (ak.lh F aS aT) F [] 1 ak.code (fun tm H=>aresults tabs.ty H tm Try.f152.results.toList fun v=>some (v,H)) (fun _ _ _=>none) (fun tm H=>aresults tabs.ty H tm Try.f152.results.toList fun v=>some (v,H)):=by
 refine LoopsOk.seq ?_ ?_
 ·exact loops_none (by kernel_rfl)
 ·refine LoopsOk.seq ?_ ?_
  ·refine LoopsOk.seq ?_ ?_
   ·exact loops_none (by kernel_rfl)
   ·refine LoopsOk.block ?_
    refine LoopsOk.loop (fun tm H=>?_) (fun k13 tm H r h0=>?_) (fun k13=>?_)
    ·refine none_of fun r h0=>?_
     obtain ⟨ck,eO,cv,cl,eP,hks,e1,e2,e3,e8,h⟩:=ak.lh13_inv (show ak.lh13 F aS aT [] 0 tm H = some r from h0)
     cases h
    ·obtain ⟨ck,eO,cv,cl,eP,hks,e1,e2,e3,e8,h⟩:=ak.lh13_inv (show ak.lh13 F aS aT [] (k13 + 1) tm H = some r from h0)
     have q0:(Tm.put tm 1 (.int .i64 ck)) = tm:=by exact Tm.put_same e1
     have q1:(Tm.put (Tm.put tm 1 (.int .i64 ck)) 2 (.bool eO)) = tm:=by rw [q0]; exact Tm.put_same e2
     have q2:(Tm.put (Tm.put (Tm.put tm 1 (.int .i64 ck)) 2 (.bool eO)) 3 (.ptr cv cl)) = tm:=by rw [q1]; exact Tm.put_same e3
     have q3:(Tm.put (Tm.put (Tm.put (Tm.put tm 1 (.int .i64 ck)) 2 (.bool eO)) 3 (.ptr cv cl)) 8 (.int .i64 eP)) = tm:=by rw [q2]; exact Tm.put_same e8
     rw [← q3]
     exact Eq.trans (by kernel_rfl) h
    ·refine LoopsOk.seq ?_ ?_
     ·exact loops_none (by kernel_rfl)
     ·refine LoopsOk.seq ?_ ?_
      ·refine LoopsOk.block ?_
       refine LoopsOk.seq ?_ ?_
       ·exact loops_none (by kernel_rfl)
       ·refine LoopsOk.block ?_
        refine LoopsOk.loop (fun tm H=>?_) (fun k213 tm H r h0=>?_) (fun k213=>?_)
        ·refine none_of fun r h0=>?_
         obtain ⟨ff,cO,cT,eg,fE,cK,cP,hks,e1,e2,e3,e8,e9,h⟩:=ak.lh213_inv (show ak.lh213 F aS aT [k13] 0 tm H = some r from h0)
         cases h
        ·obtain ⟨ff,cO,cT,eg,fE,cK,cP,hks,e1,e2,e3,e8,e9,h⟩:=ak.lh213_inv (show ak.lh213 F aS aT [k13] (k213 + 1) tm H = some r from h0)
         obtain rfl:ff = k13:=by simpa [eq_comm] using hks
         have q0:(Tm.put tm 1 (.int .i64 cO)) = tm:=by exact Tm.put_same e1
         have q1:(Tm.put (Tm.put tm 1 (.int .i64 cO)) 2 (.bool cT)) = tm:=by rw [q0]; exact Tm.put_same e2
         have q2:(Tm.put (Tm.put (Tm.put tm 1 (.int .i64 cO)) 2 (.bool cT)) 3 (.ptr eg fE)) = tm:=by rw [q1]; exact Tm.put_same e3
         have q3:(Tm.put (Tm.put (Tm.put (Tm.put tm 1 (.int .i64 cO)) 2 (.bool cT)) 3 (.ptr eg fE)) 8 (.int .i64 cK)) = tm:=by rw [q2]; exact Tm.put_same e8
         have q4:(Tm.put (Tm.put (Tm.put (Tm.put (Tm.put tm 1 (.int .i64 cO)) 2 (.bool cT)) 3 (.ptr eg fE)) 8 (.int .i64 cK)) 9 (.int .i64 cP)) = tm:=by rw [q3]; exact Tm.put_same e9
         rw [← q4]
         exact Eq.trans (by kernel_rfl) h
        ·exact loops_none (by kernel_rfl)
      ·exact loops_none (by kernel_rfl)
  ·exact loops_none (by kernel_rfl)
theorem ak.eqX (F:Nat) (aS:Int→Int→Int→Int→Int→Int→Hp→OA) (aT:Int→Int→Int→Int→Int→Int→Hp→OA) (aa:Sl) (ab:Int) (aq:Int) (fg:Bool) (H:Hp):aCode tabs (mkOrc (ak.cs F aS aT)) ak.pn (ak.lh F aS aT) F [] 1 ak.code (argTm [(.agg [(.sl aa),(.int .i64 ab)]),(.int .i64 aq),(.bool fg)]) H (fun tm H=>aresults tabs.ty H tm Try.f152.results.toList fun v=>some (v,H)) (fun _ _ _=>none) (fun tm H=>aresults tabs.ty H tm Try.f152.results.toList fun v=>some (v,H)) = ak.twX F aS aT aa ab aq fg H:=by kernel_rfl
theorem ak.cs_ok (F:Nat):∀ p ∈ ak.cs F (aX.tw F) (aY.tw F),∀ args H v H',p.2 args H = some (v,H')→Go.AE.T Try.prog p.1 args H v H':=by
 intro p hp
 simp only [ak.cs,List.mem_cons,List.not_mem_nil,or_false] at hp
 rcases hp with rfl | rfl
 ·exact fun args H v H' h=>aX.mk_T h
 ·exact fun args H v H' h=>aY.mk_T h
theorem ak.ok:codeOk ak.pn Try.f152.ntmps ak.tb ak.code = true:=by kernel_rfl
theorem ak.T {F:Nat} {aa:Sl} {ab:Int} {aq:Int} {fg:Bool} {H:Hp} {v:AV} {H':Hp} (h:ak.tw F aa ab aq fg H = some (v,H')):Go.AE.T Try.prog 152 [(.agg [(.sl aa),(.int .i64 ab)]),(.int .i64 aq),(.bool fg)] H v H':=
 Go.AE.T.of (Y:=tabs) (C:=mkOrc (ak.cs F (aX.tw F) (aY.tw F))) (PN:=ak.pn) (LH:=ak.lh F (aX.tw F) (aY.tw F)) (F:=F) (TB:=ak.tb) (fn:=Try.f152) (code:=ak.code) mixed tabs_ok (mkOrc_ok (ak.cs_ok F)) Try.func152 (by kernel_rfl) (by kernel_rfl) ak.ok (Nat.le_of_ble_eq_true (by kernel_rfl)) (ak.loops F (aX.tw F) (aY.tw F)) (Eq.trans (ak.eqX F (aX.tw F) (aY.tw F) aa ab aq fg H) h)
theorem ak.mk_T {F:Nat} {args:List AV} {H:Hp} {v:AV} {H':Hp} (h:ak.mk (ak.tw F) args H = some (v,H')):Go.AE.T Try.prog 152 args H v H':=by
 unfold ak.mk at h
 split at h
 ·exact ak.T h
 ·cases h
noncomputable def bt.twX (F:Nat) (aS:Int→Int→Int→Int→Int→Int→Hp→OA) (aT:Int→Int→Int→Int→Int→Int→Hp→OA) (bq:Sl→Int→Int→Bool→Hp→OA) (aa:Sl) (ab:Int) (aq:Int) (H:Hp):OA:=(Hp.new H [(.sl aa),(.int .i64 ab)]).bind fun H4=>(Hp.ldSl H4 H.length 0).bind fun s5=>(Sl.idx s5 (IntKind.i64.wrap (Int.tdiv aq 4)) 5).bind fun p6=>(Hp.ldI H4 .i64 p6.1 p6.2).bind fun n7=>(Hp.ldI H4 .i64 p6.1 (p6.2 + 1)).bind fun n8=>(Hp.ldI H4 .i64 p6.1 (p6.2 + 2)).bind fun n9=>(Hp.ldI H4 .i64 p6.1 (p6.2 + 3)).bind fun n10=>(Hp.ldI H4 .i64 p6.1 (p6.2 + 4)).bind fun n11=>(Hp.new H4 [.int .i64 0,.int .i64 0,.int .i64 0,.int .i64 0,.int .i64 0]).bind fun H12=>(Hp.st H12 H4.length 0 (.int .i64 n7)).bind fun H13=>(Hp.st H13 H4.length (0 + 1) (.int .i64 n8)).bind fun H14=>(Hp.st H14 H4.length (0 + 1 + 1) (.int .i64 n9)).bind fun H15=>(Hp.st H15 H4.length (0 + 1 + 1 + 1) (.int .i64 n10)).bind fun H16=>(Hp.st H16 H4.length (0 + 1 + 1 + 1 + 1) (.int .i64 n11)).bind fun H17=>(Hp.ldSl H17 H.length 0).bind fun s18=>(Hp.ldI H17 .i64 H.length (0 + 1)).bind fun n19=>(Hp.ldI H17 .i64 H4.length 0).bind fun n20=>(Hp.ldI H17 .i64 H4.length (0 + 1)).bind fun n21=>(Hp.ldI H17 .i64 H4.length (0 + 2)).bind fun n22=>(Hp.ldI H17 .i64 H4.length (0 + 3)).bind fun n23=>(Hp.ldI H17 .i64 H4.length (0 + 4)).bind fun n24=>(aS n20 n21 n22 n23 n24 (Int.tmod (IntKind.i64.wrap ((Int.tmod aq 4) + 1)) 4) H17).bind fun r25=>((r25.1).asI .i64).bind fun n26=>(if Cons H17 r25.2 then ((Hp.ldI r25.2 .i64 H4.length 0).bind fun n27=>(Hp.ldI r25.2 .i64 H4.length (0 + 1)).bind fun n28=>(Hp.ldI r25.2 .i64 H4.length (0 + 2)).bind fun n29=>(Hp.ldI r25.2 .i64 H4.length (0 + 3)).bind fun n30=>(Hp.ldI r25.2 .i64 H4.length (0 + 4)).bind fun n31=>(aT n27 n28 n29 n30 n31 (Int.tmod (IntKind.i64.wrap ((Int.tmod aq 4) + 1)) 4) r25.2).bind fun r32=>((r32.1).asB).bind fun b33=>(if Cons r25.2 r32.2 then ((bq s18 n19 n26 (!b33) r32.2).bind fun r34=>((r34.1).asTup 2).bind fun l35=>(l35[0]?).bind fun v36=>((v36).asI .i64).bind fun n37=>(l35[1]?).bind fun v38=>((v38).asI .i64).bind fun n39=>some ((.int .i64 (IntKind.i64.wrap ((IntKind.i64.wrap (4 * n37)) + n39))),r34.2)) else none)) else none)
noncomputable def bt.tw (F:Nat) (aa:Sl) (ab:Int) (aq:Int) (H:Hp):OA:=bt.twX F (aX.tw F) (aY.tw F) (ak.tw F) aa ab aq H
noncomputable def bt.code:Go.Code:=(Try.f142.body).getD .skip
noncomputable def bt.lh (F:Nat) (aS:Int→Int→Int→Int→Int→Int→Hp→OA) (aT:Int→Int→Int→Int→Int→Int→Hp→OA) (bq:Sl→Int→Int→Bool→Hp→OA) (p:Nat) (ks:List Nat) (n:Nat) (tm:Tm) (H:Hp):OA:=none
def bt.pn:Nat→List Nat:=fun i=>(([(3,[8])]:List (Nat×List Nat)).lookup i).getD []
def bt.tb:Nat→List (List Nat):=fun i=>(([(3,[[],[],[],[1,2],[],[],[1,2,3,4,5],[1,2,3,4,5,6],[0,1,2,3,4,5,6,7],[0,1,2,3,4,5,6,7,8],[0,1,2,3,4,5,6,7,8,9],[0,1,2,3,4,5,6,7,8,9],[0,1,2,3,4,5,6,7,8,9,10],[0,1,2,3,4,5,6,7,8,9,10,11,12]])]:List (Nat×List (List Nat))).lookup i).getD []
noncomputable def bt.mk (g:Sl→Int→Int→Hp→OA) (args:List AV) (H:Hp):OA:=match args with
 | [(.agg [(.sl aa),(.int .i64 ab)]),(.int .i64 aq)]=>g aa ab aq H
 | _=>none
noncomputable def bt.cs (F:Nat) (aS:Int→Int→Int→Int→Int→Int→Hp→OA) (aT:Int→Int→Int→Int→Int→Int→Hp→OA) (bq:Sl→Int→Int→Bool→Hp→OA):List (FuncId×(List AV→Hp→OA)):=[(140,aX.mk aS),(141,aY.mk aT),(152,ak.mk bq)]
theorem bt.loops (F:Nat) (aS:Int→Int→Int→Int→Int→Int→Hp→OA) (aT:Int→Int→Int→Int→Int→Int→Hp→OA) (bq:Sl→Int→Int→Bool→Hp→OA):LoopsOk tabs (mkOrc (bt.cs F aS aT bq)) bt.pn (bt.lh F aS aT bq) F [] 1 bt.code (fun tm H=>aresults tabs.ty H tm Try.f142.results.toList fun v=>some (v,H)) (fun _ _ _=>none) (fun tm H=>aresults tabs.ty H tm Try.f142.results.toList fun v=>some (v,H)):=by
 exact loops_none (by kernel_rfl)
theorem bt.eqX (F:Nat) (aS:Int→Int→Int→Int→Int→Int→Hp→OA) (aT:Int→Int→Int→Int→Int→Int→Hp→OA) (bq:Sl→Int→Int→Bool→Hp→OA) (aa:Sl) (ab:Int) (aq:Int) (H:Hp):aCode tabs (mkOrc (bt.cs F aS aT bq)) bt.pn (bt.lh F aS aT bq) F [] 1 bt.code (argTm [(.agg [(.sl aa),(.int .i64 ab)]),(.int .i64 aq)]) H (fun tm H=>aresults tabs.ty H tm Try.f142.results.toList fun v=>some (v,H)) (fun _ _ _=>none) (fun tm H=>aresults tabs.ty H tm Try.f142.results.toList fun v=>some (v,H)) = bt.twX F aS aT bq aa ab aq H:=by kernel_rfl
theorem bt.cs_ok (F:Nat):∀ p ∈ bt.cs F (aX.tw F) (aY.tw F) (ak.tw F),∀ args H v H',p.2 args H = some (v,H')→Go.AE.T Try.prog p.1 args H v H':=by
 intro p hp
 simp only [bt.cs,List.mem_cons,List.not_mem_nil,or_false] at hp
 rcases hp with rfl | rfl | rfl
 ·exact fun args H v H' h=>aX.mk_T h
 ·exact fun args H v H' h=>aY.mk_T h
 ·exact fun args H v H' h=>ak.mk_T h
theorem bt.ok:codeOk bt.pn Try.f142.ntmps bt.tb bt.code = true:=by kernel_rfl
theorem bt.T {F:Nat} {aa:Sl} {ab:Int} {aq:Int} {H:Hp} {v:AV} {H':Hp} (h:bt.tw F aa ab aq H = some (v,H')):Go.AE.T Try.prog 142 [(.agg [(.sl aa),(.int .i64 ab)]),(.int .i64 aq)] H v H':=
 Go.AE.T.of (Y:=tabs) (C:=mkOrc (bt.cs F (aX.tw F) (aY.tw F) (ak.tw F))) (PN:=bt.pn) (LH:=bt.lh F (aX.tw F) (aY.tw F) (ak.tw F)) (F:=F) (TB:=bt.tb) (fn:=Try.f142) (code:=bt.code) mixed tabs_ok (mkOrc_ok (bt.cs_ok F)) Try.func142 (by kernel_rfl) (by kernel_rfl) bt.ok (Nat.le_of_ble_eq_true (by kernel_rfl)) (bt.loops F (aX.tw F) (aY.tw F) (ak.tw F)) (Eq.trans (bt.eqX F (aX.tw F) (aY.tw F) (ak.tw F) aa ab aq H) h)
theorem bt.mk_T {F:Nat} {args:List AV} {H:Hp} {v:AV} {H':Hp} (h:bt.mk (bt.tw F) args H = some (v,H')):Go.AE.T Try.prog 142 args H v H':=by
 unfold bt.mk at h
 split at h
 ·exact bt.T h
 ·cases h
noncomputable def ah.j4 (F:Nat) (bT:Sl→Int→Int→Hp→OA) (C61_:Nat→Nat→Sl→Sl→Int→Hp→OA) (oT:Nat) (CO:Nat) (CP:Sl) (CQ:Sl) (kg:Int) (H108:Hp):OA:=C61_ oT CO CP CQ (IntKind.i64.wrap (kg + 1)) H108
noncomputable def ah.j5 (F:Nat) (bT:Sl→Int→Int→Hp→OA) (C61_:Nat→Nat→Sl→Sl→Int→Hp→OA) (oU:Nat) (CS:Nat) (CT:Sl) (CU:Sl) (kh:Int) (H164:Hp):OA:=C61_ oU CS CT CU (IntKind.i64.wrap (kh + 1)) H164
noncomputable def ah.j6 (F:Nat) (bT:Sl→Int→Int→Hp→OA) (C61_:Nat→Nat→Sl→Sl→Int→Hp→OA) (oV:Nat) (jf:Nat) (ka:Sl) (CV:Sl) (ki:Int) (CW:Sl) (H147:Hp):OA:=(Hp.new H147 [(.sl CW)]).bind fun H148=>(Sl.row H148 (⟨some (H147.length,0),1,.ex 1⟩:Sl) 1).bind fun xs150=>(Hp.app H148 1 24 ka (⟨some (H147.length,0),1,.ex 1⟩:Sl).n xs150).bind fun a149=>ah.j5 F bT C61_ oV jf a149.1 CV ki a149.2
noncomputable def ah.l7853 (F:Nat) (bT:Sl→Int→Int→Hp→OA) (C61_:Nat→Nat→Sl→Sl→Int→Hp→OA):Nat→Nat→Nat→Sl→Sl→Int→Sl→Int→Hp→OA
 | 0,_,_,_,_,_,_,_,_=>none
 | CX + 1,dE,fh,fO,fF,eh,cg,cY,H122=>(Sl.idx fF cY 1).bind fun p165=>(Hp.ldB H122 p165.1 p165.2).bind fun b166=>(bif (!b166) then ((Sl.idx fF cY 1).bind fun p167=>(Hp.st H122 p167.1 p167.2 (.bool true)).bind fun H168=>(Hp.new H168 [(.int .i64 cY)]).bind fun H169=>(Sl.row H169 (⟨some (H168.length,0),1,.ex 1⟩:Sl) 1).bind fun xs171=>(Hp.app H169 1 8 cg (⟨some (H168.length,0),1,.ex 1⟩:Sl).n xs171).bind fun a170=>(Hp.ldSl a170.2 dE fh).bind fun s172=>(Hp.ldI a170.2 .i64 dE (fh + 1)).bind fun n173=>(bT s172 n173 cY a170.2).bind fun r174=>((r174.1).asI .i64).bind fun n175=>ah.l7853 F bT C61_ CX dE fh fO fF eh a170.1 n175 r174.2) else (ah.j6 F bT C61_ dE fh fO fF eh cg H122))
termination_by structural n=>n
noncomputable def ah.l61 (F:Nat) (bT:Sl→Int→Int→Hp→OA) :Nat→Nat→Nat→Sl→Sl→Int→Hp→OA
 | 0,_,_,_,_,_,_=>none
 | bv + 1,bV,cr,cd,cN,cb,H15=>(bif (decide (cb < (cN.n:Int))) then ((Sl.idx cN cb 1).bind fun p96=>(Hp.ldB H15 p96.1 p96.2).bind fun b97=>(bif b97 then (ah.j4 F bT (ah.l61 F bT bv) bV cr cd cN cb H15) else ((Hp.new H15 []).bind fun H109=>ah.l7853 F bT (ah.l61 F bT bv) F bV cr cd cN cb (⟨some (H15.length,0),0,.ex 0⟩:Sl) cb H109))) else (some ((.sl cd),H15)))
termination_by structural n=>n
noncomputable def ah.twX (F:Nat) (bT:Sl→Int→Int→Hp→OA) (aa:Sl) (ab:Int) (H:Hp):OA:=(Hp.new H [(.sl aa),(.int .i64 ab)]).bind fun H3=>(Hp.new H3 []).bind fun H4=>(Hp.ldSl H4 H.length 0).bind fun s5=>(Hp.mk H4 [.bool false] 1 (IntKind.i64.wrap (4 * (s5.n:Int))) (IntKind.i64.wrap (4 * (s5.n:Int)))).bind fun m6=>ah.l61 F bT F H.length 0 (⟨some (H3.length,0),0,.ex 0⟩:Sl) m6.1 0 m6.2
noncomputable def ah.tw (F:Nat) (aa:Sl) (ab:Int) (H:Hp):OA:=ah.twX F (bt.tw F) aa ab H
noncomputable def ah.code:Go.Code:=(Try.f105.body).getD .skip
noncomputable def ah.lh61 (F:Nat) (bT:Sl→Int→Int→Hp→OA) (ks:List Nat) (n:Nat) (tm:Tm) (H:Hp):OA:=match ks,tm 1,tm 3,tm 4,tm 5 with
 | [],(.ptr bV cr),(.sl cd),(.sl cN),(.int .i64 cb)=>ah.l61 F bT n bV cr cd cN cb H
 | _,_,_,_,_=>none
theorem ah.lh61_inv {F:Nat} {bT:Sl→Int→Int→Hp→OA} {ks:List Nat} {n:Nat} {tm:Tm} {H:Hp} {r:AV×Hp} (h:ah.lh61 F bT ks n tm H = some r):∃ bV:Nat,∃ cr:Nat,∃ cd:Sl,∃ cN:Sl,∃ cb:Int,ks = []∧tm 1 = (.ptr bV cr)∧tm 3 = (.sl cd)∧tm 4 = (.sl cN)∧tm 5 = (.int .i64 cb)∧ah.l61 F bT n bV cr cd cN cb H = some r:=by
 unfold ah.lh61 at h
 split at h
 ·exact ⟨_,_,_,_,_,rfl,by assumption,by assumption,by assumption,by assumption,h⟩
 ·cases h
noncomputable def ah.lh7853 (F:Nat) (bT:Sl→Int→Int→Hp→OA) (ks:List Nat) (n:Nat) (tm:Tm) (H:Hp):OA:=match ks,tm 1,tm 3,tm 4,tm 5,tm 6,tm 7 with
 | [bv],(.ptr dE fh),(.sl fO),(.sl fF),(.int .i64 eh),(.sl cg),(.int .i64 cY)=>ah.l7853 F bT (ah.l61 F bT bv) n dE fh fO fF eh cg cY H
 | _,_,_,_,_,_,_=>none
theorem ah.lh7853_inv {F:Nat} {bT:Sl→Int→Int→Hp→OA} {ks:List Nat} {n:Nat} {tm:Tm} {H:Hp} {r:AV×Hp} (h:ah.lh7853 F bT ks n tm H = some r):∃ bv:Nat,∃ dE:Nat,∃ fh:Nat,∃ fO:Sl,∃ fF:Sl,∃ eh:Int,∃ cg:Sl,∃ cY:Int,ks = [bv]∧tm 1 = (.ptr dE fh)∧tm 3 = (.sl fO)∧tm 4 = (.sl fF)∧tm 5 = (.int .i64 eh)∧tm 6 = (.sl cg)∧tm 7 = (.int .i64 cY)∧ah.l7853 F bT (ah.l61 F bT bv) n dE fh fO fF eh cg cY H = some r:=by
 unfold ah.lh7853 at h
 split at h
 ·exact ⟨_,_,_,_,_,_,_,_,rfl,by assumption,by assumption,by assumption,by assumption,by assumption,by assumption,h⟩
 ·cases h
noncomputable def ah.lh (F:Nat) (bT:Sl→Int→Int→Hp→OA) (p:Nat) (ks:List Nat) (n:Nat) (tm:Tm) (H:Hp):OA:=bif p.beq 7853 then ah.lh7853 F bT ks n tm H else (bif p.beq 61 then ah.lh61 F bT ks n tm H else (none))
def ah.pn:Nat→List Nat:=fun i=>(([]:List (Nat×List Nat)).lookup i).getD []
def ah.tb:Nat→List (List Nat):=fun i=>(([]:List (Nat×List (List Nat))).lookup i).getD []
noncomputable def ah.mk (g:Sl→Int→Hp→OA) (args:List AV) (H:Hp):OA:=match args with
 | [(.agg [(.sl aa),(.int .i64 ab)])]=>g aa ab H
 | _=>none
noncomputable def ah.cs (F:Nat) (bT:Sl→Int→Int→Hp→OA):List (FuncId×(List AV→Hp→OA)):=[(142,bt.mk bT)]
theorem ah.loops (F:Nat) (bT:Sl→Int→Int→Hp→OA):LoopsOk tabs (mkOrc (ah.cs F bT)) ah.pn (ah.lh F bT) F [] 1 ah.code (fun tm H=>aresults tabs.ty H tm Try.f105.results.toList fun v=>some (v,H)) (fun _ _ _=>none) (fun tm H=>aresults tabs.ty H tm Try.f105.results.toList fun v=>some (v,H)):=by
 refine LoopsOk.seq ?_ ?_
 ·exact loops_none (by kernel_rfl)
 ·refine LoopsOk.seq ?_ ?_
  ·exact loops_none (by kernel_rfl)
  ·refine LoopsOk.seq ?_ ?_
   ·exact loops_none (by kernel_rfl)
   ·refine LoopsOk.seq ?_ ?_
    ·refine LoopsOk.seq ?_ ?_
     ·exact loops_none (by kernel_rfl)
     ·refine LoopsOk.block ?_
      refine LoopsOk.loop (fun tm H=>?_) (fun k61 tm H r h0=>?_) (fun k61=>?_)
      ·refine none_of fun r h0=>?_
       obtain ⟨bV,cr,cd,cN,cb,hks,e1,e3,e4,e5,h⟩:=ah.lh61_inv (show ah.lh61 F bT [] 0 tm H = some r from h0)
       cases h
      ·obtain ⟨bV,cr,cd,cN,cb,hks,e1,e3,e4,e5,h⟩:=ah.lh61_inv (show ah.lh61 F bT [] (k61 + 1) tm H = some r from h0)
       have q0:(Tm.put tm 1 (.ptr bV cr)) = tm:=by exact Tm.put_same e1
       have q1:(Tm.put (Tm.put tm 1 (.ptr bV cr)) 3 (.sl cd)) = tm:=by rw [q0]; exact Tm.put_same e3
       have q2:(Tm.put (Tm.put (Tm.put tm 1 (.ptr bV cr)) 3 (.sl cd)) 4 (.sl cN)) = tm:=by rw [q1]; exact Tm.put_same e4
       have q3:(Tm.put (Tm.put (Tm.put (Tm.put tm 1 (.ptr bV cr)) 3 (.sl cd)) 4 (.sl cN)) 5 (.int .i64 cb)) = tm:=by rw [q2]; exact Tm.put_same e5
       rw [← q3]
       exact Eq.trans (by kernel_rfl) h
      ·refine LoopsOk.seq ?_ ?_
       ·exact loops_none (by kernel_rfl)
       ·refine LoopsOk.seq ?_ ?_
        ·refine LoopsOk.block ?_
         refine LoopsOk.seq ?_ ?_
         ·exact loops_none (by kernel_rfl)
         ·refine LoopsOk.seq ?_ ?_
          ·exact loops_none (by kernel_rfl)
          ·refine LoopsOk.seq ?_ ?_
           ·refine LoopsOk.seq ?_ ?_
            ·exact loops_none (by kernel_rfl)
            ·refine LoopsOk.block ?_
             refine LoopsOk.loop (fun tm H=>?_) (fun k7853 tm H r h0=>?_) (fun k7853=>?_)
             ·refine none_of fun r h0=>?_
              obtain ⟨bv,dE,fh,fO,fF,eh,cg,cY,hks,e1,e3,e4,e5,e6,e7,h⟩:=ah.lh7853_inv (show ah.lh7853 F bT [k61] 0 tm H = some r from h0)
              cases h
             ·obtain ⟨bv,dE,fh,fO,fF,eh,cg,cY,hks,e1,e3,e4,e5,e6,e7,h⟩:=ah.lh7853_inv (show ah.lh7853 F bT [k61] (k7853 + 1) tm H = some r from h0)
              obtain rfl:bv = k61:=by simpa [eq_comm] using hks
              have q0:(Tm.put tm 1 (.ptr dE fh)) = tm:=by exact Tm.put_same e1
              have q1:(Tm.put (Tm.put tm 1 (.ptr dE fh)) 3 (.sl fO)) = tm:=by rw [q0]; exact Tm.put_same e3
              have q2:(Tm.put (Tm.put (Tm.put tm 1 (.ptr dE fh)) 3 (.sl fO)) 4 (.sl fF)) = tm:=by rw [q1]; exact Tm.put_same e4
              have q3:(Tm.put (Tm.put (Tm.put (Tm.put tm 1 (.ptr dE fh)) 3 (.sl fO)) 4 (.sl fF)) 5 (.int .i64 eh)) = tm:=by rw [q2]; exact Tm.put_same e5
              have q4:(Tm.put (Tm.put (Tm.put (Tm.put (Tm.put tm 1 (.ptr dE fh)) 3 (.sl fO)) 4 (.sl fF)) 5 (.int .i64 eh)) 6 (.sl cg)) = tm:=by rw [q3]; exact Tm.put_same e6
              have q5:(Tm.put (Tm.put (Tm.put (Tm.put (Tm.put (Tm.put tm 1 (.ptr dE fh)) 3 (.sl fO)) 4 (.sl fF)) 5 (.int .i64 eh)) 6 (.sl cg)) 7 (.int .i64 cY)) = tm:=by rw [q4]; exact Tm.put_same e7
              rw [← q5]
              exact Eq.trans (by kernel_rfl) h
             ·exact loops_none (by kernel_rfl)
           ·exact loops_none (by kernel_rfl)
        ·exact loops_none (by kernel_rfl)
    ·exact loops_none (by kernel_rfl)
theorem ah.eqX (F:Nat) (bT:Sl→Int→Int→Hp→OA) (aa:Sl) (ab:Int) (H:Hp):aCode tabs (mkOrc (ah.cs F bT)) ah.pn (ah.lh F bT) F [] 1 ah.code (argTm [(.agg [(.sl aa),(.int .i64 ab)])]) H (fun tm H=>aresults tabs.ty H tm Try.f105.results.toList fun v=>some (v,H)) (fun _ _ _=>none) (fun tm H=>aresults tabs.ty H tm Try.f105.results.toList fun v=>some (v,H)) = ah.twX F bT aa ab H:=by kernel_rfl
theorem ah.cs_ok (F:Nat):∀ p ∈ ah.cs F (bt.tw F),∀ args H v H',p.2 args H = some (v,H')→Go.AE.T Try.prog p.1 args H v H':=by
 intro p hp
 simp only [ah.cs,List.mem_cons,List.not_mem_nil,or_false] at hp
 subst hp
 exact fun args H v H' h=>bt.mk_T h
theorem ah.ok:codeOk ah.pn Try.f105.ntmps ah.tb ah.code = true:=by kernel_rfl
theorem ah.T {F:Nat} {aa:Sl} {ab:Int} {H:Hp} {v:AV} {H':Hp} (h:ah.tw F aa ab H = some (v,H')):Go.AE.T Try.prog 105 [(.agg [(.sl aa),(.int .i64 ab)])] H v H':=
 Go.AE.T.of (Y:=tabs) (C:=mkOrc (ah.cs F (bt.tw F))) (PN:=ah.pn) (LH:=ah.lh F (bt.tw F)) (F:=F) (TB:=ah.tb) (fn:=Try.f105) (code:=ah.code) mixed tabs_ok (mkOrc_ok (ah.cs_ok F)) Try.func105 (by kernel_rfl) (by kernel_rfl) ah.ok (Nat.le_of_ble_eq_true (by kernel_rfl)) (ah.loops F (bt.tw F)) (Eq.trans (ah.eqX F (bt.tw F) aa ab H) h)
theorem ah.mk_T {F:Nat} {args:List AV} {H:Hp} {v:AV} {H':Hp} (h:ah.mk (ah.tw F) args H = some (v,H')):Go.AE.T Try.prog 105 args H v H':=by
 unfold ah.mk at h
 split at h
 ·exact ah.T h
 ·cases h
noncomputable def af.j6 (F:Nat) (bq:Sl→Int→Int→Bool→Hp→OA) (C61_:Nat→Nat→Sl→Int→Hp→OA) (oW:Nat) (CY:Nat) (CZ:Sl) (kj:Int) (H243:Hp):OA:=C61_ oW CY CZ (IntKind.i64.wrap (kj + 1)) H243
noncomputable def af.j7 (F:Nat) (bq:Sl→Int→Int→Bool→Hp→OA) (C61_:Nat→Nat→Sl→Int→Hp→OA) (oX:Nat) (C_:Nat) (kk:Sl) (jg:Int) (H226:Hp):OA:=af.j6 F bq C61_ oX C_ kk jg H226
noncomputable def af.j8 (F:Nat) (bq:Sl→Int→Int→Bool→Hp→OA) (C7855_:Nat→Nat→Sl→Int→Int→Int→Int→Hp→OA) (oY:Nat) (Da:Nat) (Db:Sl) (kl:Int) (km:Int) (kn:Int) (ko:Int) (H265:Hp):OA:=C7855_ oY Da Db kl km kn (IntKind.i64.wrap (ko + 1)) H265
noncomputable def af.l7855 (F:Nat) (bq:Sl→Int→Int→Bool→Hp→OA) (C61_:Nat→Nat→Sl→Int→Hp→OA):Nat→Nat→Nat→Sl→Int→Int→Int→Int→Hp→OA
 | 0,_,_,_,_,_,_,_,_=>none
 | vY + 1,ea,fx,eQ,dj,cw,cL,cZ,H187=>(bif (decide (cZ < (eQ.n:Int))) then ((Sl.idx eQ cZ 1).bind fun p244=>(Hp.ldI H187 .i64 p244.1 p244.2).bind fun n245=>(bif (n245 == (if cL > cw then cL else cw)) then ((Sl.idx eQ cZ 1).bind fun p246=>(Hp.st H187 p246.1 p246.2 (.int .i64 (if cL < cw then cL else cw))).bind fun H247=>af.j8 F bq (af.l7855 F bq C61_ vY) ea fx eQ dj cw cL cZ H247) else (af.j8 F bq (af.l7855 F bq C61_ vY) ea fx eQ dj cw cL cZ H187))) else (af.j7 F bq C61_ ea fx eQ dj H187))
termination_by structural n=>n
noncomputable def af.l61 (F:Nat) (bq:Sl→Int→Int→Bool→Hp→OA) :Nat→Nat→Nat→Sl→Int→Hp→OA
 | 0,_,_,_,_,_=>none
 | bv + 1,eb,fy,gc,dG,H35=>(Hp.ldSl H35 eb fy).bind fun s151=>(bif (decide (dG < (IntKind.i64.wrap (2 * (s151.n:Int))))) then ((Hp.ldSl H35 eb fy).bind fun s152=>(Hp.ldI H35 .i64 eb (fy + 1)).bind fun n153=>(bq s152 n153 dG true H35).bind fun r154=>((r154.1).asTup 2).bind fun l155=>(l155[0]?).bind fun v156=>((v156).asI .i64).bind fun n157=>(l155[1]?).bind fun v158=>((v158).asI .i64).bind fun n159=>(Hp.ldSl r154.2 eb fy).bind fun s160=>(Hp.ldI r154.2 .i64 eb (fy + 1)).bind fun n161=>(bq s160 n161 dG false r154.2).bind fun r162=>((r162.1).asTup 2).bind fun l163=>(l163[0]?).bind fun v164=>((v164).asI .i64).bind fun n165=>(l163[1]?).bind fun v166=>((v166).asI .i64).bind fun n167=>(Sl.idx gc n157 1).bind fun p168=>(Hp.ldI r162.2 .i64 p168.1 p168.2).bind fun n169=>(Sl.idx gc n165 1).bind fun p170=>(Hp.ldI r162.2 .i64 p170.1 p170.2).bind fun n171=>af.l7855 F bq (af.l61 F bq bv) F eb fy gc dG n169 n171 0 r162.2) else (some ((.sl gc),H35)))
termination_by structural n=>n
noncomputable def af.j9 (F:Nat) (bq:Sl→Int→Int→Bool→Hp→OA) (oZ:Nat) (Dc:Nat) (Dd:Sl) (H25:Hp):OA:=af.l61 F bq F oZ Dc Dd 0 H25
noncomputable def af.l29 (F:Nat) (bq:Sl→Int→Int→Bool→Hp→OA) :Nat→Nat→Nat→Sl→Int→Hp→OA
 | 0,_,_,_,_,_=>none
 | dZ + 1,eR,ck,cv,dH,H12=>(Hp.ldSl H12 eR ck).bind fun s266=>(bif (decide (dH < (s266.n:Int))) then ((Hp.new H12 [(.int .i64 dH)]).bind fun H267=>(Sl.row H267 (⟨some (H12.length,0),1,.ex 1⟩:Sl) 1).bind fun xs269=>(Hp.app H267 1 8 cv (⟨some (H12.length,0),1,.ex 1⟩:Sl).n xs269).bind fun a268=>af.l29 F bq dZ eR ck a268.1 (IntKind.i64.wrap (dH + 1)) a268.2) else (af.j9 F bq eR ck cv H12))
termination_by structural n=>n
noncomputable def af.twX (F:Nat) (bq:Sl→Int→Int→Bool→Hp→OA) (aa:Sl) (ab:Int) (H:Hp):OA:=(Hp.new H [(.sl aa),(.int .i64 ab)]).bind fun H3=>(Hp.new H3 []).bind fun H4=>af.l29 F bq F H.length 0 (⟨some (H3.length,0),0,.ex 0⟩:Sl) 0 H4
noncomputable def af.tw (F:Nat) (aa:Sl) (ab:Int) (H:Hp):OA:=af.twX F (ak.tw F) aa ab H
noncomputable def af.code:Go.Code:=(Try.f122.body).getD .skip
noncomputable def af.lh29 (F:Nat) (bq:Sl→Int→Int→Bool→Hp→OA) (ks:List Nat) (n:Nat) (tm:Tm) (H:Hp):OA:=match ks,tm 1,tm 3,tm 4 with
 | [],(.ptr eR ck),(.sl cv),(.int .i64 dH)=>af.l29 F bq n eR ck cv dH H
 | _,_,_,_=>none
theorem af.lh29_inv {F:Nat} {bq:Sl→Int→Int→Bool→Hp→OA} {ks:List Nat} {n:Nat} {tm:Tm} {H:Hp} {r:AV×Hp} (h:af.lh29 F bq ks n tm H = some r):∃ eR:Nat,∃ ck:Nat,∃ cv:Sl,∃ dH:Int,ks = []∧tm 1 = (.ptr eR ck)∧tm 3 = (.sl cv)∧tm 4 = (.int .i64 dH)∧af.l29 F bq n eR ck cv dH H = some r:=by
 unfold af.lh29 at h
 split at h
 ·exact ⟨_,_,_,_,rfl,by assumption,by assumption,by assumption,h⟩
 ·cases h
noncomputable def af.lh61 (F:Nat) (bq:Sl→Int→Int→Bool→Hp→OA) (ks:List Nat) (n:Nat) (tm:Tm) (H:Hp):OA:=match ks,tm 1,tm 3,tm 5 with
 | [],(.ptr eb fy),(.sl gc),(.int .i64 dG)=>af.l61 F bq n eb fy gc dG H
 | _,_,_,_=>none
theorem af.lh61_inv {F:Nat} {bq:Sl→Int→Int→Bool→Hp→OA} {ks:List Nat} {n:Nat} {tm:Tm} {H:Hp} {r:AV×Hp} (h:af.lh61 F bq ks n tm H = some r):∃ eb:Nat,∃ fy:Nat,∃ gc:Sl,∃ dG:Int,ks = []∧tm 1 = (.ptr eb fy)∧tm 3 = (.sl gc)∧tm 5 = (.int .i64 dG)∧af.l61 F bq n eb fy gc dG H = some r:=by
 unfold af.lh61 at h
 split at h
 ·exact ⟨_,_,_,_,rfl,by assumption,by assumption,by assumption,h⟩
 ·cases h
noncomputable def af.lh7855 (F:Nat) (bq:Sl→Int→Int→Bool→Hp→OA) (ks:List Nat) (n:Nat) (tm:Tm) (H:Hp):OA:=match ks,tm 1,tm 3,tm 5,tm 10,tm 11,tm 12 with
 | [bv],(.ptr ea fx),(.sl eQ),(.int .i64 dj),(.int .i64 cw),(.int .i64 cL),(.int .i64 cZ)=>af.l7855 F bq (af.l61 F bq bv) n ea fx eQ dj cw cL cZ H
 | _,_,_,_,_,_,_=>none
theorem af.lh7855_inv {F:Nat} {bq:Sl→Int→Int→Bool→Hp→OA} {ks:List Nat} {n:Nat} {tm:Tm} {H:Hp} {r:AV×Hp} (h:af.lh7855 F bq ks n tm H = some r):∃ bv:Nat,∃ ea:Nat,∃ fx:Nat,∃ eQ:Sl,∃ dj:Int,∃ cw:Int,∃ cL:Int,∃ cZ:Int,ks = [bv]∧tm 1 = (.ptr ea fx)∧tm 3 = (.sl eQ)∧tm 5 = (.int .i64 dj)∧tm 10 = (.int .i64 cw)∧tm 11 = (.int .i64 cL)∧tm 12 = (.int .i64 cZ)∧af.l7855 F bq (af.l61 F bq bv) n ea fx eQ dj cw cL cZ H = some r:=by
 unfold af.lh7855 at h
 split at h
 ·exact ⟨_,_,_,_,_,_,_,_,rfl,by assumption,by assumption,by assumption,by assumption,by assumption,by assumption,h⟩
 ·cases h
noncomputable def af.lh (F:Nat) (bq:Sl→Int→Int→Bool→Hp→OA) (p:Nat) (ks:List Nat) (n:Nat) (tm:Tm) (H:Hp):OA:=bif p.beq 7855 then af.lh7855 F bq ks n tm H else (bif p.beq 61 then af.lh61 F bq ks n tm H else (bif p.beq 29 then af.lh29 F bq ks n tm H else (none)))
def af.pn:Nat→List Nat:=fun i=>(([(11,[])]:List (Nat×List Nat)).lookup i).getD []
def af.tb:Nat→List (List Nat):=fun i=>(([(11,[[],[],[0,1],[0,1,2],[],[],[4,5],[4,5,6],[0,1,2,3],[0,1,2,3,4,5,6,7,8]])]:List (Nat×List (List Nat))).lookup i).getD []
noncomputable def af.mk (g:Sl→Int→Hp→OA) (args:List AV) (H:Hp):OA:=match args with
 | [(.agg [(.sl aa),(.int .i64 ab)])]=>g aa ab H
 | _=>none
noncomputable def af.cs (F:Nat) (bq:Sl→Int→Int→Bool→Hp→OA):List (FuncId×(List AV→Hp→OA)):=[(152,ak.mk bq)]
theorem af.loops (F:Nat) (bq:Sl→Int→Int→Bool→Hp→OA):LoopsOk tabs (mkOrc (af.cs F bq)) af.pn (af.lh F bq) F [] 1 af.code (fun tm H=>aresults tabs.ty H tm Try.f122.results.toList fun v=>some (v,H)) (fun _ _ _=>none) (fun tm H=>aresults tabs.ty H tm Try.f122.results.toList fun v=>some (v,H)):=by
 refine LoopsOk.seq ?_ ?_
 ·exact loops_none (by kernel_rfl)
 ·refine LoopsOk.seq ?_ ?_
  ·exact loops_none (by kernel_rfl)
  ·refine LoopsOk.seq ?_ ?_
   ·refine LoopsOk.seq ?_ ?_
    ·exact loops_none (by kernel_rfl)
    ·refine LoopsOk.block ?_
     refine LoopsOk.loop (fun tm H=>?_) (fun k29 tm H r h0=>?_) (fun k29=>?_)
     ·refine none_of fun r h0=>?_
      obtain ⟨eR,ck,cv,dH,hks,e1,e3,e4,h⟩:=af.lh29_inv (show af.lh29 F bq [] 0 tm H = some r from h0)
      cases h
     ·obtain ⟨eR,ck,cv,dH,hks,e1,e3,e4,h⟩:=af.lh29_inv (show af.lh29 F bq [] (k29 + 1) tm H = some r from h0)
      have q0:(Tm.put tm 1 (.ptr eR ck)) = tm:=by exact Tm.put_same e1
      have q1:(Tm.put (Tm.put tm 1 (.ptr eR ck)) 3 (.sl cv)) = tm:=by rw [q0]; exact Tm.put_same e3
      have q2:(Tm.put (Tm.put (Tm.put tm 1 (.ptr eR ck)) 3 (.sl cv)) 4 (.int .i64 dH)) = tm:=by rw [q1]; exact Tm.put_same e4
      rw [← q2]
      exact Eq.trans (by kernel_rfl) h
     ·exact loops_none (by kernel_rfl)
   ·refine LoopsOk.seq ?_ ?_
    ·refine LoopsOk.seq ?_ ?_
     ·exact loops_none (by kernel_rfl)
     ·refine LoopsOk.block ?_
      refine LoopsOk.loop (fun tm H=>?_) (fun k61 tm H r h0=>?_) (fun k61=>?_)
      ·refine none_of fun r h0=>?_
       obtain ⟨eb,fy,gc,dG,hks,e1,e3,e5,h⟩:=af.lh61_inv (show af.lh61 F bq [] 0 tm H = some r from h0)
       cases h
      ·obtain ⟨eb,fy,gc,dG,hks,e1,e3,e5,h⟩:=af.lh61_inv (show af.lh61 F bq [] (k61 + 1) tm H = some r from h0)
       have q0:(Tm.put tm 1 (.ptr eb fy)) = tm:=by exact Tm.put_same e1
       have q1:(Tm.put (Tm.put tm 1 (.ptr eb fy)) 3 (.sl gc)) = tm:=by rw [q0]; exact Tm.put_same e3
       have q2:(Tm.put (Tm.put (Tm.put tm 1 (.ptr eb fy)) 3 (.sl gc)) 5 (.int .i64 dG)) = tm:=by rw [q1]; exact Tm.put_same e5
       rw [← q2]
       exact Eq.trans (by kernel_rfl) h
      ·refine LoopsOk.seq ?_ ?_
       ·exact loops_none (by kernel_rfl)
       ·refine LoopsOk.seq ?_ ?_
        ·refine LoopsOk.block ?_
         refine LoopsOk.seq ?_ ?_
         ·exact loops_none (by kernel_rfl)
         ·refine LoopsOk.seq ?_ ?_
          ·exact loops_none (by kernel_rfl)
          ·refine LoopsOk.seq ?_ ?_
           ·exact loops_none (by kernel_rfl)
           ·refine LoopsOk.seq ?_ ?_
            ·exact loops_none (by kernel_rfl)
            ·refine LoopsOk.block ?_
             refine LoopsOk.loop (fun tm H=>?_) (fun k7855 tm H r h0=>?_) (fun k7855=>?_)
             ·refine none_of fun r h0=>?_
              obtain ⟨bv,ea,fx,eQ,dj,cw,cL,cZ,hks,e1,e3,e5,e10,e11,e12,h⟩:=af.lh7855_inv (show af.lh7855 F bq [k61] 0 tm H = some r from h0)
              cases h
             ·obtain ⟨bv,ea,fx,eQ,dj,cw,cL,cZ,hks,e1,e3,e5,e10,e11,e12,h⟩:=af.lh7855_inv (show af.lh7855 F bq [k61] (k7855 + 1) tm H = some r from h0)
              obtain rfl:bv = k61:=by simpa [eq_comm] using hks
              have q0:(Tm.put tm 1 (.ptr ea fx)) = tm:=by exact Tm.put_same e1
              have q1:(Tm.put (Tm.put tm 1 (.ptr ea fx)) 3 (.sl eQ)) = tm:=by rw [q0]; exact Tm.put_same e3
              have q2:(Tm.put (Tm.put (Tm.put tm 1 (.ptr ea fx)) 3 (.sl eQ)) 5 (.int .i64 dj)) = tm:=by rw [q1]; exact Tm.put_same e5
              have q3:(Tm.put (Tm.put (Tm.put (Tm.put tm 1 (.ptr ea fx)) 3 (.sl eQ)) 5 (.int .i64 dj)) 10 (.int .i64 cw)) = tm:=by rw [q2]; exact Tm.put_same e10
              have q4:(Tm.put (Tm.put (Tm.put (Tm.put (Tm.put tm 1 (.ptr ea fx)) 3 (.sl eQ)) 5 (.int .i64 dj)) 10 (.int .i64 cw)) 11 (.int .i64 cL)) = tm:=by rw [q3]; exact Tm.put_same e11
              have q5:(Tm.put (Tm.put (Tm.put (Tm.put (Tm.put (Tm.put tm 1 (.ptr ea fx)) 3 (.sl eQ)) 5 (.int .i64 dj)) 10 (.int .i64 cw)) 11 (.int .i64 cL)) 12 (.int .i64 cZ)) = tm:=by rw [q4]; exact Tm.put_same e12
              rw [← q5]
              exact Eq.trans (by kernel_rfl) h
             ·exact loops_none (by kernel_rfl)
        ·exact loops_none (by kernel_rfl)
    ·exact loops_none (by kernel_rfl)
theorem af.eqX (F:Nat) (bq:Sl→Int→Int→Bool→Hp→OA) (aa:Sl) (ab:Int) (H:Hp):aCode tabs (mkOrc (af.cs F bq)) af.pn (af.lh F bq) F [] 1 af.code (argTm [(.agg [(.sl aa),(.int .i64 ab)])]) H (fun tm H=>aresults tabs.ty H tm Try.f122.results.toList fun v=>some (v,H)) (fun _ _ _=>none) (fun tm H=>aresults tabs.ty H tm Try.f122.results.toList fun v=>some (v,H)) = af.twX F bq aa ab H:=by kernel_rfl
theorem af.cs_ok (F:Nat):∀ p ∈ af.cs F (ak.tw F),∀ args H v H',p.2 args H = some (v,H')→Go.AE.T Try.prog p.1 args H v H':=by
 intro p hp
 simp only [af.cs,List.mem_cons,List.not_mem_nil,or_false] at hp
 subst hp
 exact fun args H v H' h=>ak.mk_T h
theorem af.ok:codeOk af.pn Try.f122.ntmps af.tb af.code = true:=by kernel_rfl
theorem af.T {F:Nat} {aa:Sl} {ab:Int} {H:Hp} {v:AV} {H':Hp} (h:af.tw F aa ab H = some (v,H')):Go.AE.T Try.prog 122 [(.agg [(.sl aa),(.int .i64 ab)])] H v H':=
 Go.AE.T.of (Y:=tabs) (C:=mkOrc (af.cs F (ak.tw F))) (PN:=af.pn) (LH:=af.lh F (ak.tw F)) (F:=F) (TB:=af.tb) (fn:=Try.f122) (code:=af.code) mixed tabs_ok (mkOrc_ok (af.cs_ok F)) Try.func122 (by kernel_rfl) (by kernel_rfl) af.ok (Nat.le_of_ble_eq_true (by kernel_rfl)) (af.loops F (ak.tw F)) (Eq.trans (af.eqX F (ak.tw F) aa ab H) h)
theorem af.mk_T {F:Nat} {args:List AV} {H:Hp} {v:AV} {H':Hp} (h:af.mk (af.tw F) args H = some (v,H')):Go.AE.T Try.prog 122 args H v H':=by
 unfold af.mk at h
 split at h
 ·exact af.T h
 ·cases h
noncomputable def aF.j2 (F:Nat) (aC:Sl→Int→Hp→OA) (C61_:Int→Sl→Int→Hp→OA) (kp:Int) (De:Sl) (kq:Int) (H42:Hp):OA:=C61_ kp De (IntKind.i64.wrap (kq + 1)) H42
noncomputable def aF.l61 (F:Nat) (aC:Sl→Int→Hp→OA) :Nat→Int→Sl→Int→Hp→OA
 | 0,_,_,_,_=>none
 | bv + 1,dI,gd,c_,H16=>(bif (decide (c_ < (gd.n:Int))) then ((Sl.idx gd c_ 1).bind fun p30=>(Hp.ldI H16 .i64 p30.1 p30.2).bind fun n31=>(bif (n31 == c_) then (aF.j2 F aC (aF.l61 F aC bv) (IntKind.i64.wrap (dI + 1)) gd c_ H16) else (aF.j2 F aC (aF.l61 F aC bv) dI gd c_ H16))) else (some ((.int .i64 dI),H16)))
termination_by structural n=>n
noncomputable def aF.twX (F:Nat) (aC:Sl→Int→Hp→OA) (aa:Sl) (ab:Int) (H:Hp):OA:=(Hp.new H [(.sl aa),(.int .i64 ab)]).bind fun H3=>(Hp.ldSl H3 H.length 0).bind fun s4=>(Hp.ldI H3 .i64 H.length (0 + 1)).bind fun n5=>(aC s4 n5 H3).bind fun r6=>((r6.1).asSl).bind fun s7=>aF.l61 F aC F 0 s7 0 r6.2
noncomputable def aF.tw (F:Nat) (aa:Sl) (ab:Int) (H:Hp):OA:=aF.twX F (af.tw F) aa ab H
noncomputable def aF.code:Go.Code:=(Try.f97.body).getD .skip
noncomputable def aF.lh61 (F:Nat) (aC:Sl→Int→Hp→OA) (ks:List Nat) (n:Nat) (tm:Tm) (H:Hp):OA:=match ks,tm 3,tm 4,tm 5 with
 | [],(.int .i64 dI),(.sl gd),(.int .i64 c_)=>aF.l61 F aC n dI gd c_ H
 | _,_,_,_=>none
theorem aF.lh61_inv {F:Nat} {aC:Sl→Int→Hp→OA} {ks:List Nat} {n:Nat} {tm:Tm} {H:Hp} {r:AV×Hp} (h:aF.lh61 F aC ks n tm H = some r):∃ dI:Int,∃ gd:Sl,∃ c_:Int,ks = []∧tm 3 = (.int .i64 dI)∧tm 4 = (.sl gd)∧tm 5 = (.int .i64 c_)∧aF.l61 F aC n dI gd c_ H = some r:=by
 unfold aF.lh61 at h
 split at h
 ·exact ⟨_,_,_,rfl,by assumption,by assumption,by assumption,h⟩
 ·cases h
noncomputable def aF.lh (F:Nat) (aC:Sl→Int→Hp→OA) (p:Nat) (ks:List Nat) (n:Nat) (tm:Tm) (H:Hp):OA:=bif p.beq 61 then aF.lh61 F aC ks n tm H else (none)
def aF.pn:Nat→List Nat:=fun i=>(([]:List (Nat×List Nat)).lookup i).getD []
def aF.tb:Nat→List (List Nat):=fun i=>(([]:List (Nat×List (List Nat))).lookup i).getD []
noncomputable def aF.mk (g:Sl→Int→Hp→OA) (args:List AV) (H:Hp):OA:=match args with
 | [(.agg [(.sl aa),(.int .i64 ab)])]=>g aa ab H
 | _=>none
noncomputable def aF.cs (F:Nat) (aC:Sl→Int→Hp→OA):List (FuncId×(List AV→Hp→OA)):=[(122,af.mk aC)]
theorem aF.loops (F:Nat) (aC:Sl→Int→Hp→OA):LoopsOk tabs (mkOrc (aF.cs F aC)) aF.pn (aF.lh F aC) F [] 1 aF.code (fun tm H=>aresults tabs.ty H tm Try.f97.results.toList fun v=>some (v,H)) (fun _ _ _=>none) (fun tm H=>aresults tabs.ty H tm Try.f97.results.toList fun v=>some (v,H)):=by
 refine LoopsOk.seq ?_ ?_
 ·exact loops_none (by kernel_rfl)
 ·refine LoopsOk.seq ?_ ?_
  ·exact loops_none (by kernel_rfl)
  ·refine LoopsOk.seq ?_ ?_
   ·exact loops_none (by kernel_rfl)
   ·refine LoopsOk.seq ?_ ?_
    ·refine LoopsOk.seq ?_ ?_
     ·exact loops_none (by kernel_rfl)
     ·refine LoopsOk.block ?_
      refine LoopsOk.loop (fun tm H=>?_) (fun k61 tm H r h0=>?_) (fun k61=>?_)
      ·refine none_of fun r h0=>?_
       obtain ⟨dI,gd,c_,hks,e3,e4,e5,h⟩:=aF.lh61_inv (show aF.lh61 F aC [] 0 tm H = some r from h0)
       cases h
      ·obtain ⟨dI,gd,c_,hks,e3,e4,e5,h⟩:=aF.lh61_inv (show aF.lh61 F aC [] (k61 + 1) tm H = some r from h0)
       have q0:(Tm.put tm 3 (.int .i64 dI)) = tm:=by exact Tm.put_same e3
       have q1:(Tm.put (Tm.put tm 3 (.int .i64 dI)) 4 (.sl gd)) = tm:=by rw [q0]; exact Tm.put_same e4
       have q2:(Tm.put (Tm.put (Tm.put tm 3 (.int .i64 dI)) 4 (.sl gd)) 5 (.int .i64 c_)) = tm:=by rw [q1]; exact Tm.put_same e5
       rw [← q2]
       exact Eq.trans (by kernel_rfl) h
      ·exact loops_none (by kernel_rfl)
    ·exact loops_none (by kernel_rfl)
theorem aF.eqX (F:Nat) (aC:Sl→Int→Hp→OA) (aa:Sl) (ab:Int) (H:Hp):aCode tabs (mkOrc (aF.cs F aC)) aF.pn (aF.lh F aC) F [] 1 aF.code (argTm [(.agg [(.sl aa),(.int .i64 ab)])]) H (fun tm H=>aresults tabs.ty H tm Try.f97.results.toList fun v=>some (v,H)) (fun _ _ _=>none) (fun tm H=>aresults tabs.ty H tm Try.f97.results.toList fun v=>some (v,H)) = aF.twX F aC aa ab H:=by kernel_rfl
theorem aF.cs_ok (F:Nat):∀ p ∈ aF.cs F (af.tw F),∀ args H v H',p.2 args H = some (v,H')→Go.AE.T Try.prog p.1 args H v H':=by
 intro p hp
 simp only [aF.cs,List.mem_cons,List.not_mem_nil,or_false] at hp
 subst hp
 exact fun args H v H' h=>af.mk_T h
theorem aF.ok:codeOk aF.pn Try.f97.ntmps aF.tb aF.code = true:=by kernel_rfl
theorem aF.T {F:Nat} {aa:Sl} {ab:Int} {H:Hp} {v:AV} {H':Hp} (h:aF.tw F aa ab H = some (v,H')):Go.AE.T Try.prog 97 [(.agg [(.sl aa),(.int .i64 ab)])] H v H':=
 Go.AE.T.of (Y:=tabs) (C:=mkOrc (aF.cs F (af.tw F))) (PN:=aF.pn) (LH:=aF.lh F (af.tw F)) (F:=F) (TB:=aF.tb) (fn:=Try.f97) (code:=aF.code) mixed tabs_ok (mkOrc_ok (aF.cs_ok F)) Try.func97 (by kernel_rfl) (by kernel_rfl) aF.ok (Nat.le_of_ble_eq_true (by kernel_rfl)) (aF.loops F (af.tw F)) (Eq.trans (aF.eqX F (af.tw F) aa ab H) h)
theorem aF.mk_T {F:Nat} {args:List AV} {H:Hp} {v:AV} {H':Hp} (h:aF.mk (aF.tw F) args H = some (v,H')):Go.AE.T Try.prog 97 args H v H':=by
 unfold aF.mk at h
 split at h
 ·exact aF.T h
 ·cases h
noncomputable def bz.twX (F:Nat) (bO:Int→Int→Int→Hp→OA) (gV:Sl→Int→Hp→OA) (ax:Sl→Int→Hp→OA) (gW:Sl→Int→Hp→OA) (aa:Sl) (ab:Int) (H:Hp):OA:=(Hp.new H [(.sl aa),(.int .i64 ab)]).bind fun H3=>(Hp.ldSl H3 H.length 0).bind fun s4=>(bif (decide ((s4.n:Int) > 10)) then (some ((.bool false),H3)) else ((Hp.ldI H3 .i64 H.length 1).bind fun n5=>(bO n5 0 8 H3).bind fun r6=>((r6.1).asB).bind fun b7=>(bif (!b7) then (some ((.bool false),r6.2)) else ((Hp.ldSl r6.2 H.length 0).bind fun s8=>(Hp.ldI r6.2 .i64 H.length (0 + 1)).bind fun n9=>(gV s8 n9 r6.2).bind fun r10=>((r10.1).asB).bind fun b11=>(bif (!b11) then (some ((.bool false),r10.2)) else ((Hp.ldSl r10.2 H.length 0).bind fun s12=>(Hp.ldI r10.2 .i64 H.length (0 + 1)).bind fun n13=>(ax s12 n13 r10.2).bind fun r14=>((r14.1).asSl).bind fun s15=>(if Cons r10.2 r14.2 then ((Hp.ldSl r14.2 H.length 0).bind fun s16=>(Hp.ldSl r14.2 H.length 0).bind fun s17=>(Hp.ldI r14.2 .i64 H.length (0 + 1)).bind fun n18=>(gW s17 n18 r14.2).bind fun r19=>((r19.1).asI .i64).bind fun n20=>(if Cons r14.2 r19.2 then (some ((.bool ((s15.n:Int) == (IntKind.i64.wrap ((s16.n:Int) + (IntKind.i64.wrap (2 * n20)))))),r19.2)) else none)) else none)))))))
noncomputable def bz.tw (F:Nat) (aa:Sl) (ab:Int) (H:Hp):OA:=bz.twX F (bh.tw F) (au.tw F) (ah.tw F) (aF.tw F) aa ab H
noncomputable def bz.code:Go.Code:=(Try.f50.body).getD .skip
noncomputable def bz.lh (F:Nat) (bO:Int→Int→Int→Hp→OA) (gV:Sl→Int→Hp→OA) (ax:Sl→Int→Hp→OA) (gW:Sl→Int→Hp→OA) (p:Nat) (ks:List Nat) (n:Nat) (tm:Tm) (H:Hp):OA:=none
def bz.pn:Nat→List Nat:=fun i=>(([(3,[])]:List (Nat×List Nat)).lookup i).getD []
def bz.tb:Nat→List (List Nat):=fun i=>(([(3,[[],[0],[0,1],[],[3],[3,4],[],[0,1,6],[0,1,6,7],[0,1,3,4,5,6,7,8],[0,1,2,3,4,5,6,7,8,9],[0,1,2,3,4,5,6,7,8,9,10]])]:List (Nat×List (List Nat))).lookup i).getD []
noncomputable def bz.mk (g:Sl→Int→Hp→OA) (args:List AV) (H:Hp):OA:=match args with
 | [(.agg [(.sl aa),(.int .i64 ab)])]=>g aa ab H
 | _=>none
noncomputable def bz.cs (F:Nat) (bO:Int→Int→Int→Hp→OA) (gV:Sl→Int→Hp→OA) (ax:Sl→Int→Hp→OA) (gW:Sl→Int→Hp→OA):List (FuncId×(List AV→Hp→OA)):=[(65,bh.mk bO),(104,au.mk gV),(105,ah.mk ax),(97,aF.mk gW)]
theorem bz.loops (F:Nat) (bO:Int→Int→Int→Hp→OA) (gV:Sl→Int→Hp→OA) (ax:Sl→Int→Hp→OA) (gW:Sl→Int→Hp→OA):LoopsOk tabs (mkOrc (bz.cs F bO gV ax gW)) bz.pn (bz.lh F bO gV ax gW) F [] 1 bz.code (fun tm H=>aresults tabs.ty H tm Try.f50.results.toList fun v=>some (v,H)) (fun _ _ _=>none) (fun tm H=>aresults tabs.ty H tm Try.f50.results.toList fun v=>some (v,H)):=by
 exact loops_none (by kernel_rfl)
theorem bz.eqX (F:Nat) (bO:Int→Int→Int→Hp→OA) (gV:Sl→Int→Hp→OA) (ax:Sl→Int→Hp→OA) (gW:Sl→Int→Hp→OA) (aa:Sl) (ab:Int) (H:Hp):aCode tabs (mkOrc (bz.cs F bO gV ax gW)) bz.pn (bz.lh F bO gV ax gW) F [] 1 bz.code (argTm [(.agg [(.sl aa),(.int .i64 ab)])]) H (fun tm H=>aresults tabs.ty H tm Try.f50.results.toList fun v=>some (v,H)) (fun _ _ _=>none) (fun tm H=>aresults tabs.ty H tm Try.f50.results.toList fun v=>some (v,H)) = bz.twX F bO gV ax gW aa ab H:=by kernel_rfl
theorem bz.cs_ok (F:Nat):∀ p ∈ bz.cs F (bh.tw F) (au.tw F) (ah.tw F) (aF.tw F),∀ args H v H',p.2 args H = some (v,H')→Go.AE.T Try.prog p.1 args H v H':=by
 intro p hp
 simp only [bz.cs,List.mem_cons,List.not_mem_nil,or_false] at hp
 rcases hp with rfl | rfl | rfl | rfl
 ·exact fun args H v H' h=>bh.mk_T h
 ·exact fun args H v H' h=>au.mk_T h
 ·exact fun args H v H' h=>ah.mk_T h
 ·exact fun args H v H' h=>aF.mk_T h
theorem bz.ok:codeOk bz.pn Try.f50.ntmps bz.tb bz.code = true:=by kernel_rfl
theorem bz.T {F:Nat} {aa:Sl} {ab:Int} {H:Hp} {v:AV} {H':Hp} (h:bz.tw F aa ab H = some (v,H')):Go.AE.T Try.prog 50 [(.agg [(.sl aa),(.int .i64 ab)])] H v H':=
 Go.AE.T.of (Y:=tabs) (C:=mkOrc (bz.cs F (bh.tw F) (au.tw F) (ah.tw F) (aF.tw F))) (PN:=bz.pn) (LH:=bz.lh F (bh.tw F) (au.tw F) (ah.tw F) (aF.tw F)) (F:=F) (TB:=bz.tb) (fn:=Try.f50) (code:=bz.code) mixed tabs_ok (mkOrc_ok (bz.cs_ok F)) Try.func50 (by kernel_rfl) (by kernel_rfl) bz.ok (Nat.le_of_ble_eq_true (by kernel_rfl)) (bz.loops F (bh.tw F) (au.tw F) (ah.tw F) (aF.tw F)) (Eq.trans (bz.eqX F (bh.tw F) (au.tw F) (ah.tw F) (aF.tw F) aa ab H) h)
theorem bz.mk_T {F:Nat} {args:List AV} {H:Hp} {v:AV} {H':Hp} (h:bz.mk (bz.tw F) args H = some (v,H')):Go.AE.T Try.prog 50 args H v H':=by
 unfold bz.mk at h
 split at h
 ·exact bz.T h
 ·cases h
noncomputable def ao.j3 (F:Nat) (ax:Sl→Int→Hp→OA) (C61_:Sl→Sl→Int→Hp→OA) (Df:Sl) (Dg:Sl) (kr:Int) (H112:Hp):OA:=C61_ Df Dg (IntKind.i64.wrap (kr + 1)) H112
noncomputable def ao.j4 (F:Nat) (ax:Sl→Int→Hp→OA) (C61_:Sl→Sl→Int→Hp→OA) (Dh:Sl) (Di:Sl) (kt:Int) (H100:Hp):OA:=ao.j3 F ax C61_ Dh Di kt H100
noncomputable def ao.l981 (F:Nat) (ax:Sl→Int→Hp→OA) (C61_:Sl→Sl→Int→Hp→OA):Nat→Sl→Sl→Int→Int→Hp→OA
 | 0,_,_,_,_,_=>none
 | Dj + 1,fP,fQ,cU,ei,H80=>(Sl.idx fQ cU 1).bind fun p113=>(Hp.ldSl H80 p113.1 p113.2).bind fun s114=>(bif (decide (ei < (s114.n:Int))) then ((Sl.idx fQ cU 1).bind fun p115=>(Hp.ldSl H80 p115.1 p115.2).bind fun s116=>(Sl.idx s116 ei 1).bind fun p117=>(Hp.ldI H80 .i64 p117.1 p117.2).bind fun n118=>(Sl.idx fP n118 1).bind fun p119=>(Hp.st H80 p119.1 p119.2 (.int .i64 cU)).bind fun H120=>ao.l981 F ax C61_ Dj fP fQ cU (IntKind.i64.wrap (ei + 1)) H120) else (ao.j4 F ax C61_ fP fQ cU H80))
termination_by structural n=>n
noncomputable def ao.l61 (F:Nat) (ax:Sl→Int→Hp→OA) :Nat→Sl→Sl→Int→Hp→OA
 | 0,_,_,_,_=>none
 | bv + 1,co,gX,eS,H18=>(bif (decide (eS < (gX.n:Int))) then (ao.l981 F ax (ao.l61 F ax bv) F co gX eS 0 H18) else (some ((.sl co),H18)))
termination_by structural n=>n
noncomputable def ao.twX (F:Nat) (ax:Sl→Int→Hp→OA) (aa:Sl) (ab:Int) (H:Hp):OA:=(Hp.new H [(.sl aa),(.int .i64 ab)]).bind fun H3=>(Hp.ldSl H3 H.length 0).bind fun s4=>(Hp.mk H3 [.int .i64 0] 8 (IntKind.i64.wrap (4 * (s4.n:Int))) (IntKind.i64.wrap (4 * (s4.n:Int)))).bind fun m5=>(Hp.ldSl m5.2 H.length 0).bind fun s6=>(Hp.ldI m5.2 .i64 H.length (0 + 1)).bind fun n7=>(ax s6 n7 m5.2).bind fun r8=>((r8.1).asSl).bind fun s9=>ao.l61 F ax F m5.1 s9 0 r8.2
noncomputable def ao.tw (F:Nat) (aa:Sl) (ab:Int) (H:Hp):OA:=ao.twX F (ah.tw F) aa ab H
noncomputable def ao.code:Go.Code:=(Try.f67.body).getD .skip
noncomputable def ao.lh61 (F:Nat) (ax:Sl→Int→Hp→OA) (ks:List Nat) (n:Nat) (tm:Tm) (H:Hp):OA:=match ks,tm 3,tm 4,tm 5 with
 | [],(.sl co),(.sl gX),(.int .i64 eS)=>ao.l61 F ax n co gX eS H
 | _,_,_,_=>none
theorem ao.lh61_inv {F:Nat} {ax:Sl→Int→Hp→OA} {ks:List Nat} {n:Nat} {tm:Tm} {H:Hp} {r:AV×Hp} (h:ao.lh61 F ax ks n tm H = some r):∃ co:Sl,∃ gX:Sl,∃ eS:Int,ks = []∧tm 3 = (.sl co)∧tm 4 = (.sl gX)∧tm 5 = (.int .i64 eS)∧ao.l61 F ax n co gX eS H = some r:=by
 unfold ao.lh61 at h
 split at h
 ·exact ⟨_,_,_,rfl,by assumption,by assumption,by assumption,h⟩
 ·cases h
noncomputable def ao.lh981 (F:Nat) (ax:Sl→Int→Hp→OA) (ks:List Nat) (n:Nat) (tm:Tm) (H:Hp):OA:=match ks,tm 3,tm 4,tm 5,tm 6 with
 | [bv],(.sl fP),(.sl fQ),(.int .i64 cU),(.int .i64 ei)=>ao.l981 F ax (ao.l61 F ax bv) n fP fQ cU ei H
 | _,_,_,_,_=>none
theorem ao.lh981_inv {F:Nat} {ax:Sl→Int→Hp→OA} {ks:List Nat} {n:Nat} {tm:Tm} {H:Hp} {r:AV×Hp} (h:ao.lh981 F ax ks n tm H = some r):∃ bv:Nat,∃ fP:Sl,∃ fQ:Sl,∃ cU:Int,∃ ei:Int,ks = [bv]∧tm 3 = (.sl fP)∧tm 4 = (.sl fQ)∧tm 5 = (.int .i64 cU)∧tm 6 = (.int .i64 ei)∧ao.l981 F ax (ao.l61 F ax bv) n fP fQ cU ei H = some r:=by
 unfold ao.lh981 at h
 split at h
 ·exact ⟨_,_,_,_,_,rfl,by assumption,by assumption,by assumption,by assumption,h⟩
 ·cases h
noncomputable def ao.lh (F:Nat) (ax:Sl→Int→Hp→OA) (p:Nat) (ks:List Nat) (n:Nat) (tm:Tm) (H:Hp):OA:=bif p.beq 981 then ao.lh981 F ax ks n tm H else (bif p.beq 61 then ao.lh61 F ax ks n tm H else (none))
def ao.pn:Nat→List Nat:=fun i=>(([]:List (Nat×List Nat)).lookup i).getD []
def ao.tb:Nat→List (List Nat):=fun i=>(([]:List (Nat×List (List Nat))).lookup i).getD []
noncomputable def ao.mk (g:Sl→Int→Hp→OA) (args:List AV) (H:Hp):OA:=match args with
 | [(.agg [(.sl aa),(.int .i64 ab)])]=>g aa ab H
 | _=>none
noncomputable def ao.cs (F:Nat) (ax:Sl→Int→Hp→OA):List (FuncId×(List AV→Hp→OA)):=[(105,ah.mk ax)]
theorem ao.loops (F:Nat) (ax:Sl→Int→Hp→OA):LoopsOk tabs (mkOrc (ao.cs F ax)) ao.pn (ao.lh F ax) F [] 1 ao.code (fun tm H=>aresults tabs.ty H tm Try.f67.results.toList fun v=>some (v,H)) (fun _ _ _=>none) (fun tm H=>aresults tabs.ty H tm Try.f67.results.toList fun v=>some (v,H)):=by
 refine LoopsOk.seq ?_ ?_
 ·exact loops_none (by kernel_rfl)
 ·refine LoopsOk.seq ?_ ?_
  ·exact loops_none (by kernel_rfl)
  ·refine LoopsOk.seq ?_ ?_
   ·exact loops_none (by kernel_rfl)
   ·refine LoopsOk.seq ?_ ?_
    ·refine LoopsOk.seq ?_ ?_
     ·exact loops_none (by kernel_rfl)
     ·refine LoopsOk.block ?_
      refine LoopsOk.loop (fun tm H=>?_) (fun k61 tm H r h0=>?_) (fun k61=>?_)
      ·refine none_of fun r h0=>?_
       obtain ⟨co,gX,eS,hks,e3,e4,e5,h⟩:=ao.lh61_inv (show ao.lh61 F ax [] 0 tm H = some r from h0)
       cases h
      ·obtain ⟨co,gX,eS,hks,e3,e4,e5,h⟩:=ao.lh61_inv (show ao.lh61 F ax [] (k61 + 1) tm H = some r from h0)
       have q0:(Tm.put tm 3 (.sl co)) = tm:=by exact Tm.put_same e3
       have q1:(Tm.put (Tm.put tm 3 (.sl co)) 4 (.sl gX)) = tm:=by rw [q0]; exact Tm.put_same e4
       have q2:(Tm.put (Tm.put (Tm.put tm 3 (.sl co)) 4 (.sl gX)) 5 (.int .i64 eS)) = tm:=by rw [q1]; exact Tm.put_same e5
       rw [← q2]
       exact Eq.trans (by kernel_rfl) h
      ·refine LoopsOk.seq ?_ ?_
       ·exact loops_none (by kernel_rfl)
       ·refine LoopsOk.seq ?_ ?_
        ·refine LoopsOk.block ?_
         refine LoopsOk.seq ?_ ?_
         ·exact loops_none (by kernel_rfl)
         ·refine LoopsOk.block ?_
          refine LoopsOk.loop (fun tm H=>?_) (fun k981 tm H r h0=>?_) (fun k981=>?_)
          ·refine none_of fun r h0=>?_
           obtain ⟨bv,fP,fQ,cU,ei,hks,e3,e4,e5,e6,h⟩:=ao.lh981_inv (show ao.lh981 F ax [k61] 0 tm H = some r from h0)
           cases h
          ·obtain ⟨bv,fP,fQ,cU,ei,hks,e3,e4,e5,e6,h⟩:=ao.lh981_inv (show ao.lh981 F ax [k61] (k981 + 1) tm H = some r from h0)
           obtain rfl:bv = k61:=by simpa [eq_comm] using hks
           have q0:(Tm.put tm 3 (.sl fP)) = tm:=by exact Tm.put_same e3
           have q1:(Tm.put (Tm.put tm 3 (.sl fP)) 4 (.sl fQ)) = tm:=by rw [q0]; exact Tm.put_same e4
           have q2:(Tm.put (Tm.put (Tm.put tm 3 (.sl fP)) 4 (.sl fQ)) 5 (.int .i64 cU)) = tm:=by rw [q1]; exact Tm.put_same e5
           have q3:(Tm.put (Tm.put (Tm.put (Tm.put tm 3 (.sl fP)) 4 (.sl fQ)) 5 (.int .i64 cU)) 6 (.int .i64 ei)) = tm:=by rw [q2]; exact Tm.put_same e6
           rw [← q3]
           exact Eq.trans (by kernel_rfl) h
          ·exact loops_none (by kernel_rfl)
        ·exact loops_none (by kernel_rfl)
    ·exact loops_none (by kernel_rfl)
theorem ao.eqX (F:Nat) (ax:Sl→Int→Hp→OA) (aa:Sl) (ab:Int) (H:Hp):aCode tabs (mkOrc (ao.cs F ax)) ao.pn (ao.lh F ax) F [] 1 ao.code (argTm [(.agg [(.sl aa),(.int .i64 ab)])]) H (fun tm H=>aresults tabs.ty H tm Try.f67.results.toList fun v=>some (v,H)) (fun _ _ _=>none) (fun tm H=>aresults tabs.ty H tm Try.f67.results.toList fun v=>some (v,H)) = ao.twX F ax aa ab H:=by kernel_rfl
theorem ao.cs_ok (F:Nat):∀ p ∈ ao.cs F (ah.tw F),∀ args H v H',p.2 args H = some (v,H')→Go.AE.T Try.prog p.1 args H v H':=by
 intro p hp
 simp only [ao.cs,List.mem_cons,List.not_mem_nil,or_false] at hp
 subst hp
 exact fun args H v H' h=>ah.mk_T h
theorem ao.ok:codeOk ao.pn Try.f67.ntmps ao.tb ao.code = true:=by kernel_rfl
theorem ao.T {F:Nat} {aa:Sl} {ab:Int} {H:Hp} {v:AV} {H':Hp} (h:ao.tw F aa ab H = some (v,H')):Go.AE.T Try.prog 67 [(.agg [(.sl aa),(.int .i64 ab)])] H v H':=
 Go.AE.T.of (Y:=tabs) (C:=mkOrc (ao.cs F (ah.tw F))) (PN:=ao.pn) (LH:=ao.lh F (ah.tw F)) (F:=F) (TB:=ao.tb) (fn:=Try.f67) (code:=ao.code) mixed tabs_ok (mkOrc_ok (ao.cs_ok F)) Try.func67 (by kernel_rfl) (by kernel_rfl) ao.ok (Nat.le_of_ble_eq_true (by kernel_rfl)) (ao.loops F (ah.tw F)) (Eq.trans (ao.eqX F (ah.tw F) aa ab H) h)
theorem ao.mk_T {F:Nat} {args:List AV} {H:Hp} {v:AV} {H':Hp} (h:ao.mk (ao.tw F) args H = some (v,H')):Go.AE.T Try.prog 67 args H v H':=by
 unfold ao.mk at h
 split at h
 ·exact ao.T h
 ·cases h
noncomputable def ac.j20 (F:Nat) (a_:Sl→Int→Hp→OA) (aC:Sl→Int→Hp→OA) (ax:Sl→Int→Hp→OA) (C509_:Sl→Sl→Bool→Hp→OA) (Dk:Sl) (Dl:Sl) (ku:Bool) (H630:Hp):OA:=C509_ Dk Dl ku H630
noncomputable def ac.j21 (F:Nat) (a_:Sl→Int→Hp→OA) (aC:Sl→Int→Hp→OA) (ax:Sl→Int→Hp→OA) (C509_:Sl→Sl→Bool→Hp→OA) (Dm:Sl) (Dn:Sl) (kv:Bool) (H613:Hp):OA:=ac.j20 F a_ aC ax C509_ Dm Dn kv H613
noncomputable def ac.j22 (F:Nat) (a_:Sl→Int→Hp→OA) (aC:Sl→Int→Hp→OA) (ax:Sl→Int→Hp→OA) (C8151_:Sl→Sl→Bool→Int→Hp→OA) (Do:Sl) (Dp:Sl) (kw:Bool) (kx:Int) (H696:Hp):OA:=C8151_ Do Dp kw (IntKind.i64.wrap (kx + 1)) H696
noncomputable def ac.j23 (F:Nat) (a_:Sl→Int→Hp→OA) (aC:Sl→Int→Hp→OA) (ax:Sl→Int→Hp→OA) (C8151_:Sl→Sl→Bool→Int→Hp→OA) (Dq:Sl) (Dr:Sl) (ky:Bool) (kz:Int) (H716:Hp):OA:=C8151_ Dq Dr ky (IntKind.i64.wrap (kz + 1)) H716
noncomputable def ac.j24 (F:Nat) (a_:Sl→Int→Hp→OA) (aC:Sl→Int→Hp→OA) (ax:Sl→Int→Hp→OA) (C8151_:Sl→Sl→Bool→Int→Hp→OA) (lp:Sl) (jN:Sl) (jh:Bool) (fR:Int) (ji:Int) (H663:Hp):OA:=(Sl.idx jN ji 1).bind fun p664=>(Hp.ldI H663 .i64 p664.1 p664.2).bind fun n665=>(bif (decide (n665 ≥ 0)) then ((Sl.idx lp fR 1).bind fun p666=>(Hp.ldI H663 .i64 p666.1 p666.2).bind fun n667=>(Sl.idx jN n667 1).bind fun p668=>(Hp.ldI H663 .i64 p668.1 p668.2).bind fun n669=>(bif (decide (n669 < 0)) then ((Sl.idx lp fR 1).bind fun p670=>(Hp.ldI H663 .i64 p670.1 p670.2).bind fun n671=>(Sl.idx jN ji 1).bind fun p672=>(Hp.ldI H663 .i64 p672.1 p672.2).bind fun n673=>(Sl.idx jN n671 1).bind fun p674=>(Hp.st H663 p674.1 p674.2 (.int .i64 (IntKind.i64.wrap (1 - n673)))).bind fun H675=>ac.j22 F a_ aC ax C8151_ lp jN true fR H675) else (ac.j23 F a_ aC ax C8151_ lp jN jh fR H663))) else (C8151_ lp jN jh (IntKind.i64.wrap (fR + 1)) H663))
noncomputable def ac.j25 (F:Nat) (a_:Sl→Int→Hp→OA) (aC:Sl→Int→Hp→OA) (ax:Sl→Int→Hp→OA) (C8151_:Sl→Sl→Bool→Int→Hp→OA) (Ds:Sl) (Dt:Sl) (kA:Bool) (kB:Int) (H749:Hp):OA:=C8151_ Ds Dt kA (IntKind.i64.wrap (kB + 1)) H749
noncomputable def ac.j26 (F:Nat) (a_:Sl→Int→Hp→OA) (aC:Sl→Int→Hp→OA) (ax:Sl→Int→Hp→OA) (C8151_:Sl→Sl→Bool→Int→Hp→OA) (Du:Sl) (Dv:Sl) (kC:Bool) (kD:Int) (H769:Hp):OA:=C8151_ Du Dv kC (IntKind.i64.wrap (kD + 1)) H769
noncomputable def ac.l8151 (F:Nat) (a_:Sl→Int→Hp→OA) (aC:Sl→Int→Hp→OA) (ax:Sl→Int→Hp→OA) (C509_:Sl→Sl→Bool→Hp→OA):Nat→Sl→Sl→Bool→Int→Hp→OA
 | 0,_,_,_,_,_=>none
 | lq + 1,dk,da,dl,bY,H457=>(bif (decide (bY < (dk.n:Int))) then ((Sl.idx dk (IntKind.i64.wrap ((IntKind.i64.wrap ((IntKind.i64.wrap (Int.tdiv bY 4)) * 4)) + (Int.tmod (IntKind.i64.wrap (bY + 1)) 4))) 1).bind fun p631=>(Hp.ldI H457 .i64 p631.1 p631.2).bind fun n632=>(Sl.idx dk bY 1).bind fun p633=>(Hp.ldI H457 .i64 p633.1 p633.2).bind fun n634=>(Sl.idx da n634 1).bind fun p635=>(Hp.ldI H457 .i64 p635.1 p635.2).bind fun n636=>(bif (decide (n636 ≥ 0)) then ((Sl.idx da n632 1).bind fun p637=>(Hp.ldI H457 .i64 p637.1 p637.2).bind fun n638=>(bif (decide (n638 < 0)) then ((Sl.idx dk bY 1).bind fun p639=>(Hp.ldI H457 .i64 p639.1 p639.2).bind fun n640=>(Sl.idx da n640 1).bind fun p641=>(Hp.ldI H457 .i64 p641.1 p641.2).bind fun n642=>(Sl.idx da n632 1).bind fun p643=>(Hp.st H457 p643.1 p643.2 (.int .i64 (IntKind.i64.wrap (1 - n642)))).bind fun H644=>ac.j24 F a_ aC ax (ac.l8151 F a_ aC ax C509_ lq) dk da true bY n632 H644) else (ac.j24 F a_ aC ax (ac.l8151 F a_ aC ax C509_ lq) dk da dl bY n632 H457))) else ((Sl.idx da n632 1).bind fun p717=>(Hp.ldI H457 .i64 p717.1 p717.2).bind fun n718=>(bif (decide (n718 ≥ 0)) then ((Sl.idx dk bY 1).bind fun p719=>(Hp.ldI H457 .i64 p719.1 p719.2).bind fun n720=>(Sl.idx da n720 1).bind fun p721=>(Hp.ldI H457 .i64 p721.1 p721.2).bind fun n722=>(bif (decide (n722 < 0)) then ((Sl.idx dk bY 1).bind fun p723=>(Hp.ldI H457 .i64 p723.1 p723.2).bind fun n724=>(Sl.idx da n632 1).bind fun p725=>(Hp.ldI H457 .i64 p725.1 p725.2).bind fun n726=>(Sl.idx da n724 1).bind fun p727=>(Hp.st H457 p727.1 p727.2 (.int .i64 (IntKind.i64.wrap (1 - n726)))).bind fun H728=>ac.j25 F a_ aC ax (ac.l8151 F a_ aC ax C509_ lq) dk da true bY H728) else (ac.j26 F a_ aC ax (ac.l8151 F a_ aC ax C509_ lq) dk da dl bY H457))) else (ac.l8151 F a_ aC ax C509_ lq dk da dl (IntKind.i64.wrap (bY + 1)) H457))))) else (ac.j21 F a_ aC ax C509_ dk da dl H457))
termination_by structural n=>n
noncomputable def ac.l509 (F:Nat) (a_:Sl→Int→Hp→OA) (aC:Sl→Int→Hp→OA) (ax:Sl→Int→Hp→OA) :Nat→Sl→Sl→Bool→Hp→OA
 | 0,_,_,_,_=>none
 | ev + 1,gY,gZ,fz,H113=>(bif fz then (ac.l8151 F a_ aC ax (ac.l509 F a_ aC ax ev) F gY gZ false 0 H113) else (some ((.sl gZ),H113)))
termination_by structural n=>n
noncomputable def ac.j27 (F:Nat) (a_:Sl→Int→Hp→OA) (aC:Sl→Int→Hp→OA) (ax:Sl→Int→Hp→OA) (Dw:Sl) (Dx:Sl) (H99:Hp):OA:=ac.l509 F a_ aC ax F Dw Dx true H99
noncomputable def ac.j28 (F:Nat) (a_:Sl→Int→Hp→OA) (aC:Sl→Int→Hp→OA) (ax:Sl→Int→Hp→OA) (C253_:Sl→Sl→Sl→Int→Hp→OA) (Dy:Sl) (Dz:Sl) (DA:Sl) (kE:Int) (H790:Hp):OA:=C253_ Dy Dz DA (IntKind.i64.wrap (kE + 1)) H790
noncomputable def ac.j29 (F:Nat) (a_:Sl→Int→Hp→OA) (aC:Sl→Int→Hp→OA) (ax:Sl→Int→Hp→OA) (C253_:Sl→Sl→Sl→Int→Hp→OA) (DB:Sl) (DC:Sl) (DD:Sl) (kF:Int) (H804:Hp):OA:=C253_ DB DC DD (IntKind.i64.wrap (kF + 1)) H804
noncomputable def ac.l253 (F:Nat) (a_:Sl→Int→Hp→OA) (aC:Sl→Int→Hp→OA) (ax:Sl→Int→Hp→OA) :Nat→Sl→Sl→Sl→Int→Hp→OA
 | 0,_,_,_,_,_=>none
 | lr + 1,fG,fS,gf,cQ,H51=>(bif (decide (cQ < (fS.n:Int))) then ((Sl.idx fS cQ 1).bind fun p770=>(Hp.ldI H51 .i64 p770.1 p770.2).bind fun n771=>(bif (n771 == cQ) then ((Sl.idx fG (IntKind.i64.wrap (4 * cQ)) 1).bind fun p772=>(Hp.ldI H51 .i64 p772.1 p772.2).bind fun n773=>(Sl.idx gf n773 1).bind fun p774=>(Hp.st H51 p774.1 p774.2 (.int .i64 0)).bind fun H775=>ac.j28 F a_ aC ax (ac.l253 F a_ aC ax lr) fG fS gf cQ H775) else (ac.j29 F a_ aC ax (ac.l253 F a_ aC ax lr) fG fS gf cQ H51))) else (ac.j27 F a_ aC ax fG gf H51))
termination_by structural n=>n
noncomputable def ac.j30 (F:Nat) (a_:Sl→Int→Hp→OA) (aC:Sl→Int→Hp→OA) (ax:Sl→Int→Hp→OA) (DE:Sl) (DF:Sl) (DH:Sl) (H39:Hp):OA:=ac.l253 F a_ aC ax F DE DF DH 0 H39
noncomputable def ac.l125 (F:Nat) (a_:Sl→Int→Hp→OA) (aC:Sl→Int→Hp→OA) (ax:Sl→Int→Hp→OA) :Nat→Sl→Sl→Sl→Int→Hp→OA
 | 0,_,_,_,_,_=>none
 | DI + 1,gh,gH,bR,ej,H26=>(bif (decide (ej < (bR.n:Int))) then ((Sl.idx bR ej 1).bind fun p805=>(Hp.st H26 p805.1 p805.2 (.int .i64 (-1))).bind fun H806=>ac.l125 F a_ aC ax DI gh gH bR (IntKind.i64.wrap (ej + 1)) H806) else (ac.j30 F a_ aC ax gh gH bR H26))
termination_by structural n=>n
noncomputable def ac.twX (F:Nat) (a_:Sl→Int→Hp→OA) (aC:Sl→Int→Hp→OA) (ax:Sl→Int→Hp→OA) (aa:Sl) (ab:Int) (H:Hp):OA:=(Hp.new H [(.sl aa),(.int .i64 ab)]).bind fun H3=>(Hp.ldSl H3 H.length 0).bind fun s4=>(Hp.ldI H3 .i64 H.length (0 + 1)).bind fun n5=>(a_ s4 n5 H3).bind fun r6=>((r6.1).asSl).bind fun s7=>(Hp.ldSl r6.2 H.length 0).bind fun s8=>(Hp.ldI r6.2 .i64 H.length (0 + 1)).bind fun n9=>(aC s8 n9 r6.2).bind fun r10=>((r10.1).asSl).bind fun s11=>(Hp.ldSl r10.2 H.length 0).bind fun s12=>(Hp.ldI r10.2 .i64 H.length (0 + 1)).bind fun n13=>(ax s12 n13 r10.2).bind fun r14=>((r14.1).asSl).bind fun s15=>(Hp.mk r14.2 [.int .i64 0] 8 (s15.n:Int) (s15.n:Int)).bind fun m16=>ac.l125 F a_ aC ax F s7 s11 m16.1 0 m16.2
noncomputable def ac.tw (F:Nat) (aa:Sl) (ab:Int) (H:Hp):OA:=ac.twX F (ao.tw F) (af.tw F) (ah.tw F) aa ab H
noncomputable def ac.code:Go.Code:=(Try.f68.body).getD .skip
noncomputable def ac.lh125 (F:Nat) (a_:Sl→Int→Hp→OA) (aC:Sl→Int→Hp→OA) (ax:Sl→Int→Hp→OA) (ks:List Nat) (n:Nat) (tm:Tm) (H:Hp):OA:=match ks,tm 3,tm 4,tm 5,tm 6 with
 | [],(.sl gh),(.sl gH),(.sl bR),(.int .i64 ej)=>ac.l125 F a_ aC ax n gh gH bR ej H
 | _,_,_,_,_=>none
theorem ac.lh125_inv {F:Nat} {a_:Sl→Int→Hp→OA} {aC:Sl→Int→Hp→OA} {ax:Sl→Int→Hp→OA} {ks:List Nat} {n:Nat} {tm:Tm} {H:Hp} {r:AV×Hp} (h:ac.lh125 F a_ aC ax ks n tm H = some r):∃ gh:Sl,∃ gH:Sl,∃ bR:Sl,∃ ej:Int,ks = []∧tm 3 = (.sl gh)∧tm 4 = (.sl gH)∧tm 5 = (.sl bR)∧tm 6 = (.int .i64 ej)∧ac.l125 F a_ aC ax n gh gH bR ej H = some r:=by
 unfold ac.lh125 at h
 split at h
 ·exact ⟨_,_,_,_,rfl,by assumption,by assumption,by assumption,by assumption,h⟩
 ·cases h
noncomputable def ac.lh253 (F:Nat) (a_:Sl→Int→Hp→OA) (aC:Sl→Int→Hp→OA) (ax:Sl→Int→Hp→OA) (ks:List Nat) (n:Nat) (tm:Tm) (H:Hp):OA:=match ks,tm 3,tm 4,tm 5,tm 7 with
 | [],(.sl fG),(.sl fS),(.sl gf),(.int .i64 cQ)=>ac.l253 F a_ aC ax n fG fS gf cQ H
 | _,_,_,_,_=>none
theorem ac.lh253_inv {F:Nat} {a_:Sl→Int→Hp→OA} {aC:Sl→Int→Hp→OA} {ax:Sl→Int→Hp→OA} {ks:List Nat} {n:Nat} {tm:Tm} {H:Hp} {r:AV×Hp} (h:ac.lh253 F a_ aC ax ks n tm H = some r):∃ fG:Sl,∃ fS:Sl,∃ gf:Sl,∃ cQ:Int,ks = []∧tm 3 = (.sl fG)∧tm 4 = (.sl fS)∧tm 5 = (.sl gf)∧tm 7 = (.int .i64 cQ)∧ac.l253 F a_ aC ax n fG fS gf cQ H = some r:=by
 unfold ac.lh253 at h
 split at h
 ·exact ⟨_,_,_,_,rfl,by assumption,by assumption,by assumption,by assumption,h⟩
 ·cases h
noncomputable def ac.lh509 (F:Nat) (a_:Sl→Int→Hp→OA) (aC:Sl→Int→Hp→OA) (ax:Sl→Int→Hp→OA) (ks:List Nat) (n:Nat) (tm:Tm) (H:Hp):OA:=match ks,tm 3,tm 5,tm 9 with
 | [],(.sl gY),(.sl gZ),(.bool fz)=>ac.l509 F a_ aC ax n gY gZ fz H
 | _,_,_,_=>none
theorem ac.lh509_inv {F:Nat} {a_:Sl→Int→Hp→OA} {aC:Sl→Int→Hp→OA} {ax:Sl→Int→Hp→OA} {ks:List Nat} {n:Nat} {tm:Tm} {H:Hp} {r:AV×Hp} (h:ac.lh509 F a_ aC ax ks n tm H = some r):∃ gY:Sl,∃ gZ:Sl,∃ fz:Bool,ks = []∧tm 3 = (.sl gY)∧tm 5 = (.sl gZ)∧tm 9 = (.bool fz)∧ac.l509 F a_ aC ax n gY gZ fz H = some r:=by
 unfold ac.lh509 at h
 split at h
 ·exact ⟨_,_,_,rfl,by assumption,by assumption,by assumption,h⟩
 ·cases h
noncomputable def ac.lh8151 (F:Nat) (a_:Sl→Int→Hp→OA) (aC:Sl→Int→Hp→OA) (ax:Sl→Int→Hp→OA) (ks:List Nat) (n:Nat) (tm:Tm) (H:Hp):OA:=match ks,tm 3,tm 5,tm 9,tm 10 with
 | [ev],(.sl dk),(.sl da),(.bool dl),(.int .i64 bY)=>ac.l8151 F a_ aC ax (ac.l509 F a_ aC ax ev) n dk da dl bY H
 | _,_,_,_,_=>none
theorem ac.lh8151_inv {F:Nat} {a_:Sl→Int→Hp→OA} {aC:Sl→Int→Hp→OA} {ax:Sl→Int→Hp→OA} {ks:List Nat} {n:Nat} {tm:Tm} {H:Hp} {r:AV×Hp} (h:ac.lh8151 F a_ aC ax ks n tm H = some r):∃ ev:Nat,∃ dk:Sl,∃ da:Sl,∃ dl:Bool,∃ bY:Int,ks = [ev]∧tm 3 = (.sl dk)∧tm 5 = (.sl da)∧tm 9 = (.bool dl)∧tm 10 = (.int .i64 bY)∧ac.l8151 F a_ aC ax (ac.l509 F a_ aC ax ev) n dk da dl bY H = some r:=by
 unfold ac.lh8151 at h
 split at h
 ·exact ⟨_,_,_,_,_,rfl,by assumption,by assumption,by assumption,by assumption,h⟩
 ·cases h
noncomputable def ac.lh (F:Nat) (a_:Sl→Int→Hp→OA) (aC:Sl→Int→Hp→OA) (ax:Sl→Int→Hp→OA) (p:Nat) (ks:List Nat) (n:Nat) (tm:Tm) (H:Hp):OA:=bif p.beq 8151 then ac.lh8151 F a_ aC ax ks n tm H else (bif p.beq 509 then ac.lh509 F a_ aC ax ks n tm H else (bif p.beq 253 then ac.lh253 F a_ aC ax ks n tm H else (bif p.beq 125 then ac.lh125 F a_ aC ax ks n tm H else (none))))
def ac.pn:Nat→List Nat:=fun i=>(([]:List (Nat×List Nat)).lookup i).getD []
def ac.tb:Nat→List (List Nat):=fun i=>(([]:List (Nat×List (List Nat))).lookup i).getD []
noncomputable def ac.mk (g:Sl→Int→Hp→OA) (args:List AV) (H:Hp):OA:=match args with
 | [(.agg [(.sl aa),(.int .i64 ab)])]=>g aa ab H
 | _=>none
noncomputable def ac.cs (F:Nat) (a_:Sl→Int→Hp→OA) (aC:Sl→Int→Hp→OA) (ax:Sl→Int→Hp→OA):List (FuncId×(List AV→Hp→OA)):=[(67,ao.mk a_),(122,af.mk aC),(105,ah.mk ax)]
theorem ac.loops (F:Nat) (a_:Sl→Int→Hp→OA) (aC:Sl→Int→Hp→OA) (ax:Sl→Int→Hp→OA):LoopsOk tabs (mkOrc (ac.cs F a_ aC ax)) ac.pn (ac.lh F a_ aC ax) F [] 1 ac.code (fun tm H=>aresults tabs.ty H tm Try.f68.results.toList fun v=>some (v,H)) (fun _ _ _=>none) (fun tm H=>aresults tabs.ty H tm Try.f68.results.toList fun v=>some (v,H)):=by
 refine LoopsOk.seq ?_ ?_
 ·exact loops_none (by kernel_rfl)
 ·refine LoopsOk.seq ?_ ?_
  ·exact loops_none (by kernel_rfl)
  ·refine LoopsOk.seq ?_ ?_
   ·exact loops_none (by kernel_rfl)
   ·refine LoopsOk.seq ?_ ?_
    ·exact loops_none (by kernel_rfl)
    ·refine LoopsOk.seq ?_ ?_
     ·refine LoopsOk.seq ?_ ?_
      ·exact loops_none (by kernel_rfl)
      ·refine LoopsOk.block ?_
       refine LoopsOk.loop (fun tm H=>?_) (fun k125 tm H r h0=>?_) (fun k125=>?_)
       ·refine none_of fun r h0=>?_
        obtain ⟨gh,gH,bR,ej,hks,e3,e4,e5,e6,h⟩:=ac.lh125_inv (show ac.lh125 F a_ aC ax [] 0 tm H = some r from h0)
        cases h
       ·obtain ⟨gh,gH,bR,ej,hks,e3,e4,e5,e6,h⟩:=ac.lh125_inv (show ac.lh125 F a_ aC ax [] (k125 + 1) tm H = some r from h0)
        have q0:(Tm.put tm 3 (.sl gh)) = tm:=by exact Tm.put_same e3
        have q1:(Tm.put (Tm.put tm 3 (.sl gh)) 4 (.sl gH)) = tm:=by rw [q0]; exact Tm.put_same e4
        have q2:(Tm.put (Tm.put (Tm.put tm 3 (.sl gh)) 4 (.sl gH)) 5 (.sl bR)) = tm:=by rw [q1]; exact Tm.put_same e5
        have q3:(Tm.put (Tm.put (Tm.put (Tm.put tm 3 (.sl gh)) 4 (.sl gH)) 5 (.sl bR)) 6 (.int .i64 ej)) = tm:=by rw [q2]; exact Tm.put_same e6
        rw [← q3]
        exact Eq.trans (by kernel_rfl) h
       ·exact loops_none (by kernel_rfl)
     ·refine LoopsOk.seq ?_ ?_
      ·refine LoopsOk.seq ?_ ?_
       ·exact loops_none (by kernel_rfl)
       ·refine LoopsOk.block ?_
        refine LoopsOk.loop (fun tm H=>?_) (fun k253 tm H r h0=>?_) (fun k253=>?_)
        ·refine none_of fun r h0=>?_
         obtain ⟨fG,fS,gf,cQ,hks,e3,e4,e5,e7,h⟩:=ac.lh253_inv (show ac.lh253 F a_ aC ax [] 0 tm H = some r from h0)
         cases h
        ·obtain ⟨fG,fS,gf,cQ,hks,e3,e4,e5,e7,h⟩:=ac.lh253_inv (show ac.lh253 F a_ aC ax [] (k253 + 1) tm H = some r from h0)
         have q0:(Tm.put tm 3 (.sl fG)) = tm:=by exact Tm.put_same e3
         have q1:(Tm.put (Tm.put tm 3 (.sl fG)) 4 (.sl fS)) = tm:=by rw [q0]; exact Tm.put_same e4
         have q2:(Tm.put (Tm.put (Tm.put tm 3 (.sl fG)) 4 (.sl fS)) 5 (.sl gf)) = tm:=by rw [q1]; exact Tm.put_same e5
         have q3:(Tm.put (Tm.put (Tm.put (Tm.put tm 3 (.sl fG)) 4 (.sl fS)) 5 (.sl gf)) 7 (.int .i64 cQ)) = tm:=by rw [q2]; exact Tm.put_same e7
         rw [← q3]
         exact Eq.trans (by kernel_rfl) h
        ·exact loops_none (by kernel_rfl)
      ·refine LoopsOk.seq ?_ ?_
       ·refine LoopsOk.seq ?_ ?_
        ·exact loops_none (by kernel_rfl)
        ·refine LoopsOk.block ?_
         refine LoopsOk.loop (fun tm H=>?_) (fun k509 tm H r h0=>?_) (fun k509=>?_)
         ·refine none_of fun r h0=>?_
          obtain ⟨gY,gZ,fz,hks,e3,e5,e9,h⟩:=ac.lh509_inv (show ac.lh509 F a_ aC ax [] 0 tm H = some r from h0)
          cases h
         ·obtain ⟨gY,gZ,fz,hks,e3,e5,e9,h⟩:=ac.lh509_inv (show ac.lh509 F a_ aC ax [] (k509 + 1) tm H = some r from h0)
          have q0:(Tm.put tm 3 (.sl gY)) = tm:=by exact Tm.put_same e3
          have q1:(Tm.put (Tm.put tm 3 (.sl gY)) 5 (.sl gZ)) = tm:=by rw [q0]; exact Tm.put_same e5
          have q2:(Tm.put (Tm.put (Tm.put tm 3 (.sl gY)) 5 (.sl gZ)) 9 (.bool fz)) = tm:=by rw [q1]; exact Tm.put_same e9
          rw [← q2]
          exact Eq.trans (by kernel_rfl) h
         ·refine LoopsOk.seq ?_ ?_
          ·exact loops_none (by kernel_rfl)
          ·refine LoopsOk.block ?_
           refine LoopsOk.seq ?_ ?_
           ·exact loops_none (by kernel_rfl)
           ·refine LoopsOk.seq ?_ ?_
            ·exact loops_none (by kernel_rfl)
            ·refine LoopsOk.block ?_
             refine LoopsOk.loop (fun tm H=>?_) (fun k8151 tm H r h0=>?_) (fun k8151=>?_)
             ·refine none_of fun r h0=>?_
              obtain ⟨ev,dk,da,dl,bY,hks,e3,e5,e9,e10,h⟩:=ac.lh8151_inv (show ac.lh8151 F a_ aC ax [k509] 0 tm H = some r from h0)
              cases h
             ·obtain ⟨ev,dk,da,dl,bY,hks,e3,e5,e9,e10,h⟩:=ac.lh8151_inv (show ac.lh8151 F a_ aC ax [k509] (k8151 + 1) tm H = some r from h0)
              obtain rfl:ev = k509:=by simpa [eq_comm] using hks
              have q0:(Tm.put tm 3 (.sl dk)) = tm:=by exact Tm.put_same e3
              have q1:(Tm.put (Tm.put tm 3 (.sl dk)) 5 (.sl da)) = tm:=by rw [q0]; exact Tm.put_same e5
              have q2:(Tm.put (Tm.put (Tm.put tm 3 (.sl dk)) 5 (.sl da)) 9 (.bool dl)) = tm:=by rw [q1]; exact Tm.put_same e9
              have q3:(Tm.put (Tm.put (Tm.put (Tm.put tm 3 (.sl dk)) 5 (.sl da)) 9 (.bool dl)) 10 (.int .i64 bY)) = tm:=by rw [q2]; exact Tm.put_same e10
              rw [← q3]
              exact Eq.trans (by kernel_rfl) h
             ·exact loops_none (by kernel_rfl)
       ·exact loops_none (by kernel_rfl)
theorem ac.eqX (F:Nat) (a_:Sl→Int→Hp→OA) (aC:Sl→Int→Hp→OA) (ax:Sl→Int→Hp→OA) (aa:Sl) (ab:Int) (H:Hp):aCode tabs (mkOrc (ac.cs F a_ aC ax)) ac.pn (ac.lh F a_ aC ax) F [] 1 ac.code (argTm [(.agg [(.sl aa),(.int .i64 ab)])]) H (fun tm H=>aresults tabs.ty H tm Try.f68.results.toList fun v=>some (v,H)) (fun _ _ _=>none) (fun tm H=>aresults tabs.ty H tm Try.f68.results.toList fun v=>some (v,H)) = ac.twX F a_ aC ax aa ab H:=by kernel_rfl
theorem ac.cs_ok (F:Nat):∀ p ∈ ac.cs F (ao.tw F) (af.tw F) (ah.tw F),∀ args H v H',p.2 args H = some (v,H')→Go.AE.T Try.prog p.1 args H v H':=by
 intro p hp
 simp only [ac.cs,List.mem_cons,List.not_mem_nil,or_false] at hp
 rcases hp with rfl | rfl | rfl
 ·exact fun args H v H' h=>ao.mk_T h
 ·exact fun args H v H' h=>af.mk_T h
 ·exact fun args H v H' h=>ah.mk_T h
theorem ac.ok:codeOk ac.pn Try.f68.ntmps ac.tb ac.code = true:=by kernel_rfl
theorem ac.T {F:Nat} {aa:Sl} {ab:Int} {H:Hp} {v:AV} {H':Hp} (h:ac.tw F aa ab H = some (v,H')):Go.AE.T Try.prog 68 [(.agg [(.sl aa),(.int .i64 ab)])] H v H':=
 Go.AE.T.of (Y:=tabs) (C:=mkOrc (ac.cs F (ao.tw F) (af.tw F) (ah.tw F))) (PN:=ac.pn) (LH:=ac.lh F (ao.tw F) (af.tw F) (ah.tw F)) (F:=F) (TB:=ac.tb) (fn:=Try.f68) (code:=ac.code) mixed tabs_ok (mkOrc_ok (ac.cs_ok F)) Try.func68 (by kernel_rfl) (by kernel_rfl) ac.ok (Nat.le_of_ble_eq_true (by kernel_rfl)) (ac.loops F (ao.tw F) (af.tw F) (ah.tw F)) (Eq.trans (ac.eqX F (ao.tw F) (af.tw F) (ah.tw F) aa ab H) h)
theorem ac.mk_T {F:Nat} {args:List AV} {H:Hp} {v:AV} {H':Hp} (h:ac.mk (ac.tw F) args H = some (v,H')):Go.AE.T Try.prog 68 args H v H':=by
 unfold ac.mk at h
 split at h
 ·exact ac.T h
 ·cases h
noncomputable def bA.twX (F:Nat) (g_:Sl→Int→Hp→OA) (hB:Sl→Int→Hp→OA) (aa:Sl) (ab:Int) (H:Hp):OA:=(Hp.new H [(.sl aa),(.int .i64 ab)]).bind fun H3=>(Hp.ldSl H3 H.length 0).bind fun s4=>(Hp.ldI H3 .i64 H.length (0 + 1)).bind fun n5=>(g_ s4 n5 H3).bind fun r6=>((r6.1).asB).bind fun b7=>(bif (!b7) then ((Hp.new r6.2 []).bind fun H8=>some ((.tup [(.sl (⟨some (r6.2.length,0),0,.ex 0⟩:Sl)),(.bool false)]),H8)) else ((Hp.ldSl r6.2 H.length 0).bind fun s9=>(Hp.ldI r6.2 .i64 H.length (0 + 1)).bind fun n10=>(hB s9 n10 r6.2).bind fun r11=>((r11.1).asSl).bind fun s12=>some ((.tup [(.sl s12),(.bool true)]),r11.2)))
noncomputable def bA.tw (F:Nat) (aa:Sl) (ab:Int) (H:Hp):OA:=bA.twX F (bz.tw F) (ac.tw F) aa ab H
noncomputable def bA.code:Go.Code:=(Try.f26.body).getD .skip
noncomputable def bA.lh (F:Nat) (g_:Sl→Int→Hp→OA) (hB:Sl→Int→Hp→OA) (p:Nat) (ks:List Nat) (n:Nat) (tm:Tm) (H:Hp):OA:=none
def bA.pn:Nat→List Nat:=fun i=>(([]:List (Nat×List Nat)).lookup i).getD []
def bA.tb:Nat→List (List Nat):=fun i=>(([]:List (Nat×List (List Nat))).lookup i).getD []
noncomputable def bA.mk (g:Sl→Int→Hp→OA) (args:List AV) (H:Hp):OA:=match args with
 | [(.agg [(.sl aa),(.int .i64 ab)])]=>g aa ab H
 | _=>none
noncomputable def bA.cs (F:Nat) (g_:Sl→Int→Hp→OA) (hB:Sl→Int→Hp→OA):List (FuncId×(List AV→Hp→OA)):=[(50,bz.mk g_),(68,ac.mk hB)]
theorem bA.loops (F:Nat) (g_:Sl→Int→Hp→OA) (hB:Sl→Int→Hp→OA):LoopsOk tabs (mkOrc (bA.cs F g_ hB)) bA.pn (bA.lh F g_ hB) F [] 1 bA.code (fun tm H=>aresults tabs.ty H tm Try.f26.results.toList fun v=>some (v,H)) (fun _ _ _=>none) (fun tm H=>aresults tabs.ty H tm Try.f26.results.toList fun v=>some (v,H)):=by
 exact loops_none (by kernel_rfl)
theorem bA.eqX (F:Nat) (g_:Sl→Int→Hp→OA) (hB:Sl→Int→Hp→OA) (aa:Sl) (ab:Int) (H:Hp):aCode tabs (mkOrc (bA.cs F g_ hB)) bA.pn (bA.lh F g_ hB) F [] 1 bA.code (argTm [(.agg [(.sl aa),(.int .i64 ab)])]) H (fun tm H=>aresults tabs.ty H tm Try.f26.results.toList fun v=>some (v,H)) (fun _ _ _=>none) (fun tm H=>aresults tabs.ty H tm Try.f26.results.toList fun v=>some (v,H)) = bA.twX F g_ hB aa ab H:=by kernel_rfl
theorem bA.cs_ok (F:Nat):∀ p ∈ bA.cs F (bz.tw F) (ac.tw F),∀ args H v H',p.2 args H = some (v,H')→Go.AE.T Try.prog p.1 args H v H':=by
 intro p hp
 simp only [bA.cs,List.mem_cons,List.not_mem_nil,or_false] at hp
 rcases hp with rfl | rfl
 ·exact fun args H v H' h=>bz.mk_T h
 ·exact fun args H v H' h=>ac.mk_T h
theorem bA.ok:codeOk bA.pn Try.f26.ntmps bA.tb bA.code = true:=by kernel_rfl
theorem bA.T {F:Nat} {aa:Sl} {ab:Int} {H:Hp} {v:AV} {H':Hp} (h:bA.tw F aa ab H = some (v,H')):Go.AE.T Try.prog 26 [(.agg [(.sl aa),(.int .i64 ab)])] H v H':=
 Go.AE.T.of (Y:=tabs) (C:=mkOrc (bA.cs F (bz.tw F) (ac.tw F))) (PN:=bA.pn) (LH:=bA.lh F (bz.tw F) (ac.tw F)) (F:=F) (TB:=bA.tb) (fn:=Try.f26) (code:=bA.code) mixed tabs_ok (mkOrc_ok (bA.cs_ok F)) Try.func26 (by kernel_rfl) (by kernel_rfl) bA.ok (Nat.le_of_ble_eq_true (by kernel_rfl)) (bA.loops F (bz.tw F) (ac.tw F)) (Eq.trans (bA.eqX F (bz.tw F) (ac.tw F) aa ab H) h)
theorem bA.mk_T {F:Nat} {args:List AV} {H:Hp} {v:AV} {H':Hp} (h:bA.mk (bA.tw F) args H = some (v,H')):Go.AE.T Try.prog 26 args H v H':=by
 unfold bA.mk at h
 split at h
 ·exact bA.T h
 ·cases h
noncomputable def bf.twX (F:Nat) (aa:Sl) (H:Hp):OA:=some ((.int .i64 (aa.n:Int)),H)
noncomputable def bf.tw (F:Nat) (aa:Sl) (H:Hp):OA:=bf.twX F aa H
noncomputable def bf.code:Go.Code:=(Try.f117.body).getD .skip
noncomputable def bf.lh (F:Nat) (p:Nat) (ks:List Nat) (n:Nat) (tm:Tm) (H:Hp):OA:=none
def bf.pn:Nat→List Nat:=fun i=>(([]:List (Nat×List Nat)).lookup i).getD []
def bf.tb:Nat→List (List Nat):=fun i=>(([]:List (Nat×List (List Nat))).lookup i).getD []
noncomputable def bf.mk (g:Sl→Hp→OA) (args:List AV) (H:Hp):OA:=match args with
 | [(.sl aa)]=>g aa H
 | _=>none
noncomputable def bf.cs (F:Nat):List (FuncId×(List AV→Hp→OA)):=[]
theorem bf.loops (F:Nat):LoopsOk tabs (mkOrc (bf.cs F)) bf.pn (bf.lh F) F [] 1 bf.code (fun tm H=>aresults tabs.ty H tm Try.f117.results.toList fun v=>some (v,H)) (fun _ _ _=>none) (fun tm H=>aresults tabs.ty H tm Try.f117.results.toList fun v=>some (v,H)):=by
 exact loops_none (by kernel_rfl)
theorem bf.eqX (F:Nat) (aa:Sl) (H:Hp):aCode tabs (mkOrc (bf.cs F)) bf.pn (bf.lh F) F [] 1 bf.code (argTm [(.sl aa)]) H (fun tm H=>aresults tabs.ty H tm Try.f117.results.toList fun v=>some (v,H)) (fun _ _ _=>none) (fun tm H=>aresults tabs.ty H tm Try.f117.results.toList fun v=>some (v,H)) = bf.twX F aa H:=by kernel_rfl
theorem bf.cs_ok (F:Nat):∀ p ∈ bf.cs F,∀ args H v H',p.2 args H = some (v,H')→Go.AE.T Try.prog p.1 args H v H':=by
 intro p hp
 exact absurd (show p ∈ [] from hp) List.not_mem_nil
theorem bf.ok:codeOk bf.pn Try.f117.ntmps bf.tb bf.code = true:=by kernel_rfl
theorem bf.T {F:Nat} {aa:Sl} {H:Hp} {v:AV} {H':Hp} (h:bf.tw F aa H = some (v,H')):Go.AE.T Try.prog 117 [(.sl aa)] H v H':=
 Go.AE.T.of (Y:=tabs) (C:=mkOrc (bf.cs F)) (PN:=bf.pn) (LH:=bf.lh F) (F:=F) (TB:=bf.tb) (fn:=Try.f117) (code:=bf.code) mixed tabs_ok (mkOrc_ok (bf.cs_ok F)) Try.func117 (by kernel_rfl) (by kernel_rfl) bf.ok (Nat.le_of_ble_eq_true (by kernel_rfl)) (bf.loops F) (Eq.trans (bf.eqX F aa H) h)
theorem bf.mk_T {F:Nat} {args:List AV} {H:Hp} {v:AV} {H':Hp} (h:bf.mk (bf.tw F) args H = some (v,H')):Go.AE.T Try.prog 117 args H v H':=by
 unfold bf.mk at h
 split at h
 ·exact bf.T h
 ·cases h
noncomputable def bk.twX (F:Nat) (aa:Int) (ae:Int) (bN:Int) (H:Hp):OA:=(bif (decide (ae ≤ aa)) then (some ((.bool (decide (aa ≤ bN))),H)) else (some ((.bool false),H)))
noncomputable def bk.tw (F:Nat) (aa:Int) (ae:Int) (bN:Int) (H:Hp):OA:=bk.twX F aa ae bN H
noncomputable def bk.code:Go.Code:=(Try.f81.body).getD .skip
noncomputable def bk.lh (F:Nat) (p:Nat) (ks:List Nat) (n:Nat) (tm:Tm) (H:Hp):OA:=none
def bk.pn:Nat→List Nat:=fun i=>(([]:List (Nat×List Nat)).lookup i).getD []
def bk.tb:Nat→List (List Nat):=fun i=>(([]:List (Nat×List (List Nat))).lookup i).getD []
noncomputable def bk.mk (g:Int→Int→Int→Hp→OA) (args:List AV) (H:Hp):OA:=match args with
 | [(.int .i64 aa),(.int .i64 ae),(.int .i64 bN)]=>g aa ae bN H
 | _=>none
noncomputable def bk.cs (F:Nat):List (FuncId×(List AV→Hp→OA)):=[]
theorem bk.loops (F:Nat):LoopsOk tabs (mkOrc (bk.cs F)) bk.pn (bk.lh F) F [] 1 bk.code (fun tm H=>aresults tabs.ty H tm Try.f81.results.toList fun v=>some (v,H)) (fun _ _ _=>none) (fun tm H=>aresults tabs.ty H tm Try.f81.results.toList fun v=>some (v,H)):=by
 exact loops_none (by kernel_rfl)
theorem bk.eqX (F:Nat) (aa:Int) (ae:Int) (bN:Int) (H:Hp):aCode tabs (mkOrc (bk.cs F)) bk.pn (bk.lh F) F [] 1 bk.code (argTm [(.int .i64 aa),(.int .i64 ae),(.int .i64 bN)]) H (fun tm H=>aresults tabs.ty H tm Try.f81.results.toList fun v=>some (v,H)) (fun _ _ _=>none) (fun tm H=>aresults tabs.ty H tm Try.f81.results.toList fun v=>some (v,H)) = bk.twX F aa ae bN H:=by kernel_rfl
theorem bk.cs_ok (F:Nat):∀ p ∈ bk.cs F,∀ args H v H',p.2 args H = some (v,H')→Go.AE.T Try.prog p.1 args H v H':=by
 intro p hp
 exact absurd (show p ∈ [] from hp) List.not_mem_nil
theorem bk.ok:codeOk bk.pn Try.f81.ntmps bk.tb bk.code = true:=by kernel_rfl
theorem bk.T {F:Nat} {aa:Int} {ae:Int} {bN:Int} {H:Hp} {v:AV} {H':Hp} (h:bk.tw F aa ae bN H = some (v,H')):Go.AE.T Try.prog 81 [(.int .i64 aa),(.int .i64 ae),(.int .i64 bN)] H v H':=
 Go.AE.T.of (Y:=tabs) (C:=mkOrc (bk.cs F)) (PN:=bk.pn) (LH:=bk.lh F) (F:=F) (TB:=bk.tb) (fn:=Try.f81) (code:=bk.code) mixed tabs_ok (mkOrc_ok (bk.cs_ok F)) Try.func81 (by kernel_rfl) (by kernel_rfl) bk.ok (Nat.le_of_ble_eq_true (by kernel_rfl)) (bk.loops F) (Eq.trans (bk.eqX F aa ae bN H) h)
theorem bk.mk_T {F:Nat} {args:List AV} {H:Hp} {v:AV} {H':Hp} (h:bk.mk (bk.tw F) args H = some (v,H')):Go.AE.T Try.prog 81 args H v H':=by
 unfold bk.mk at h
 split at h
 ·exact bk.T h
 ·cases h
noncomputable def bG.twX (F:Nat) (aa:Int) (ab:Int) (aA:Int) (aB:Int) (az:Int) (H:Hp):OA:=(Hp.new H [(.int .i64 aa),(.int .i64 ab),(.int .i64 aA),(.int .i64 aB),(.int .i64 az)]).bind fun H6=>(Hp.ldI H6 .i64 H.length 4).bind fun n7=>(bif (n7 != 1) then ((Hp.ldI H6 .i64 H.length 4).bind fun n8=>some ((.bool (n8 != (-1))),H6)) else (some ((.bool false),H6)))
noncomputable def bG.tw (F:Nat) (aa:Int) (ab:Int) (aA:Int) (aB:Int) (az:Int) (H:Hp):OA:=bG.twX F aa ab aA aB az H
noncomputable def bG.code:Go.Code:=(Try.f124.body).getD .skip
noncomputable def bG.lh (F:Nat) (p:Nat) (ks:List Nat) (n:Nat) (tm:Tm) (H:Hp):OA:=none
def bG.pn:Nat→List Nat:=fun i=>(([]:List (Nat×List Nat)).lookup i).getD []
def bG.tb:Nat→List (List Nat):=fun i=>(([]:List (Nat×List (List Nat))).lookup i).getD []
noncomputable def bG.mk (g:Int→Int→Int→Int→Int→Hp→OA) (args:List AV) (H:Hp):OA:=match args with
 | [(.agg [(.int .i64 aa),(.int .i64 ab),(.int .i64 aA),(.int .i64 aB),(.int .i64 az)])]=>g aa ab aA aB az H
 | _=>none
noncomputable def bG.cs (F:Nat):List (FuncId×(List AV→Hp→OA)):=[]
theorem bG.loops (F:Nat):LoopsOk tabs (mkOrc (bG.cs F)) bG.pn (bG.lh F) F [] 1 bG.code (fun tm H=>aresults tabs.ty H tm Try.f124.results.toList fun v=>some (v,H)) (fun _ _ _=>none) (fun tm H=>aresults tabs.ty H tm Try.f124.results.toList fun v=>some (v,H)):=by
 exact loops_none (by kernel_rfl)
theorem bG.eqX (F:Nat) (aa:Int) (ab:Int) (aA:Int) (aB:Int) (az:Int) (H:Hp):aCode tabs (mkOrc (bG.cs F)) bG.pn (bG.lh F) F [] 1 bG.code (argTm [(.agg [(.int .i64 aa),(.int .i64 ab),(.int .i64 aA),(.int .i64 aB),(.int .i64 az)])]) H (fun tm H=>aresults tabs.ty H tm Try.f124.results.toList fun v=>some (v,H)) (fun _ _ _=>none) (fun tm H=>aresults tabs.ty H tm Try.f124.results.toList fun v=>some (v,H)) = bG.twX F aa ab aA aB az H:=by kernel_rfl
theorem bG.cs_ok (F:Nat):∀ p ∈ bG.cs F,∀ args H v H',p.2 args H = some (v,H')→Go.AE.T Try.prog p.1 args H v H':=by
 intro p hp
 exact absurd (show p ∈ [] from hp) List.not_mem_nil
theorem bG.ok:codeOk bG.pn Try.f124.ntmps bG.tb bG.code = true:=by kernel_rfl
theorem bG.T {F:Nat} {aa:Int} {ab:Int} {aA:Int} {aB:Int} {az:Int} {H:Hp} {v:AV} {H':Hp} (h:bG.tw F aa ab aA aB az H = some (v,H')):Go.AE.T Try.prog 124 [(.agg [(.int .i64 aa),(.int .i64 ab),(.int .i64 aA),(.int .i64 aB),(.int .i64 az)])] H v H':=
 Go.AE.T.of (Y:=tabs) (C:=mkOrc (bG.cs F)) (PN:=bG.pn) (LH:=bG.lh F) (F:=F) (TB:=bG.tb) (fn:=Try.f124) (code:=bG.code) mixed tabs_ok (mkOrc_ok (bG.cs_ok F)) Try.func124 (by kernel_rfl) (by kernel_rfl) bG.ok (Nat.le_of_ble_eq_true (by kernel_rfl)) (bG.loops F) (Eq.trans (bG.eqX F aa ab aA aB az H) h)
theorem bG.mk_T {F:Nat} {args:List AV} {H:Hp} {v:AV} {H':Hp} (h:bG.mk (bG.tw F) args H = some (v,H')):Go.AE.T Try.prog 124 args H v H':=by
 unfold bG.mk at h
 split at h
 ·exact bG.T h
 ·cases h
noncomputable def aP.l13 (F:Nat) (dJ:Int→Int→Int→Int→Int→Hp→OA) :Nat→Sl→Int→Int→Hp→OA
 | 0,_,_,_,_=>none
 | ff + 1,gi,ew,dK,H6=>(bif (decide (dK < ew)) then ((Sl.idx gi dK 5).bind fun p15=>(Hp.ldI H6 .i64 p15.1 p15.2).bind fun n16=>(Hp.ldI H6 .i64 p15.1 (p15.2 + 1)).bind fun n17=>(Hp.ldI H6 .i64 p15.1 (p15.2 + 2)).bind fun n18=>(Hp.ldI H6 .i64 p15.1 (p15.2 + 3)).bind fun n19=>(Hp.ldI H6 .i64 p15.1 (p15.2 + 4)).bind fun n20=>(dJ n16 n17 n18 n19 n20 H6).bind fun r21=>((r21.1).asB).bind fun b22=>(bif b22 then (some ((.int .i64 dK),r21.2)) else (aP.l13 F dJ ff gi ew (IntKind.i64.wrap (dK + 1)) r21.2))) else (some ((.int .i64 (-1)),H6)))
termination_by structural n=>n
noncomputable def aP.twX (F:Nat) (dJ:Int→Int→Int→Int→Int→Hp→OA) (aa:Sl) (H:Hp):OA:=aP.l13 F dJ F aa (aa.n:Int) 0 H
noncomputable def aP.tw (F:Nat) (aa:Sl) (H:Hp):OA:=aP.twX F (bG.tw F) aa H
noncomputable def aP.code:Go.Code:=(Try.f153.body).getD .skip
noncomputable def aP.lh13 (F:Nat) (dJ:Int→Int→Int→Int→Int→Hp→OA) (ks:List Nat) (n:Nat) (tm:Tm) (H:Hp):OA:=match ks,tm 0,tm 1,tm 7,tm 8 with
 | [],(.sl gi),(.fn 124 []),(.int .i64 ew),(.int .i64 dK)=>aP.l13 F dJ n gi ew dK H
 | _,_,_,_,_=>none
theorem aP.lh13_inv {F:Nat} {dJ:Int→Int→Int→Int→Int→Hp→OA} {ks:List Nat} {n:Nat} {tm:Tm} {H:Hp} {r:AV×Hp} (h:aP.lh13 F dJ ks n tm H = some r):∃ gi:Sl,∃ ew:Int,∃ dK:Int,ks = []∧tm 0 = (.sl gi)∧tm 1 = (.fn 124 [])∧tm 7 = (.int .i64 ew)∧tm 8 = (.int .i64 dK)∧aP.l13 F dJ n gi ew dK H = some r:=by
 unfold aP.lh13 at h
 split at h
 ·exact ⟨_,_,_,rfl,by assumption,by assumption,by assumption,by assumption,h⟩
 ·cases h
noncomputable def aP.lh (F:Nat) (dJ:Int→Int→Int→Int→Int→Hp→OA) (p:Nat) (ks:List Nat) (n:Nat) (tm:Tm) (H:Hp):OA:=bif p.beq 13 then aP.lh13 F dJ ks n tm H else (none)
def aP.pn:Nat→List Nat:=fun i=>(([]:List (Nat×List Nat)).lookup i).getD []
def aP.tb:Nat→List (List Nat):=fun i=>(([]:List (Nat×List (List Nat))).lookup i).getD []
noncomputable def aP.mk (g:Sl→Hp→OA) (args:List AV) (H:Hp):OA:=match args with
 | [(.sl aa),(.fn 124 [])]=>g aa H
 | _=>none
noncomputable def aP.cs (F:Nat) (dJ:Int→Int→Int→Int→Int→Hp→OA):List (FuncId×(List AV→Hp→OA)):=[(124,bG.mk dJ)]
theorem aP.loops (F:Nat) (dJ:Int→Int→Int→Int→Int→Hp→OA):LoopsOk tabs (mkOrc (aP.cs F dJ)) aP.pn (aP.lh F dJ) F [] 1 aP.code (fun tm H=>aresults tabs.ty H tm Try.f153.results.toList fun v=>some (v,H)) (fun _ _ _=>none) (fun tm H=>aresults tabs.ty H tm Try.f153.results.toList fun v=>some (v,H)):=by
 refine LoopsOk.seq ?_ ?_
 ·exact loops_none (by kernel_rfl)
 ·refine LoopsOk.seq ?_ ?_
  ·refine LoopsOk.seq ?_ ?_
   ·exact loops_none (by kernel_rfl)
   ·refine LoopsOk.block ?_
    refine LoopsOk.loop (fun tm H=>?_) (fun k13 tm H r h0=>?_) (fun k13=>?_)
    ·refine none_of fun r h0=>?_
     obtain ⟨gi,ew,dK,hks,e0,e1,e7,e8,h⟩:=aP.lh13_inv (show aP.lh13 F dJ [] 0 tm H = some r from h0)
     cases h
    ·obtain ⟨gi,ew,dK,hks,e0,e1,e7,e8,h⟩:=aP.lh13_inv (show aP.lh13 F dJ [] (k13 + 1) tm H = some r from h0)
     have q0:(Tm.put tm 0 (.sl gi)) = tm:=by exact Tm.put_same e0
     have q1:(Tm.put (Tm.put tm 0 (.sl gi)) 1 (.fn 124 [])) = tm:=by rw [q0]; exact Tm.put_same e1
     have q2:(Tm.put (Tm.put (Tm.put tm 0 (.sl gi)) 1 (.fn 124 [])) 7 (.int .i64 ew)) = tm:=by rw [q1]; exact Tm.put_same e7
     have q3:(Tm.put (Tm.put (Tm.put (Tm.put tm 0 (.sl gi)) 1 (.fn 124 [])) 7 (.int .i64 ew)) 8 (.int .i64 dK)) = tm:=by rw [q2]; exact Tm.put_same e8
     rw [← q3]
     exact Eq.trans (by kernel_rfl) h
    ·exact loops_none (by kernel_rfl)
  ·exact loops_none (by kernel_rfl)
theorem aP.eqX (F:Nat) (dJ:Int→Int→Int→Int→Int→Hp→OA) (aa:Sl) (H:Hp):aCode tabs (mkOrc (aP.cs F dJ)) aP.pn (aP.lh F dJ) F [] 1 aP.code (argTm [(.sl aa),(.fn 124 [])]) H (fun tm H=>aresults tabs.ty H tm Try.f153.results.toList fun v=>some (v,H)) (fun _ _ _=>none) (fun tm H=>aresults tabs.ty H tm Try.f153.results.toList fun v=>some (v,H)) = aP.twX F dJ aa H:=by kernel_rfl
theorem aP.cs_ok (F:Nat):∀ p ∈ aP.cs F (bG.tw F),∀ args H v H',p.2 args H = some (v,H')→Go.AE.T Try.prog p.1 args H v H':=by
 intro p hp
 simp only [aP.cs,List.mem_cons,List.not_mem_nil,or_false] at hp
 subst hp
 exact fun args H v H' h=>bG.mk_T h
theorem aP.ok:codeOk aP.pn Try.f153.ntmps aP.tb aP.code = true:=by kernel_rfl
theorem aP.T {F:Nat} {aa:Sl} {H:Hp} {v:AV} {H':Hp} (h:aP.tw F aa H = some (v,H')):Go.AE.T Try.prog 153 [(.sl aa),(.fn 124 [])] H v H':=
 Go.AE.T.of (Y:=tabs) (C:=mkOrc (aP.cs F (bG.tw F))) (PN:=aP.pn) (LH:=aP.lh F (bG.tw F)) (F:=F) (TB:=aP.tb) (fn:=Try.f153) (code:=aP.code) mixed tabs_ok (mkOrc_ok (aP.cs_ok F)) Try.func153 (by kernel_rfl) (by kernel_rfl) aP.ok (Nat.le_of_ble_eq_true (by kernel_rfl)) (aP.loops F (bG.tw F)) (Eq.trans (aP.eqX F (bG.tw F) aa H) h)
theorem aP.mk_T {F:Nat} {args:List AV} {H:Hp} {v:AV} {H':Hp} (h:aP.mk (aP.tw F) args H = some (v,H')):Go.AE.T Try.prog 153 args H v H':=by
 unfold aP.mk at h
 split at h
 ·exact aP.T h
 ·cases h
noncomputable def bB.twX (F:Nat) (hC:Sl→Hp→OA) (aa:Sl) (H:Hp):OA:=(hC aa H).bind fun r2=>((r2.1).asI .i64).bind fun n3=>some ((.bool (decide (n3 ≥ 0))),r2.2)
noncomputable def bB.tw (F:Nat) (aa:Sl) (H:Hp):OA:=bB.twX F (aP.tw F) aa H
noncomputable def bB.code:Go.Code:=(Try.f123.body).getD .skip
noncomputable def bB.lh (F:Nat) (hC:Sl→Hp→OA) (p:Nat) (ks:List Nat) (n:Nat) (tm:Tm) (H:Hp):OA:=none
def bB.pn:Nat→List Nat:=fun i=>(([]:List (Nat×List Nat)).lookup i).getD []
def bB.tb:Nat→List (List Nat):=fun i=>(([]:List (Nat×List (List Nat))).lookup i).getD []
noncomputable def bB.mk (g:Sl→Hp→OA) (args:List AV) (H:Hp):OA:=match args with
 | [(.sl aa),(.fn 124 [])]=>g aa H
 | _=>none
noncomputable def bB.cs (F:Nat) (hC:Sl→Hp→OA):List (FuncId×(List AV→Hp→OA)):=[(153,aP.mk hC)]
theorem bB.loops (F:Nat) (hC:Sl→Hp→OA):LoopsOk tabs (mkOrc (bB.cs F hC)) bB.pn (bB.lh F hC) F [] 1 bB.code (fun tm H=>aresults tabs.ty H tm Try.f123.results.toList fun v=>some (v,H)) (fun _ _ _=>none) (fun tm H=>aresults tabs.ty H tm Try.f123.results.toList fun v=>some (v,H)):=by
 exact loops_none (by kernel_rfl)
theorem bB.eqX (F:Nat) (hC:Sl→Hp→OA) (aa:Sl) (H:Hp):aCode tabs (mkOrc (bB.cs F hC)) bB.pn (bB.lh F hC) F [] 1 bB.code (argTm [(.sl aa),(.fn 124 [])]) H (fun tm H=>aresults tabs.ty H tm Try.f123.results.toList fun v=>some (v,H)) (fun _ _ _=>none) (fun tm H=>aresults tabs.ty H tm Try.f123.results.toList fun v=>some (v,H)) = bB.twX F hC aa H:=by kernel_rfl
theorem bB.cs_ok (F:Nat):∀ p ∈ bB.cs F (aP.tw F),∀ args H v H',p.2 args H = some (v,H')→Go.AE.T Try.prog p.1 args H v H':=by
 intro p hp
 simp only [bB.cs,List.mem_cons,List.not_mem_nil,or_false] at hp
 subst hp
 exact fun args H v H' h=>aP.mk_T h
theorem bB.ok:codeOk bB.pn Try.f123.ntmps bB.tb bB.code = true:=by kernel_rfl
theorem bB.T {F:Nat} {aa:Sl} {H:Hp} {v:AV} {H':Hp} (h:bB.tw F aa H = some (v,H')):Go.AE.T Try.prog 123 [(.sl aa),(.fn 124 [])] H v H':=
 Go.AE.T.of (Y:=tabs) (C:=mkOrc (bB.cs F (aP.tw F))) (PN:=bB.pn) (LH:=bB.lh F (aP.tw F)) (F:=F) (TB:=bB.tb) (fn:=Try.f123) (code:=bB.code) mixed tabs_ok (mkOrc_ok (bB.cs_ok F)) Try.func123 (by kernel_rfl) (by kernel_rfl) bB.ok (Nat.le_of_ble_eq_true (by kernel_rfl)) (bB.loops F (aP.tw F)) (Eq.trans (bB.eqX F (aP.tw F) aa H) h)
theorem bB.mk_T {F:Nat} {args:List AV} {H:Hp} {v:AV} {H':Hp} (h:bB.mk (bB.tw F) args H = some (v,H')):Go.AE.T Try.prog 123 args H v H':=by
 unfold bB.mk at h
 split at h
 ·exact bB.T h
 ·cases h
noncomputable def bits_Mul64.twX (F:Nat) (aa:Int) (ae:Int) (H:Hp):OA:=some ((.tup [(.int .u64 (IntKind.u64.wrap ((IntKind.u64.wrap ((IntKind.u64.wrap ((Int.fdiv aa (2 ^ (min (32:Int).toNat (IntKind.u64).bits))) * (Int.fdiv ae (2 ^ (min (32:Int).toNat (IntKind.u64).bits))))) + (Int.fdiv (IntKind.u64.wrap ((IntKind.u64.wrap ((Int.fdiv aa (2 ^ (min (32:Int).toNat (IntKind.u64).bits))) * (Go.bits .and .u64 ae 4294967295))) + (Int.fdiv (IntKind.u64.wrap ((Go.bits .and .u64 aa 4294967295) * (Go.bits .and .u64 ae 4294967295))) (2 ^ (min (32:Int).toNat (IntKind.u64).bits))))) (2 ^ (min (32:Int).toNat (IntKind.u64).bits))))) + (Int.fdiv (IntKind.u64.wrap ((Go.bits .and .u64 (IntKind.u64.wrap ((IntKind.u64.wrap ((Int.fdiv aa (2 ^ (min (32:Int).toNat (IntKind.u64).bits))) * (Go.bits .and .u64 ae 4294967295))) + (Int.fdiv (IntKind.u64.wrap ((Go.bits .and .u64 aa 4294967295) * (Go.bits .and .u64 ae 4294967295))) (2 ^ (min (32:Int).toNat (IntKind.u64).bits))))) 4294967295) + (IntKind.u64.wrap ((Go.bits .and .u64 aa 4294967295) * (Int.fdiv ae (2 ^ (min (32:Int).toNat (IntKind.u64).bits))))))) (2 ^ (min (32:Int).toNat (IntKind.u64).bits)))))),(.int .u64 (IntKind.u64.wrap (aa * ae)))]),H)
noncomputable def bits_Mul64.tw (F:Nat) (aa:Int) (ae:Int) (H:Hp):OA:=bits_Mul64.twX F aa ae H
noncomputable def bits_Mul64.code:Go.Code:=(Try.f172.body).getD .skip
noncomputable def bits_Mul64.lh (F:Nat) (p:Nat) (ks:List Nat) (n:Nat) (tm:Tm) (H:Hp):OA:=none
def bits_Mul64.pn:Nat→List Nat:=fun i=>(([]:List (Nat×List Nat)).lookup i).getD []
def bits_Mul64.tb:Nat→List (List Nat):=fun i=>(([]:List (Nat×List (List Nat))).lookup i).getD []
noncomputable def bits_Mul64.mk (g:Int→Int→Hp→OA) (args:List AV) (H:Hp):OA:=match args with
 | [(.int .u64 aa),(.int .u64 ae)]=>g aa ae H
 | _=>none
noncomputable def bits_Mul64.cs (F:Nat):List (FuncId×(List AV→Hp→OA)):=[]
theorem bits_Mul64.loops (F:Nat):LoopsOk tabs (mkOrc (bits_Mul64.cs F)) bits_Mul64.pn (bits_Mul64.lh F) F [] 1 bits_Mul64.code (fun tm H=>aresults tabs.ty H tm Try.f172.results.toList fun v=>some (v,H)) (fun _ _ _=>none) (fun tm H=>aresults tabs.ty H tm Try.f172.results.toList fun v=>some (v,H)):=by
 exact loops_none (by kernel_rfl)
theorem bits_Mul64.eqX (F:Nat) (aa:Int) (ae:Int) (H:Hp):aCode tabs (mkOrc (bits_Mul64.cs F)) bits_Mul64.pn (bits_Mul64.lh F) F [] 1 bits_Mul64.code (argTm [(.int .u64 aa),(.int .u64 ae)]) H (fun tm H=>aresults tabs.ty H tm Try.f172.results.toList fun v=>some (v,H)) (fun _ _ _=>none) (fun tm H=>aresults tabs.ty H tm Try.f172.results.toList fun v=>some (v,H)) = bits_Mul64.twX F aa ae H:=by kernel_rfl
theorem bits_Mul64.cs_ok (F:Nat):∀ p ∈ bits_Mul64.cs F,∀ args H v H',p.2 args H = some (v,H')→Go.AE.T Try.prog p.1 args H v H':=by
 intro p hp
 exact absurd (show p ∈ [] from hp) List.not_mem_nil
theorem bits_Mul64.ok:codeOk bits_Mul64.pn Try.f172.ntmps bits_Mul64.tb bits_Mul64.code = true:=by kernel_rfl
theorem bits_Mul64.T {F:Nat} {aa:Int} {ae:Int} {H:Hp} {v:AV} {H':Hp} (h:bits_Mul64.tw F aa ae H = some (v,H')):Go.AE.T Try.prog 172 [(.int .u64 aa),(.int .u64 ae)] H v H':=
 Go.AE.T.of (Y:=tabs) (C:=mkOrc (bits_Mul64.cs F)) (PN:=bits_Mul64.pn) (LH:=bits_Mul64.lh F) (F:=F) (TB:=bits_Mul64.tb) (fn:=Try.f172) (code:=bits_Mul64.code) mixed tabs_ok (mkOrc_ok (bits_Mul64.cs_ok F)) Try.func172 (by kernel_rfl) (by kernel_rfl) bits_Mul64.ok (Nat.le_of_ble_eq_true (by kernel_rfl)) (bits_Mul64.loops F) (Eq.trans (bits_Mul64.eqX F aa ae H) h)
theorem bits_Mul64.mk_T {F:Nat} {args:List AV} {H:Hp} {v:AV} {H':Hp} (h:bits_Mul64.mk (bits_Mul64.tw F) args H = some (v,H')):Go.AE.T Try.prog 172 args H v H':=by
 unfold bits_Mul64.mk at h
 split at h
 ·exact bits_Mul64.T h
 ·cases h
noncomputable def bits_Mul.twX (F:Nat) (g_bits_Mul64:Int→Int→Hp→OA) (aa:Int) (ae:Int) (H:Hp):OA:=(g_bits_Mul64 aa ae H).bind fun r3=>((r3.1).asTup 2).bind fun l4=>(l4[0]?).bind fun v5=>((v5).asI .u64).bind fun n6=>(l4[1]?).bind fun v7=>((v7).asI .u64).bind fun n8=>some ((.tup [(.int .u64 n6),(.int .u64 n8)]),r3.2)
noncomputable def bits_Mul.tw (F:Nat) (aa:Int) (ae:Int) (H:Hp):OA:=bits_Mul.twX F (bits_Mul64.tw F) aa ae H
noncomputable def bits_Mul.code:Go.Code:=(Try.f158.body).getD .skip
noncomputable def bits_Mul.lh (F:Nat) (g_bits_Mul64:Int→Int→Hp→OA) (p:Nat) (ks:List Nat) (n:Nat) (tm:Tm) (H:Hp):OA:=none
def bits_Mul.pn:Nat→List Nat:=fun i=>(([]:List (Nat×List Nat)).lookup i).getD []
def bits_Mul.tb:Nat→List (List Nat):=fun i=>(([]:List (Nat×List (List Nat))).lookup i).getD []
noncomputable def bits_Mul.mk (g:Int→Int→Hp→OA) (args:List AV) (H:Hp):OA:=match args with
 | [(.int .u64 aa),(.int .u64 ae)]=>g aa ae H
 | _=>none
noncomputable def bits_Mul.cs (F:Nat) (g_bits_Mul64:Int→Int→Hp→OA):List (FuncId×(List AV→Hp→OA)):=[(172,bits_Mul64.mk g_bits_Mul64)]
theorem bits_Mul.loops (F:Nat) (g_bits_Mul64:Int→Int→Hp→OA):LoopsOk tabs (mkOrc (bits_Mul.cs F g_bits_Mul64)) bits_Mul.pn (bits_Mul.lh F g_bits_Mul64) F [] 1 bits_Mul.code (fun tm H=>aresults tabs.ty H tm Try.f158.results.toList fun v=>some (v,H)) (fun _ _ _=>none) (fun tm H=>aresults tabs.ty H tm Try.f158.results.toList fun v=>some (v,H)):=by
 exact loops_none (by kernel_rfl)
theorem bits_Mul.eqX (F:Nat) (g_bits_Mul64:Int→Int→Hp→OA) (aa:Int) (ae:Int) (H:Hp):aCode tabs (mkOrc (bits_Mul.cs F g_bits_Mul64)) bits_Mul.pn (bits_Mul.lh F g_bits_Mul64) F [] 1 bits_Mul.code (argTm [(.int .u64 aa),(.int .u64 ae)]) H (fun tm H=>aresults tabs.ty H tm Try.f158.results.toList fun v=>some (v,H)) (fun _ _ _=>none) (fun tm H=>aresults tabs.ty H tm Try.f158.results.toList fun v=>some (v,H)) = bits_Mul.twX F g_bits_Mul64 aa ae H:=by kernel_rfl
theorem bits_Mul.cs_ok (F:Nat):∀ p ∈ bits_Mul.cs F (bits_Mul64.tw F),∀ args H v H',p.2 args H = some (v,H')→Go.AE.T Try.prog p.1 args H v H':=by
 intro p hp
 simp only [bits_Mul.cs,List.mem_cons,List.not_mem_nil,or_false] at hp
 subst hp
 exact fun args H v H' h=>bits_Mul64.mk_T h
theorem bits_Mul.ok:codeOk bits_Mul.pn Try.f158.ntmps bits_Mul.tb bits_Mul.code = true:=by kernel_rfl
theorem bits_Mul.T {F:Nat} {aa:Int} {ae:Int} {H:Hp} {v:AV} {H':Hp} (h:bits_Mul.tw F aa ae H = some (v,H')):Go.AE.T Try.prog 158 [(.int .u64 aa),(.int .u64 ae)] H v H':=
 Go.AE.T.of (Y:=tabs) (C:=mkOrc (bits_Mul.cs F (bits_Mul64.tw F))) (PN:=bits_Mul.pn) (LH:=bits_Mul.lh F (bits_Mul64.tw F)) (F:=F) (TB:=bits_Mul.tb) (fn:=Try.f158) (code:=bits_Mul.code) mixed tabs_ok (mkOrc_ok (bits_Mul.cs_ok F)) Try.func158 (by kernel_rfl) (by kernel_rfl) bits_Mul.ok (Nat.le_of_ble_eq_true (by kernel_rfl)) (bits_Mul.loops F (bits_Mul64.tw F)) (Eq.trans (bits_Mul.eqX F (bits_Mul64.tw F) aa ae H) h)
theorem bits_Mul.mk_T {F:Nat} {args:List AV} {H:Hp} {v:AV} {H':Hp} (h:bits_Mul.mk (bits_Mul.tw F) args H = some (v,H')):Go.AE.T Try.prog 158 args H v H':=by
 unfold bits_Mul.mk at h
 split at h
 ·exact bits_Mul.T h
 ·cases h
noncomputable def aI.l254 (F:Nat) (g_bits_Mul:Int→Int→Hp→OA) :Nat→Sl→Int→Hp→OA
 | 0,_,_,_=>none
 | tD + 1,cp,cV,H33=>(bif (decide (cV < (cp.n:Int))) then ((Sl.cut cp 2 cV (cp.n:Int)).bind fun s37=>(Sl.cut cp 2 0 cV).bind fun s38=>(Hp.cpy H33 2 s37 s38).bind fun c39=>aI.l254 F g_bits_Mul tD cp (IntKind.i64.wrap (cV + (c39.1:Int))) c39.2) else (some ((.sl cp),H33)))
termination_by structural n=>n
noncomputable def aI.j1 (F:Nat) (g_bits_Mul:Int→Int→Hp→OA) (tE:Sl) (fH:Int) (H21:Hp):OA:=(Hp.mk H21 [.int .i64 0,.int .i64 0] 16 (IntKind.i64.wrap fH) (IntKind.i64.wrap fH)).bind fun m22=>(Hp.cpy m22.2 2 m22.1 tE).bind fun c23=>aI.l254 F g_bits_Mul F m22.1 (c23.1:Int) c23.2
noncomputable def aI.j2 (F:Nat) (g_bits_Mul:Int→Int→Hp→OA) (lu:Sl) (gj:Int) (H7:Hp):OA:=(g_bits_Mul (IntKind.u64.wrap (lu.n:Int)) (IntKind.u64.wrap gj) H7).bind fun r8=>((r8.1).asTup 2).bind fun l9=>(l9[0]?).bind fun v10=>((v10).asI .u64).bind fun n11=>(l9[1]?).bind fun v12=>((v12).asI .u64).bind fun n13=>(bif (decide (n11 > 0)) then (none) else ((bif (decide (n13 > 9223372036854775807)) then (none) else (aI.j1 F g_bits_Mul lu n13 r8.2))))
noncomputable def aI.twX (F:Nat) (g_bits_Mul:Int→Int→Hp→OA) (aa:Sl) (ae:Int) (H:Hp):OA:=(bif (decide (ae < 0)) then (none) else (aI.j2 F g_bits_Mul aa ae H))
noncomputable def aI.tw (F:Nat) (aa:Sl) (ae:Int) (H:Hp):OA:=aI.twX F (bits_Mul.tw F) aa ae H
noncomputable def aI.code:Go.Code:=(Try.f154.body).getD .skip
noncomputable def aI.lh254 (F:Nat) (g_bits_Mul:Int→Int→Hp→OA) (ks:List Nat) (n:Nat) (tm:Tm) (H:Hp):OA:=match ks,tm 7,tm 8 with
 | [],(.sl cp),(.int .i64 cV)=>aI.l254 F g_bits_Mul n cp cV H
 | _,_,_=>none
theorem aI.lh254_inv {F:Nat} {g_bits_Mul:Int→Int→Hp→OA} {ks:List Nat} {n:Nat} {tm:Tm} {H:Hp} {r:AV×Hp} (h:aI.lh254 F g_bits_Mul ks n tm H = some r):∃ cp:Sl,∃ cV:Int,ks = []∧tm 7 = (.sl cp)∧tm 8 = (.int .i64 cV)∧aI.l254 F g_bits_Mul n cp cV H = some r:=by
 unfold aI.lh254 at h
 split at h
 ·exact ⟨_,_,rfl,by assumption,by assumption,h⟩
 ·cases h
noncomputable def aI.lh (F:Nat) (g_bits_Mul:Int→Int→Hp→OA) (p:Nat) (ks:List Nat) (n:Nat) (tm:Tm) (H:Hp):OA:=bif p.beq 254 then aI.lh254 F g_bits_Mul ks n tm H else (none)
def aI.pn:Nat→List Nat:=fun i=>(([(9,[7])]:List (Nat×List Nat)).lookup i).getD []
def aI.tb:Nat→List (List Nat):=fun i=>(([(9,[[],[],[],[1,2],[],[],[4,5],[1,2,3,4,5,6],[0,1,2,3,4,5,6,7],[0,1,2,3,4,5,6,7,8]])]:List (Nat×List (List Nat))).lookup i).getD []
noncomputable def aI.mk (g:Sl→Int→Hp→OA) (args:List AV) (H:Hp):OA:=match args with
 | [(.sl aa),(.int .i64 ae)]=>g aa ae H
 | _=>none
noncomputable def aI.cs (F:Nat) (g_bits_Mul:Int→Int→Hp→OA):List (FuncId×(List AV→Hp→OA)):=[(158,bits_Mul.mk g_bits_Mul)]
theorem aI.loops (F:Nat) (g_bits_Mul:Int→Int→Hp→OA):LoopsOk tabs (mkOrc (aI.cs F g_bits_Mul)) aI.pn (aI.lh F g_bits_Mul) F [] 1 aI.code (fun tm H=>aresults tabs.ty H tm Try.f154.results.toList fun v=>some (v,H)) (fun _ _ _=>none) (fun tm H=>aresults tabs.ty H tm Try.f154.results.toList fun v=>some (v,H)):=by
 refine LoopsOk.seq ?_ ?_
 ·exact loops_none (by kernel_rfl)
 ·refine LoopsOk.seq ?_ ?_
  ·exact loops_none (by kernel_rfl)
  ·refine LoopsOk.seq ?_ ?_
   ·exact loops_none (by kernel_rfl)
   ·refine LoopsOk.seq ?_ ?_
    ·exact loops_none (by kernel_rfl)
    ·refine LoopsOk.seq ?_ ?_
     ·exact loops_none (by kernel_rfl)
     ·refine LoopsOk.seq ?_ ?_
      ·exact loops_none (by kernel_rfl)
      ·refine LoopsOk.seq ?_ ?_
       ·refine LoopsOk.block ?_
        refine LoopsOk.loop (fun tm H=>?_) (fun k254 tm H r h0=>?_) (fun k254=>?_)
        ·refine none_of fun r h0=>?_
         obtain ⟨cp,cV,hks,e7,e8,h⟩:=aI.lh254_inv (show aI.lh254 F g_bits_Mul [] 0 tm H = some r from h0)
         cases h
        ·obtain ⟨cp,cV,hks,e7,e8,h⟩:=aI.lh254_inv (show aI.lh254 F g_bits_Mul [] (k254 + 1) tm H = some r from h0)
         have q0:(Tm.put tm 7 (.sl cp)) = tm:=by exact Tm.put_same e7
         have q1:(Tm.put (Tm.put tm 7 (.sl cp)) 8 (.int .i64 cV)) = tm:=by rw [q0]; exact Tm.put_same e8
         rw [← q1]
         exact Eq.trans (by kernel_rfl) h
        ·exact loops_none (by kernel_rfl)
       ·exact loops_none (by kernel_rfl)
theorem aI.eqX (F:Nat) (g_bits_Mul:Int→Int→Hp→OA) (aa:Sl) (ae:Int) (H:Hp):aCode tabs (mkOrc (aI.cs F g_bits_Mul)) aI.pn (aI.lh F g_bits_Mul) F [] 1 aI.code (argTm [(.sl aa),(.int .i64 ae)]) H (fun tm H=>aresults tabs.ty H tm Try.f154.results.toList fun v=>some (v,H)) (fun _ _ _=>none) (fun tm H=>aresults tabs.ty H tm Try.f154.results.toList fun v=>some (v,H)) = aI.twX F g_bits_Mul aa ae H:=by kernel_rfl
theorem aI.cs_ok (F:Nat):∀ p ∈ aI.cs F (bits_Mul.tw F),∀ args H v H',p.2 args H = some (v,H')→Go.AE.T Try.prog p.1 args H v H':=by
 intro p hp
 simp only [aI.cs,List.mem_cons,List.not_mem_nil,or_false] at hp
 subst hp
 exact fun args H v H' h=>bits_Mul.mk_T h
theorem aI.ok:codeOk aI.pn Try.f154.ntmps aI.tb aI.code = true:=by kernel_rfl
theorem aI.T {F:Nat} {aa:Sl} {ae:Int} {H:Hp} {v:AV} {H':Hp} (h:aI.tw F aa ae H = some (v,H')):Go.AE.T Try.prog 154 [(.sl aa),(.int .i64 ae)] H v H':=
 Go.AE.T.of (Y:=tabs) (C:=mkOrc (aI.cs F (bits_Mul.tw F))) (PN:=aI.pn) (LH:=aI.lh F (bits_Mul.tw F)) (F:=F) (TB:=aI.tb) (fn:=Try.f154) (code:=aI.code) mixed tabs_ok (mkOrc_ok (aI.cs_ok F)) Try.func154 (by kernel_rfl) (by kernel_rfl) aI.ok (Nat.le_of_ble_eq_true (by kernel_rfl)) (aI.loops F (bits_Mul.tw F)) (Eq.trans (aI.eqX F (bits_Mul.tw F) aa ae H) h)
theorem aI.mk_T {F:Nat} {args:List AV} {H:Hp} {v:AV} {H':Hp} (h:aI.mk (aI.tw F) args H = some (v,H')):Go.AE.T Try.prog 154 args H v H':=by
 unfold aI.mk at h
 split at h
 ·exact aI.T h
 ·cases h
noncomputable def bi.twX (F:Nat) (aa:Int) (ab:Int) (aA:Int) (aB:Int) (az:Int) (H:Hp):OA:=(Hp.new H [(.int .i64 aa),(.int .i64 ab),(.int .i64 aA),(.int .i64 aB),(.int .i64 az)]).bind fun H6=>(Hp.new H6 [.int .i64 0,.int .i64 0,.int .i64 0,.int .i64 0]).bind fun H7=>(Hp.ldI H7 .i64 H.length 0).bind fun n8=>(Hp.ldI H7 .i64 H.length 1).bind fun n9=>(Hp.ldI H7 .i64 H.length 2).bind fun n10=>(Hp.ldI H7 .i64 H.length 3).bind fun n11=>(Hp.st H7 H6.length 0 (.int .i64 n8)).bind fun H12=>(Hp.st H12 H6.length (0 + 1) (.int .i64 n9)).bind fun H13=>(Hp.st H13 H6.length (0 + 1 + 1) (.int .i64 n10)).bind fun H14=>(Hp.st H14 H6.length (0 + 1 + 1 + 1) (.int .i64 n11)).bind fun H15=>(Hp.ldI H15 .i64 H6.length 0).bind fun n16=>(Hp.ldI H15 .i64 H6.length (0 + 1)).bind fun n17=>(Hp.ldI H15 .i64 H6.length (0 + 2)).bind fun n18=>(Hp.ldI H15 .i64 H6.length (0 + 3)).bind fun n19=>some ((.agg [(.int .i64 n16),(.int .i64 n17),(.int .i64 n18),(.int .i64 n19)]),H15)
noncomputable def bi.tw (F:Nat) (aa:Int) (ab:Int) (aA:Int) (aB:Int) (az:Int) (H:Hp):OA:=bi.twX F aa ab aA aB az H
noncomputable def bi.code:Go.Code:=(Try.f155.body).getD .skip
noncomputable def bi.lh (F:Nat) (p:Nat) (ks:List Nat) (n:Nat) (tm:Tm) (H:Hp):OA:=none
def bi.pn:Nat→List Nat:=fun i=>(([]:List (Nat×List Nat)).lookup i).getD []
def bi.tb:Nat→List (List Nat):=fun i=>(([]:List (Nat×List (List Nat))).lookup i).getD []
noncomputable def bi.mk (g:Int→Int→Int→Int→Int→Hp→OA) (args:List AV) (H:Hp):OA:=match args with
 | [(.agg [(.int .i64 aa),(.int .i64 ab),(.int .i64 aA),(.int .i64 aB),(.int .i64 az)])]=>g aa ab aA aB az H
 | _=>none
noncomputable def bi.cs (F:Nat):List (FuncId×(List AV→Hp→OA)):=[]
theorem bi.loops (F:Nat):LoopsOk tabs (mkOrc (bi.cs F)) bi.pn (bi.lh F) F [] 1 bi.code (fun tm H=>aresults tabs.ty H tm Try.f155.results.toList fun v=>some (v,H)) (fun _ _ _=>none) (fun tm H=>aresults tabs.ty H tm Try.f155.results.toList fun v=>some (v,H)):=by
 exact loops_none (by kernel_rfl)
theorem bi.eqX (F:Nat) (aa:Int) (ab:Int) (aA:Int) (aB:Int) (az:Int) (H:Hp):aCode tabs (mkOrc (bi.cs F)) bi.pn (bi.lh F) F [] 1 bi.code (argTm [(.agg [(.int .i64 aa),(.int .i64 ab),(.int .i64 aA),(.int .i64 aB),(.int .i64 az)])]) H (fun tm H=>aresults tabs.ty H tm Try.f155.results.toList fun v=>some (v,H)) (fun _ _ _=>none) (fun tm H=>aresults tabs.ty H tm Try.f155.results.toList fun v=>some (v,H)) = bi.twX F aa ab aA aB az H:=by kernel_rfl
theorem bi.cs_ok (F:Nat):∀ p ∈ bi.cs F,∀ args H v H',p.2 args H = some (v,H')→Go.AE.T Try.prog p.1 args H v H':=by
 intro p hp
 exact absurd (show p ∈ [] from hp) List.not_mem_nil
theorem bi.ok:codeOk bi.pn Try.f155.ntmps bi.tb bi.code = true:=by kernel_rfl
theorem bi.T {F:Nat} {aa:Int} {ab:Int} {aA:Int} {aB:Int} {az:Int} {H:Hp} {v:AV} {H':Hp} (h:bi.tw F aa ab aA aB az H = some (v,H')):Go.AE.T Try.prog 155 [(.agg [(.int .i64 aa),(.int .i64 ab),(.int .i64 aA),(.int .i64 aB),(.int .i64 az)])] H v H':=
 Go.AE.T.of (Y:=tabs) (C:=mkOrc (bi.cs F)) (PN:=bi.pn) (LH:=bi.lh F) (F:=F) (TB:=bi.tb) (fn:=Try.f155) (code:=bi.code) mixed tabs_ok (mkOrc_ok (bi.cs_ok F)) Try.func155 (by kernel_rfl) (by kernel_rfl) bi.ok (Nat.le_of_ble_eq_true (by kernel_rfl)) (bi.loops F) (Eq.trans (bi.eqX F aa ab aA aB az H) h)
theorem bi.mk_T {F:Nat} {args:List AV} {H:Hp} {v:AV} {H':Hp} (h:bi.mk (bi.tw F) args H = some (v,H')):Go.AE.T Try.prog 155 args H v H':=by
 unfold bi.mk at h
 split at h
 ·exact bi.T h
 ·cases h
noncomputable def bj.twX (F:Nat) (aa:Int) (ab:Int) (aA:Int) (aB:Int) (az:Int) (bd:Int) (H:Hp):OA:=(Hp.new H [(.int .i64 aa),(.int .i64 ab),(.int .i64 aA),(.int .i64 aB),(.int .i64 az)]).bind fun H7=>(bif (bd == 0) then (some ((.bool true),H7)) else ((Hp.ldI H7 .i64 H.length 4).bind fun n8=>some ((.bool (bd == (IntKind.i64.wrap (2 + n8)))),H7)))
noncomputable def bj.tw (F:Nat) (aa:Int) (ab:Int) (aA:Int) (aB:Int) (az:Int) (bd:Int) (H:Hp):OA:=bj.twX F aa ab aA aB az bd H
noncomputable def bj.code:Go.Code:=(Try.f156.body).getD .skip
noncomputable def bj.lh (F:Nat) (p:Nat) (ks:List Nat) (n:Nat) (tm:Tm) (H:Hp):OA:=none
def bj.pn:Nat→List Nat:=fun i=>(([]:List (Nat×List Nat)).lookup i).getD []
def bj.tb:Nat→List (List Nat):=fun i=>(([]:List (Nat×List (List Nat))).lookup i).getD []
noncomputable def bj.mk (g:Int→Int→Int→Int→Int→Int→Hp→OA) (args:List AV) (H:Hp):OA:=match args with
 | [(.agg [(.int .i64 aa),(.int .i64 ab),(.int .i64 aA),(.int .i64 aB),(.int .i64 az)]),(.int .i64 bd)]=>g aa ab aA aB az bd H
 | _=>none
noncomputable def bj.cs (F:Nat):List (FuncId×(List AV→Hp→OA)):=[]
theorem bj.loops (F:Nat):LoopsOk tabs (mkOrc (bj.cs F)) bj.pn (bj.lh F) F [] 1 bj.code (fun tm H=>aresults tabs.ty H tm Try.f156.results.toList fun v=>some (v,H)) (fun _ _ _=>none) (fun tm H=>aresults tabs.ty H tm Try.f156.results.toList fun v=>some (v,H)):=by
 exact loops_none (by kernel_rfl)
theorem bj.eqX (F:Nat) (aa:Int) (ab:Int) (aA:Int) (aB:Int) (az:Int) (bd:Int) (H:Hp):aCode tabs (mkOrc (bj.cs F)) bj.pn (bj.lh F) F [] 1 bj.code (argTm [(.agg [(.int .i64 aa),(.int .i64 ab),(.int .i64 aA),(.int .i64 aB),(.int .i64 az)]),(.int .i64 bd)]) H (fun tm H=>aresults tabs.ty H tm Try.f156.results.toList fun v=>some (v,H)) (fun _ _ _=>none) (fun tm H=>aresults tabs.ty H tm Try.f156.results.toList fun v=>some (v,H)) = bj.twX F aa ab aA aB az bd H:=by kernel_rfl
theorem bj.cs_ok (F:Nat):∀ p ∈ bj.cs F,∀ args H v H',p.2 args H = some (v,H')→Go.AE.T Try.prog p.1 args H v H':=by
 intro p hp
 exact absurd (show p ∈ [] from hp) List.not_mem_nil
theorem bj.ok:codeOk bj.pn Try.f156.ntmps bj.tb bj.code = true:=by kernel_rfl
theorem bj.T {F:Nat} {aa:Int} {ab:Int} {aA:Int} {aB:Int} {az:Int} {bd:Int} {H:Hp} {v:AV} {H':Hp} (h:bj.tw F aa ab aA aB az bd H = some (v,H')):Go.AE.T Try.prog 156 [(.agg [(.int .i64 aa),(.int .i64 ab),(.int .i64 aA),(.int .i64 aB),(.int .i64 az)]),(.int .i64 bd)] H v H':=
 Go.AE.T.of (Y:=tabs) (C:=mkOrc (bj.cs F)) (PN:=bj.pn) (LH:=bj.lh F) (F:=F) (TB:=bj.tb) (fn:=Try.f156) (code:=bj.code) mixed tabs_ok (mkOrc_ok (bj.cs_ok F)) Try.func156 (by kernel_rfl) (by kernel_rfl) bj.ok (Nat.le_of_ble_eq_true (by kernel_rfl)) (bj.loops F) (Eq.trans (bj.eqX F aa ab aA aB az bd H) h)
theorem bj.mk_T {F:Nat} {args:List AV} {H:Hp} {v:AV} {H':Hp} (h:bj.mk (bj.tw F) args H = some (v,H')):Go.AE.T Try.prog 156 args H v H':=by
 unfold bj.mk at h
 split at h
 ·exact bj.T h
 ·cases h
noncomputable def bI.twX (F:Nat) (aa:Sl) (H:Hp):OA:=some ((.int .i64 (aa.n:Int)),H)
noncomputable def bI.tw (F:Nat) (aa:Sl) (H:Hp):OA:=bI.twX F aa H
noncomputable def bI.code:Go.Code:=(Try.f170.body).getD .skip
noncomputable def bI.lh (F:Nat) (p:Nat) (ks:List Nat) (n:Nat) (tm:Tm) (H:Hp):OA:=none
def bI.pn:Nat→List Nat:=fun i=>(([]:List (Nat×List Nat)).lookup i).getD []
def bI.tb:Nat→List (List Nat):=fun i=>(([]:List (Nat×List (List Nat))).lookup i).getD []
noncomputable def bI.mk (g:Sl→Hp→OA) (args:List AV) (H:Hp):OA:=match args with
 | [(.sl aa)]=>g aa H
 | _=>none
noncomputable def bI.cs (F:Nat):List (FuncId×(List AV→Hp→OA)):=[]
theorem bI.loops (F:Nat):LoopsOk tabs (mkOrc (bI.cs F)) bI.pn (bI.lh F) F [] 1 bI.code (fun tm H=>aresults tabs.ty H tm Try.f170.results.toList fun v=>some (v,H)) (fun _ _ _=>none) (fun tm H=>aresults tabs.ty H tm Try.f170.results.toList fun v=>some (v,H)):=by
 exact loops_none (by kernel_rfl)
theorem bI.eqX (F:Nat) (aa:Sl) (H:Hp):aCode tabs (mkOrc (bI.cs F)) bI.pn (bI.lh F) F [] 1 bI.code (argTm [(.sl aa)]) H (fun tm H=>aresults tabs.ty H tm Try.f170.results.toList fun v=>some (v,H)) (fun _ _ _=>none) (fun tm H=>aresults tabs.ty H tm Try.f170.results.toList fun v=>some (v,H)) = bI.twX F aa H:=by kernel_rfl
theorem bI.cs_ok (F:Nat):∀ p ∈ bI.cs F,∀ args H v H',p.2 args H = some (v,H')→Go.AE.T Try.prog p.1 args H v H':=by
 intro p hp
 exact absurd (show p ∈ [] from hp) List.not_mem_nil
theorem bI.ok:codeOk bI.pn Try.f170.ntmps bI.tb bI.code = true:=by kernel_rfl
theorem bI.T {F:Nat} {aa:Sl} {H:Hp} {v:AV} {H':Hp} (h:bI.tw F aa H = some (v,H')):Go.AE.T Try.prog 170 [(.sl aa)] H v H':=
 Go.AE.T.of (Y:=tabs) (C:=mkOrc (bI.cs F)) (PN:=bI.pn) (LH:=bI.lh F) (F:=F) (TB:=bI.tb) (fn:=Try.f170) (code:=bI.code) mixed tabs_ok (mkOrc_ok (bI.cs_ok F)) Try.func170 (by kernel_rfl) (by kernel_rfl) bI.ok (Nat.le_of_ble_eq_true (by kernel_rfl)) (bI.loops F) (Eq.trans (bI.eqX F aa H) h)
theorem bI.mk_T {F:Nat} {args:List AV} {H:Hp} {v:AV} {H':Hp} (h:bI.mk (bI.tw F) args H = some (v,H')):Go.AE.T Try.prog 170 args H v H':=by
 unfold bI.mk at h
 split at h
 ·exact bI.T h
 ·cases h
noncomputable def bu.twX (F:Nat) (hG:Sl→Hp→OA) (dm:Int→Int→Int→Hp→OA) (aa:Sl) (ae:Int) (H:Hp):OA:=(hG aa H).bind fun r3=>((r3.1).asI .i64).bind fun n4=>(dm ae 0 (IntKind.i64.wrap (n4 - 1)) r3.2).bind fun r5=>((r5.1).asB).bind fun b6=>some ((.bool b6),r5.2)
noncomputable def bu.tw (F:Nat) (aa:Sl) (ae:Int) (H:Hp):OA:=bu.twX F (bI.tw F) (bk.tw F) aa ae H
noncomputable def bu.code:Go.Code:=(Try.f157.body).getD .skip
noncomputable def bu.lh (F:Nat) (hG:Sl→Hp→OA) (dm:Int→Int→Int→Hp→OA) (p:Nat) (ks:List Nat) (n:Nat) (tm:Tm) (H:Hp):OA:=none
def bu.pn:Nat→List Nat:=fun i=>(([]:List (Nat×List Nat)).lookup i).getD []
def bu.tb:Nat→List (List Nat):=fun i=>(([]:List (Nat×List (List Nat))).lookup i).getD []
noncomputable def bu.mk (g:Sl→Int→Hp→OA) (args:List AV) (H:Hp):OA:=match args with
 | [(.sl aa),(.int .i64 ae)]=>g aa ae H
 | _=>none
noncomputable def bu.cs (F:Nat) (hG:Sl→Hp→OA) (dm:Int→Int→Int→Hp→OA):List (FuncId×(List AV→Hp→OA)):=[(170,bI.mk hG),(81,bk.mk dm)]
theorem bu.loops (F:Nat) (hG:Sl→Hp→OA) (dm:Int→Int→Int→Hp→OA):LoopsOk tabs (mkOrc (bu.cs F hG dm)) bu.pn (bu.lh F hG dm) F [] 1 bu.code (fun tm H=>aresults tabs.ty H tm Try.f157.results.toList fun v=>some (v,H)) (fun _ _ _=>none) (fun tm H=>aresults tabs.ty H tm Try.f157.results.toList fun v=>some (v,H)):=by
 exact loops_none (by kernel_rfl)
theorem bu.eqX (F:Nat) (hG:Sl→Hp→OA) (dm:Int→Int→Int→Hp→OA) (aa:Sl) (ae:Int) (H:Hp):aCode tabs (mkOrc (bu.cs F hG dm)) bu.pn (bu.lh F hG dm) F [] 1 bu.code (argTm [(.sl aa),(.int .i64 ae)]) H (fun tm H=>aresults tabs.ty H tm Try.f157.results.toList fun v=>some (v,H)) (fun _ _ _=>none) (fun tm H=>aresults tabs.ty H tm Try.f157.results.toList fun v=>some (v,H)) = bu.twX F hG dm aa ae H:=by kernel_rfl
theorem bu.cs_ok (F:Nat):∀ p ∈ bu.cs F (bI.tw F) (bk.tw F),∀ args H v H',p.2 args H = some (v,H')→Go.AE.T Try.prog p.1 args H v H':=by
 intro p hp
 simp only [bu.cs,List.mem_cons,List.not_mem_nil,or_false] at hp
 rcases hp with rfl | rfl
 ·exact fun args H v H' h=>bI.mk_T h
 ·exact fun args H v H' h=>bk.mk_T h
theorem bu.ok:codeOk bu.pn Try.f157.ntmps bu.tb bu.code = true:=by kernel_rfl
theorem bu.T {F:Nat} {aa:Sl} {ae:Int} {H:Hp} {v:AV} {H':Hp} (h:bu.tw F aa ae H = some (v,H')):Go.AE.T Try.prog 157 [(.sl aa),(.int .i64 ae)] H v H':=
 Go.AE.T.of (Y:=tabs) (C:=mkOrc (bu.cs F (bI.tw F) (bk.tw F))) (PN:=bu.pn) (LH:=bu.lh F (bI.tw F) (bk.tw F)) (F:=F) (TB:=bu.tb) (fn:=Try.f157) (code:=bu.code) mixed tabs_ok (mkOrc_ok (bu.cs_ok F)) Try.func157 (by kernel_rfl) (by kernel_rfl) bu.ok (Nat.le_of_ble_eq_true (by kernel_rfl)) (bu.loops F (bI.tw F) (bk.tw F)) (Eq.trans (bu.eqX F (bI.tw F) (bk.tw F) aa ae H) h)
theorem bu.mk_T {F:Nat} {args:List AV} {H:Hp} {v:AV} {H':Hp} (h:bu.mk (bu.tw F) args H = some (v,H')):Go.AE.T Try.prog 157 args H v H':=by
 unfold bu.mk at h
 split at h
 ·exact bu.T h
 ·cases h
noncomputable def ay.l3931 (F:Nat) (b_:Sl→Int→Hp→OA) (bP:Int→Int→Int→Int→Int→Hp→OA) (bQ:Int→Int→Int→Int→Int→Int→Hp→OA) (ca:Sl→Int→Hp→OA) (C61_:Nat→Nat→Nat→Nat→Sl→Int→Int→Hp→OA):Nat→Nat→Nat→Nat→Nat→Sl→Int→Int→Nat→Nat→Int→Int→Int→Int→Int→Int→Hp→OA
 | 0,_,_,_,_,_,_,_,_,_,_,_,_,_,_,_,_=>none
 | vZ + 1,bW,cf,cm,cz,fI,dp,dL,cW,ek,cA,cB,cC,cD,cE,bZ,H233=>(bif (decide (bZ < 4)) then ((if 0 ≤ bZ∧bZ < (4:Int) then (([(.int .i64 cB),(.int .i64 cC),(.int .i64 cD),(.int .i64 cE)]:List AV)[(bZ:Int).toNat * 1]?).bind fun v283=>((v283).asI .i64).bind fun n284=>(Hp.ldSl H233 cm cz).bind fun s285=>(Hp.ldI H233 .i64 cW ek).bind fun n286=>(Hp.ldI H233 .i64 cW (ek + 1)).bind fun n287=>(Hp.ldI H233 .i64 cW (ek + 2)).bind fun n288=>(Hp.ldI H233 .i64 cW (ek + 3)).bind fun n289=>(Hp.ldI H233 .i64 cW (ek + 4)).bind fun n290=>(bQ n286 n287 n288 n289 n290 bZ H233).bind fun r291=>((r291.1).asB).bind fun b292=>(bif b292 then ((Hp.ldSl r291.2 cm (cz + 1)).bind fun s293=>(ca s293 n284 r291.2).bind fun r294=>((r294.1).asB).bind fun b295=>(bif (!b295) then ((Hp.ldSl r294.2 cm cz).bind fun s296=>(Hp.ldSl r294.2 cm (cz + 1)).bind fun s297=>(Hp.st r294.2 bW cf (.sl s296)).bind fun H298=>(Hp.st H298 bW (cf + 1) (.sl s297)).bind fun H299=>(Hp.ldSl H299 bW cf).bind fun s300=>(Hp.ldSl H299 bW (cf + 1)).bind fun s301=>some ((.tup [(.agg [(.sl s300),(.sl s301)]),(.bool false)]),H299)) else ((Sl.idx s293 n284 2).bind fun p302=>(Hp.ldI r294.2 .i64 p302.1 p302.2).bind fun n303=>(bif (decide (n303 ≥ 0)) then ((Hp.ldSl r294.2 cm cz).bind fun s304=>(Hp.ldSl r294.2 cm (cz + 1)).bind fun s305=>(Hp.st r294.2 bW cf (.sl s304)).bind fun H306=>(Hp.st H306 bW (cf + 1) (.sl s305)).bind fun H307=>(Hp.ldSl H307 bW cf).bind fun s308=>(Hp.ldSl H307 bW (cf + 1)).bind fun s309=>some ((.tup [(.agg [(.sl s308),(.sl s309)]),(.bool false)]),H307)) else ((Sl.idx s293 n284 2).bind fun p310=>(Hp.st r294.2 p310.1 p310.2 (.int .i64 cA)).bind fun H311=>(Hp.st H311 p310.1 (p310.2 + 1) (.int .i64 bZ)).bind fun H312=>ay.l3931 F b_ bP bQ ca C61_ vZ bW cf cm cz fI dp dL cW ek cA cB cC cD cE (IntKind.i64.wrap (bZ + 1)) H312))))) else ((ca s285 n284 r291.2).bind fun r313=>((r313.1).asB).bind fun b314=>(bif (!b314) then ((Hp.ldSl r313.2 cm cz).bind fun s315=>(Hp.ldSl r313.2 cm (cz + 1)).bind fun s316=>(Hp.st r313.2 bW cf (.sl s315)).bind fun H317=>(Hp.st H317 bW (cf + 1) (.sl s316)).bind fun H318=>(Hp.ldSl H318 bW cf).bind fun s319=>(Hp.ldSl H318 bW (cf + 1)).bind fun s320=>some ((.tup [(.agg [(.sl s319),(.sl s320)]),(.bool false)]),H318)) else ((Sl.idx s285 n284 2).bind fun p321=>(Hp.ldI r313.2 .i64 p321.1 p321.2).bind fun n322=>(bif (decide (n322 ≥ 0)) then ((Hp.ldSl r313.2 cm cz).bind fun s323=>(Hp.ldSl r313.2 cm (cz + 1)).bind fun s324=>(Hp.st r313.2 bW cf (.sl s323)).bind fun H325=>(Hp.st H325 bW (cf + 1) (.sl s324)).bind fun H326=>(Hp.ldSl H326 bW cf).bind fun s327=>(Hp.ldSl H326 bW (cf + 1)).bind fun s328=>some ((.tup [(.agg [(.sl s327),(.sl s328)]),(.bool false)]),H326)) else ((Sl.idx s285 n284 2).bind fun p329=>(Hp.st r313.2 p329.1 p329.2 (.int .i64 cA)).bind fun H330=>(Hp.st H330 p329.1 (p329.2 + 1) (.int .i64 bZ)).bind fun H331=>ay.l3931 F b_ bP bQ ca C61_ vZ bW cf cm cz fI dp dL cW ek cA cB cC cD cE (IntKind.i64.wrap (bZ + 1)) H331)))))) else none)) else (C61_ bW cf cm cz fI dp (IntKind.i64.wrap (dL + 1)) H233))
termination_by structural n=>n
noncomputable def ay.l61 (F:Nat) (b_:Sl→Int→Hp→OA) (bP:Int→Int→Int→Int→Int→Hp→OA) (bQ:Int→Int→Int→Int→Int→Int→Hp→OA) (ca:Sl→Int→Hp→OA) :Nat→Nat→Nat→Nat→Nat→Sl→Int→Int→Hp→OA
 | 0,_,_,_,_,_,_,_,_=>none
 | bv + 1,dM,fi,bR,fT,gI,ey,dN,H29=>(bif (decide (dN < ey)) then ((Sl.idx gI dN 5).bind fun p184=>(Hp.ldI H29 .i64 p184.1 p184.2).bind fun n185=>(Hp.ldI H29 .i64 p184.1 (p184.2 + 1)).bind fun n186=>(Hp.ldI H29 .i64 p184.1 (p184.2 + 2)).bind fun n187=>(Hp.ldI H29 .i64 p184.1 (p184.2 + 3)).bind fun n188=>(Hp.ldI H29 .i64 p184.1 (p184.2 + 4)).bind fun n189=>(Hp.new H29 [.int .i64 0,.int .i64 0,.int .i64 0,.int .i64 0,.int .i64 0]).bind fun H190=>(Hp.st H190 H29.length 0 (.int .i64 n185)).bind fun H191=>(Hp.st H191 H29.length (0 + 1) (.int .i64 n186)).bind fun H192=>(Hp.st H192 H29.length (0 + 1 + 1) (.int .i64 n187)).bind fun H193=>(Hp.st H193 H29.length (0 + 1 + 1 + 1) (.int .i64 n188)).bind fun H194=>(Hp.st H194 H29.length (0 + 1 + 1 + 1 + 1) (.int .i64 n189)).bind fun H195=>(Hp.ldI H195 .i64 H29.length 0).bind fun n196=>(Hp.ldI H195 .i64 H29.length (0 + 1)).bind fun n197=>(Hp.ldI H195 .i64 H29.length (0 + 2)).bind fun n198=>(Hp.ldI H195 .i64 H29.length (0 + 3)).bind fun n199=>(Hp.ldI H195 .i64 H29.length (0 + 4)).bind fun n200=>(bP n196 n197 n198 n199 n200 H195).bind fun r201=>((r201.1).asAgg 4).bind fun l202=>(l202[0]?).bind fun v203=>((v203).asI .i64).bind fun n204=>(l202[1]?).bind fun v205=>((v205).asI .i64).bind fun n206=>(l202[2]?).bind fun v207=>((v207).asI .i64).bind fun n208=>(l202[3]?).bind fun v209=>((v209).asI .i64).bind fun n210=>ay.l3931 F b_ bP bQ ca (ay.l61 F b_ bP bQ ca bv) F dM fi bR fT gI ey dN H29.length 0 dN n204 n206 n208 n210 0 r201.2) else ((Hp.ldSl H29 bR fT).bind fun s332=>(Hp.ldSl H29 bR (fT + 1)).bind fun s333=>(Hp.st H29 dM fi (.sl s332)).bind fun H334=>(Hp.st H334 dM (fi + 1) (.sl s333)).bind fun H335=>(Hp.ldSl H335 dM fi).bind fun s336=>(Hp.ldSl H335 dM (fi + 1)).bind fun s337=>some ((.tup [(.agg [(.sl s336),(.sl s337)]),(.bool true)]),H335)))
termination_by structural n=>n
noncomputable def ay.twX (F:Nat) (b_:Sl→Int→Hp→OA) (bP:Int→Int→Int→Int→Int→Hp→OA) (bQ:Int→Int→Int→Int→Int→Int→Hp→OA) (ca:Sl→Int→Hp→OA) (aa:Sl) (ab:Int) (H:Hp):OA:=(Hp.new H [(.sl aa),(.int .i64 ab)]).bind fun H3=>(Hp.new H3 [.sl ⟨none,0,.ex 0⟩,.sl ⟨none,0,.ex 0⟩]).bind fun H4=>(Hp.ldSl H4 H.length 0).bind fun s5=>(Hp.new H4 [(.int .i64 (-1)),(.int .i64 0)]).bind fun H6=>(b_ (⟨some (H4.length,0),1,.ex 1⟩:Sl) (IntKind.i64.wrap (2 * (s5.n:Int))) H6).bind fun r7=>((r7.1).asSl).bind fun s8=>(Hp.new r7.2 [(.int .i64 (-1)),(.int .i64 0)]).bind fun H9=>(b_ (⟨some (r7.2.length,0),1,.ex 1⟩:Sl) (IntKind.i64.wrap (2 * (s5.n:Int))) H9).bind fun r10=>((r10.1).asSl).bind fun s11=>(Hp.new r10.2 [.sl ⟨none,0,.ex 0⟩,.sl ⟨none,0,.ex 0⟩]).bind fun H12=>(Hp.st H12 r10.2.length 0 (.sl s8)).bind fun H13=>(Hp.st H13 r10.2.length (0 + 1) (.sl s11)).bind fun H14=>(Hp.ldSl H14 H.length 0).bind fun s15=>ay.l61 F b_ bP bQ ca F H3.length 0 r10.2.length 0 s15 (s15.n:Int) 0 H14
noncomputable def ay.tw (F:Nat) (aa:Sl) (ab:Int) (H:Hp):OA:=ay.twX F (aI.tw F) (bi.tw F) (bj.tw F) (bu.tw F) aa ab H
noncomputable def ay.code:Go.Code:=(Try.f125.body).getD .skip
noncomputable def ay.lh61 (F:Nat) (b_:Sl→Int→Hp→OA) (bP:Int→Int→Int→Int→Int→Hp→OA) (bQ:Int→Int→Int→Int→Int→Int→Hp→OA) (ca:Sl→Int→Hp→OA) (ks:List Nat) (n:Nat) (tm:Tm) (H:Hp):OA:=match ks,tm 2,tm 5,tm 25,tm 26,tm 27 with
 | [],(.ptr dM fi),(.ptr bR fT),(.sl gI),(.int .i64 ey),(.int .i64 dN)=>ay.l61 F b_ bP bQ ca n dM fi bR fT gI ey dN H
 | _,_,_,_,_,_=>none
theorem ay.lh61_inv {F:Nat} {b_:Sl→Int→Hp→OA} {bP:Int→Int→Int→Int→Int→Hp→OA} {bQ:Int→Int→Int→Int→Int→Int→Hp→OA} {ca:Sl→Int→Hp→OA} {ks:List Nat} {n:Nat} {tm:Tm} {H:Hp} {r:AV×Hp} (h:ay.lh61 F b_ bP bQ ca ks n tm H = some r):∃ dM:Nat,∃ fi:Nat,∃ bR:Nat,∃ fT:Nat,∃ gI:Sl,∃ ey:Int,∃ dN:Int,ks = []∧tm 2 = (.ptr dM fi)∧tm 5 = (.ptr bR fT)∧tm 25 = (.sl gI)∧tm 26 = (.int .i64 ey)∧tm 27 = (.int .i64 dN)∧ay.l61 F b_ bP bQ ca n dM fi bR fT gI ey dN H = some r:=by
 unfold ay.lh61 at h
 split at h
 ·exact ⟨_,_,_,_,_,_,_,rfl,by assumption,by assumption,by assumption,by assumption,by assumption,h⟩
 ·cases h
noncomputable def ay.lh3931 (F:Nat) (b_:Sl→Int→Hp→OA) (bP:Int→Int→Int→Int→Int→Hp→OA) (bQ:Int→Int→Int→Int→Int→Int→Hp→OA) (ca:Sl→Int→Hp→OA) (ks:List Nat) (n:Nat) (tm:Tm) (H:Hp):OA:=match ks,tm 2,tm 5,tm 6,tm 7,tm 25,tm 26,tm 27,tm 33,tm 34 with
 | [bv],(.ptr bW cf),(.ptr cm cz),(.int .i64 cA),(.ptr cW ek),(.sl fI),(.int .i64 dp),(.int .i64 dL),(.agg [(.int .i64 cB),(.int .i64 cC),(.int .i64 cD),(.int .i64 cE)]),(.int .i64 bZ)=>ay.l3931 F b_ bP bQ ca (ay.l61 F b_ bP bQ ca bv) n bW cf cm cz fI dp dL cW ek cA cB cC cD cE bZ H
 | _,_,_,_,_,_,_,_,_,_=>none
theorem ay.lh3931_inv {F:Nat} {b_:Sl→Int→Hp→OA} {bP:Int→Int→Int→Int→Int→Hp→OA} {bQ:Int→Int→Int→Int→Int→Int→Hp→OA} {ca:Sl→Int→Hp→OA} {ks:List Nat} {n:Nat} {tm:Tm} {H:Hp} {r:AV×Hp} (h:ay.lh3931 F b_ bP bQ ca ks n tm H = some r):∃ bv:Nat,∃ bW:Nat,∃ cf:Nat,∃ cm:Nat,∃ cz:Nat,∃ cA:Int,∃ cW:Nat,∃ ek:Nat,∃ fI:Sl,∃ dp:Int,∃ dL:Int,∃ cB:Int,∃ cC:Int,∃ cD:Int,∃ cE:Int,∃ bZ:Int,ks = [bv]∧tm 2 = (.ptr bW cf)∧tm 5 = (.ptr cm cz)∧tm 6 = (.int .i64 cA)∧tm 7 = (.ptr cW ek)∧tm 25 = (.sl fI)∧tm 26 = (.int .i64 dp)∧tm 27 = (.int .i64 dL)∧tm 33 = (.agg [(.int .i64 cB),(.int .i64 cC),(.int .i64 cD),(.int .i64 cE)])∧tm 34 = (.int .i64 bZ)∧ay.l3931 F b_ bP bQ ca (ay.l61 F b_ bP bQ ca bv) n bW cf cm cz fI dp dL cW ek cA cB cC cD cE bZ H = some r:=by
 unfold ay.lh3931 at h
 split at h
 ·exact ⟨_,_,_,_,_,_,_,_,_,_,_,_,_,_,_,_,rfl,by assumption,by assumption,by assumption,by assumption,by assumption,by assumption,by assumption,by assumption,by assumption,h⟩
 ·cases h
noncomputable def ay.lh (F:Nat) (b_:Sl→Int→Hp→OA) (bP:Int→Int→Int→Int→Int→Hp→OA) (bQ:Int→Int→Int→Int→Int→Int→Hp→OA) (ca:Sl→Int→Hp→OA) (p:Nat) (ks:List Nat) (n:Nat) (tm:Tm) (H:Hp):OA:=bif p.beq 3931 then ay.lh3931 F b_ bP bQ ca ks n tm H else (bif p.beq 61 then ay.lh61 F b_ bP bQ ca ks n tm H else (none))
def ay.pn:Nat→List Nat:=fun i=>(([]:List (Nat×List Nat)).lookup i).getD []
def ay.tb:Nat→List (List Nat):=fun i=>(([]:List (Nat×List (List Nat))).lookup i).getD []
noncomputable def ay.mk (g:Sl→Int→Hp→OA) (args:List AV) (H:Hp):OA:=match args with
 | [(.agg [(.sl aa),(.int .i64 ab)])]=>g aa ab H
 | _=>none
noncomputable def ay.cs (F:Nat) (b_:Sl→Int→Hp→OA) (bP:Int→Int→Int→Int→Int→Hp→OA) (bQ:Int→Int→Int→Int→Int→Int→Hp→OA) (ca:Sl→Int→Hp→OA):List (FuncId×(List AV→Hp→OA)):=[(154,aI.mk b_),(155,bi.mk bP),(156,bj.mk bQ),(157,bu.mk ca)]
theorem ay.loops (F:Nat) (b_:Sl→Int→Hp→OA) (bP:Int→Int→Int→Int→Int→Hp→OA) (bQ:Int→Int→Int→Int→Int→Int→Hp→OA) (ca:Sl→Int→Hp→OA):LoopsOk tabs (mkOrc (ay.cs F b_ bP bQ ca)) ay.pn (ay.lh F b_ bP bQ ca) F [] 1 ay.code (fun tm H=>aresults tabs.ty H tm Try.f125.results.toList fun v=>some (v,H)) (fun _ _ _=>none) (fun tm H=>aresults tabs.ty H tm Try.f125.results.toList fun v=>some (v,H)):=by
 refine LoopsOk.seq ?_ ?_
 ·exact loops_none (by kernel_rfl)
 ·refine LoopsOk.seq ?_ ?_
  ·exact loops_none (by kernel_rfl)
  ·refine LoopsOk.seq ?_ ?_
   ·exact loops_none (by kernel_rfl)
   ·refine LoopsOk.seq ?_ ?_
    ·refine LoopsOk.seq ?_ ?_
     ·exact loops_none (by kernel_rfl)
     ·refine LoopsOk.block ?_
      refine LoopsOk.loop (fun tm H=>?_) (fun k61 tm H r h0=>?_) (fun k61=>?_)
      ·refine none_of fun r h0=>?_
       obtain ⟨dM,fi,bR,fT,gI,ey,dN,hks,e2,e5,e25,e26,e27,h⟩:=ay.lh61_inv (show ay.lh61 F b_ bP bQ ca [] 0 tm H = some r from h0)
       cases h
      ·obtain ⟨dM,fi,bR,fT,gI,ey,dN,hks,e2,e5,e25,e26,e27,h⟩:=ay.lh61_inv (show ay.lh61 F b_ bP bQ ca [] (k61 + 1) tm H = some r from h0)
       have q0:(Tm.put tm 2 (.ptr dM fi)) = tm:=by exact Tm.put_same e2
       have q1:(Tm.put (Tm.put tm 2 (.ptr dM fi)) 5 (.ptr bR fT)) = tm:=by rw [q0]; exact Tm.put_same e5
       have q2:(Tm.put (Tm.put (Tm.put tm 2 (.ptr dM fi)) 5 (.ptr bR fT)) 25 (.sl gI)) = tm:=by rw [q1]; exact Tm.put_same e25
       have q3:(Tm.put (Tm.put (Tm.put (Tm.put tm 2 (.ptr dM fi)) 5 (.ptr bR fT)) 25 (.sl gI)) 26 (.int .i64 ey)) = tm:=by rw [q2]; exact Tm.put_same e26
       have q4:(Tm.put (Tm.put (Tm.put (Tm.put (Tm.put tm 2 (.ptr dM fi)) 5 (.ptr bR fT)) 25 (.sl gI)) 26 (.int .i64 ey)) 27 (.int .i64 dN)) = tm:=by rw [q3]; exact Tm.put_same e27
       rw [← q4]
       exact Eq.trans (by kernel_rfl) h
      ·refine LoopsOk.seq ?_ ?_
       ·exact loops_none (by kernel_rfl)
       ·refine LoopsOk.seq ?_ ?_
        ·exact loops_none (by kernel_rfl)
        ·refine LoopsOk.seq ?_ ?_
         ·refine LoopsOk.block ?_
          refine LoopsOk.seq ?_ ?_
          ·exact loops_none (by kernel_rfl)
          ·refine LoopsOk.seq ?_ ?_
           ·exact loops_none (by kernel_rfl)
           ·refine LoopsOk.block ?_
            refine LoopsOk.loop (fun tm H=>?_) (fun k3931 tm H r h0=>?_) (fun k3931=>?_)
            ·refine none_of fun r h0=>?_
             obtain ⟨bv,bW,cf,cm,cz,cA,cW,ek,fI,dp,dL,cB,cC,cD,cE,bZ,hks,e2,e5,e6,e7,e25,e26,e27,e33,e34,h⟩:=ay.lh3931_inv (show ay.lh3931 F b_ bP bQ ca [k61] 0 tm H = some r from h0)
             cases h
            ·obtain ⟨bv,bW,cf,cm,cz,cA,cW,ek,fI,dp,dL,cB,cC,cD,cE,bZ,hks,e2,e5,e6,e7,e25,e26,e27,e33,e34,h⟩:=ay.lh3931_inv (show ay.lh3931 F b_ bP bQ ca [k61] (k3931 + 1) tm H = some r from h0)
             obtain rfl:bv = k61:=by simpa [eq_comm] using hks
             have q0:(Tm.put tm 2 (.ptr bW cf)) = tm:=by exact Tm.put_same e2
             have q1:(Tm.put (Tm.put tm 2 (.ptr bW cf)) 5 (.ptr cm cz)) = tm:=by rw [q0]; exact Tm.put_same e5
             have q2:(Tm.put (Tm.put (Tm.put tm 2 (.ptr bW cf)) 5 (.ptr cm cz)) 6 (.int .i64 cA)) = tm:=by rw [q1]; exact Tm.put_same e6
             have q3:(Tm.put (Tm.put (Tm.put (Tm.put tm 2 (.ptr bW cf)) 5 (.ptr cm cz)) 6 (.int .i64 cA)) 7 (.ptr cW ek)) = tm:=by rw [q2]; exact Tm.put_same e7
             have q4:(Tm.put (Tm.put (Tm.put (Tm.put (Tm.put tm 2 (.ptr bW cf)) 5 (.ptr cm cz)) 6 (.int .i64 cA)) 7 (.ptr cW ek)) 25 (.sl fI)) = tm:=by rw [q3]; exact Tm.put_same e25
             have q5:(Tm.put (Tm.put (Tm.put (Tm.put (Tm.put (Tm.put tm 2 (.ptr bW cf)) 5 (.ptr cm cz)) 6 (.int .i64 cA)) 7 (.ptr cW ek)) 25 (.sl fI)) 26 (.int .i64 dp)) = tm:=by rw [q4]; exact Tm.put_same e26
             have q6:(Tm.put (Tm.put (Tm.put (Tm.put (Tm.put (Tm.put (Tm.put tm 2 (.ptr bW cf)) 5 (.ptr cm cz)) 6 (.int .i64 cA)) 7 (.ptr cW ek)) 25 (.sl fI)) 26 (.int .i64 dp)) 27 (.int .i64 dL)) = tm:=by rw [q5]; exact Tm.put_same e27
             have q7:(Tm.put (Tm.put (Tm.put (Tm.put (Tm.put (Tm.put (Tm.put (Tm.put tm 2 (.ptr bW cf)) 5 (.ptr cm cz)) 6 (.int .i64 cA)) 7 (.ptr cW ek)) 25 (.sl fI)) 26 (.int .i64 dp)) 27 (.int .i64 dL)) 33 (.agg [(.int .i64 cB),(.int .i64 cC),(.int .i64 cD),(.int .i64 cE)])) = tm:=by rw [q6]; exact Tm.put_same e33
             have q8:(Tm.put (Tm.put (Tm.put (Tm.put (Tm.put (Tm.put (Tm.put (Tm.put (Tm.put tm 2 (.ptr bW cf)) 5 (.ptr cm cz)) 6 (.int .i64 cA)) 7 (.ptr cW ek)) 25 (.sl fI)) 26 (.int .i64 dp)) 27 (.int .i64 dL)) 33 (.agg [(.int .i64 cB),(.int .i64 cC),(.int .i64 cD),(.int .i64 cE)])) 34 (.int .i64 bZ)) = tm:=by rw [q7]; exact Tm.put_same e34
             rw [← q8]
             exact Eq.trans (by kernel_rfl) h
            ·exact loops_none (by kernel_rfl)
         ·exact loops_none (by kernel_rfl)
    ·exact loops_none (by kernel_rfl)
theorem ay.eqX (F:Nat) (b_:Sl→Int→Hp→OA) (bP:Int→Int→Int→Int→Int→Hp→OA) (bQ:Int→Int→Int→Int→Int→Int→Hp→OA) (ca:Sl→Int→Hp→OA) (aa:Sl) (ab:Int) (H:Hp):aCode tabs (mkOrc (ay.cs F b_ bP bQ ca)) ay.pn (ay.lh F b_ bP bQ ca) F [] 1 ay.code (argTm [(.agg [(.sl aa),(.int .i64 ab)])]) H (fun tm H=>aresults tabs.ty H tm Try.f125.results.toList fun v=>some (v,H)) (fun _ _ _=>none) (fun tm H=>aresults tabs.ty H tm Try.f125.results.toList fun v=>some (v,H)) = ay.twX F b_ bP bQ ca aa ab H:=by kernel_rfl
theorem ay.cs_ok (F:Nat):∀ p ∈ ay.cs F (aI.tw F) (bi.tw F) (bj.tw F) (bu.tw F),∀ args H v H',p.2 args H = some (v,H')→Go.AE.T Try.prog p.1 args H v H':=by
 intro p hp
 simp only [ay.cs,List.mem_cons,List.not_mem_nil,or_false] at hp
 rcases hp with rfl | rfl | rfl | rfl
 ·exact fun args H v H' h=>aI.mk_T h
 ·exact fun args H v H' h=>bi.mk_T h
 ·exact fun args H v H' h=>bj.mk_T h
 ·exact fun args H v H' h=>bu.mk_T h
theorem ay.ok:codeOk ay.pn Try.f125.ntmps ay.tb ay.code = true:=by kernel_rfl
theorem ay.T {F:Nat} {aa:Sl} {ab:Int} {H:Hp} {v:AV} {H':Hp} (h:ay.tw F aa ab H = some (v,H')):Go.AE.T Try.prog 125 [(.agg [(.sl aa),(.int .i64 ab)])] H v H':=
 Go.AE.T.of (Y:=tabs) (C:=mkOrc (ay.cs F (aI.tw F) (bi.tw F) (bj.tw F) (bu.tw F))) (PN:=ay.pn) (LH:=ay.lh F (aI.tw F) (bi.tw F) (bj.tw F) (bu.tw F)) (F:=F) (TB:=ay.tb) (fn:=Try.f125) (code:=ay.code) mixed tabs_ok (mkOrc_ok (ay.cs_ok F)) Try.func125 (by kernel_rfl) (by kernel_rfl) ay.ok (Nat.le_of_ble_eq_true (by kernel_rfl)) (ay.loops F (aI.tw F) (bi.tw F) (bj.tw F) (bu.tw F)) (Eq.trans (ay.eqX F (aI.tw F) (bi.tw F) (bj.tw F) (bu.tw F) aa ab H) h)
theorem ay.mk_T {F:Nat} {args:List AV} {H:Hp} {v:AV} {H':Hp} (h:ay.mk (ay.tw F) args H = some (v,H')):Go.AE.T Try.prog 125 args H v H':=by
 unfold ay.mk at h
 split at h
 ·exact ay.T h
 ·cases h
noncomputable def br.twX (F:Nat) (bP:Int→Int→Int→Int→Int→Hp→OA) (bQ:Int→Int→Int→Int→Int→Int→Hp→OA) (aa:Sl) (ab:Int) (aq:Sl) (bb:Sl) (fj:Int) (dO:Int) (H:Hp):OA:=(Hp.new H [(.sl aa),(.int .i64 ab)]).bind fun H7=>(Hp.new H7 [(.sl aq),(.sl bb)]).bind fun H8=>(Hp.new H8 [(.int .i64 fj),(.int .i64 dO)]).bind fun H9=>(Hp.new H9 [.int .i64 0,.int .i64 0]).bind fun H10=>(Hp.ldSl H10 H.length 0).bind fun s11=>(Hp.ldI H10 .i64 H8.length 0).bind fun n12=>(Sl.idx s11 n12 5).bind fun p13=>(Hp.ldI H10 .i64 p13.1 p13.2).bind fun n14=>(Hp.ldI H10 .i64 p13.1 (p13.2 + 1)).bind fun n15=>(Hp.ldI H10 .i64 p13.1 (p13.2 + 2)).bind fun n16=>(Hp.ldI H10 .i64 p13.1 (p13.2 + 3)).bind fun n17=>(Hp.ldI H10 .i64 p13.1 (p13.2 + 4)).bind fun n18=>(Hp.new H10 [.int .i64 0,.int .i64 0,.int .i64 0,.int .i64 0,.int .i64 0]).bind fun H19=>(Hp.st H19 H10.length 0 (.int .i64 n14)).bind fun H20=>(Hp.st H20 H10.length (0 + 1) (.int .i64 n15)).bind fun H21=>(Hp.st H21 H10.length (0 + 1 + 1) (.int .i64 n16)).bind fun H22=>(Hp.st H22 H10.length (0 + 1 + 1 + 1) (.int .i64 n17)).bind fun H23=>(Hp.st H23 H10.length (0 + 1 + 1 + 1 + 1) (.int .i64 n18)).bind fun H24=>(Hp.ldI H24 .i64 H10.length 0).bind fun n25=>(Hp.ldI H24 .i64 H10.length (0 + 1)).bind fun n26=>(Hp.ldI H24 .i64 H10.length (0 + 2)).bind fun n27=>(Hp.ldI H24 .i64 H10.length (0 + 3)).bind fun n28=>(Hp.ldI H24 .i64 H10.length (0 + 4)).bind fun n29=>(bP n25 n26 n27 n28 n29 H24).bind fun r30=>((r30.1).asAgg 4).bind fun l31=>(l31[0]?).bind fun v32=>((v32).asI .i64).bind fun n33=>(l31[1]?).bind fun v34=>((v34).asI .i64).bind fun n35=>(l31[2]?).bind fun v36=>((v36).asI .i64).bind fun n37=>(l31[3]?).bind fun v38=>((v38).asI .i64).bind fun n39=>(if Cons H24 r30.2 then ((Hp.ldI r30.2 .i64 H8.length 1).bind fun n40=>(if 0 ≤ n40∧n40 < (4:Int) then (([(.int .i64 n33),(.int .i64 n35),(.int .i64 n37),(.int .i64 n39)]:List AV)[(n40:Int).toNat * 1]?).bind fun v41=>((v41).asI .i64).bind fun n42=>(Hp.ldI r30.2 .i64 H10.length 0).bind fun n43=>(Hp.ldI r30.2 .i64 H10.length (0 + 1)).bind fun n44=>(Hp.ldI r30.2 .i64 H10.length (0 + 2)).bind fun n45=>(Hp.ldI r30.2 .i64 H10.length (0 + 3)).bind fun n46=>(Hp.ldI r30.2 .i64 H10.length (0 + 4)).bind fun n47=>(Hp.ldI r30.2 .i64 H8.length 1).bind fun n48=>(bQ n43 n44 n45 n46 n47 n48 r30.2).bind fun r49=>((r49.1).asB).bind fun b50=>(bif b50 then ((Hp.ldSl r49.2 H7.length 0).bind fun s51=>(Sl.idx s51 n42 2).bind fun p52=>(Hp.ldI r49.2 .i64 p52.1 p52.2).bind fun n53=>(Hp.ldI r49.2 .i64 p52.1 (p52.2 + 1)).bind fun n54=>(Hp.st r49.2 H9.length 0 (.int .i64 n53)).bind fun H55=>(Hp.st H55 H9.length (0 + 1) (.int .i64 n54)).bind fun H56=>(Hp.ldI H56 .i64 H9.length 0).bind fun n57=>(Hp.ldI H56 .i64 H9.length (0 + 1)).bind fun n58=>some ((.agg [(.int .i64 n57),(.int .i64 n58)]),H56)) else ((Hp.ldSl r49.2 H7.length 1).bind fun s59=>(Sl.idx s59 n42 2).bind fun p60=>(Hp.ldI r49.2 .i64 p60.1 p60.2).bind fun n61=>(Hp.ldI r49.2 .i64 p60.1 (p60.2 + 1)).bind fun n62=>(Hp.st r49.2 H9.length 0 (.int .i64 n61)).bind fun H63=>(Hp.st H63 H9.length (0 + 1) (.int .i64 n62)).bind fun H64=>(Hp.ldI H64 .i64 H9.length 0).bind fun n65=>(Hp.ldI H64 .i64 H9.length (0 + 1)).bind fun n66=>some ((.agg [(.int .i64 n65),(.int .i64 n66)]),H64))) else none)) else none)
noncomputable def br.tw (F:Nat) (aa:Sl) (ab:Int) (aq:Sl) (bb:Sl) (fj:Int) (dO:Int) (H:Hp):OA:=br.twX F (bi.tw F) (bj.tw F) aa ab aq bb fj dO H
noncomputable def br.code:Go.Code:=(Try.f139.body).getD .skip
noncomputable def br.lh (F:Nat) (bP:Int→Int→Int→Int→Int→Hp→OA) (bQ:Int→Int→Int→Int→Int→Int→Hp→OA) (p:Nat) (ks:List Nat) (n:Nat) (tm:Tm) (H:Hp):OA:=none
def br.pn:Nat→List Nat:=fun i=>(([(2,[])]:List (Nat×List Nat)).lookup i).getD []
def br.tb:Nat→List (List Nat):=fun i=>(([(2,[[],[0],[],[2],[0,1,2,3],[0,1,2,3,4]])]:List (Nat×List (List Nat))).lookup i).getD []
noncomputable def br.mk (g:Sl→Int→Sl→Sl→Int→Int→Hp→OA) (args:List AV) (H:Hp):OA:=match args with
 | [(.agg [(.sl aa),(.int .i64 ab)]),(.agg [(.sl aq),(.sl bb)]),(.agg [(.int .i64 fj),(.int .i64 dO)])]=>g aa ab aq bb fj dO H
 | _=>none
noncomputable def br.cs (F:Nat) (bP:Int→Int→Int→Int→Int→Hp→OA) (bQ:Int→Int→Int→Int→Int→Int→Hp→OA):List (FuncId×(List AV→Hp→OA)):=[(155,bi.mk bP),(156,bj.mk bQ)]
theorem br.loops (F:Nat) (bP:Int→Int→Int→Int→Int→Hp→OA) (bQ:Int→Int→Int→Int→Int→Int→Hp→OA):LoopsOk tabs (mkOrc (br.cs F bP bQ)) br.pn (br.lh F bP bQ) F [] 1 br.code (fun tm H=>aresults tabs.ty H tm Try.f139.results.toList fun v=>some (v,H)) (fun _ _ _=>none) (fun tm H=>aresults tabs.ty H tm Try.f139.results.toList fun v=>some (v,H)):=by
 exact loops_none (by kernel_rfl)
theorem br.eqX (F:Nat) (bP:Int→Int→Int→Int→Int→Hp→OA) (bQ:Int→Int→Int→Int→Int→Int→Hp→OA) (aa:Sl) (ab:Int) (aq:Sl) (bb:Sl) (fj:Int) (dO:Int) (H:Hp):aCode tabs (mkOrc (br.cs F bP bQ)) br.pn (br.lh F bP bQ) F [] 1 br.code (argTm [(.agg [(.sl aa),(.int .i64 ab)]),(.agg [(.sl aq),(.sl bb)]),(.agg [(.int .i64 fj),(.int .i64 dO)])]) H (fun tm H=>aresults tabs.ty H tm Try.f139.results.toList fun v=>some (v,H)) (fun _ _ _=>none) (fun tm H=>aresults tabs.ty H tm Try.f139.results.toList fun v=>some (v,H)) = br.twX F bP bQ aa ab aq bb fj dO H:=by kernel_rfl
theorem br.cs_ok (F:Nat):∀ p ∈ br.cs F (bi.tw F) (bj.tw F),∀ args H v H',p.2 args H = some (v,H')→Go.AE.T Try.prog p.1 args H v H':=by
 intro p hp
 simp only [br.cs,List.mem_cons,List.not_mem_nil,or_false] at hp
 rcases hp with rfl | rfl
 ·exact fun args H v H' h=>bi.mk_T h
 ·exact fun args H v H' h=>bj.mk_T h
theorem br.ok:codeOk br.pn Try.f139.ntmps br.tb br.code = true:=by kernel_rfl
theorem br.T {F:Nat} {aa:Sl} {ab:Int} {aq:Sl} {bb:Sl} {fj:Int} {dO:Int} {H:Hp} {v:AV} {H':Hp} (h:br.tw F aa ab aq bb fj dO H = some (v,H')):Go.AE.T Try.prog 139 [(.agg [(.sl aa),(.int .i64 ab)]),(.agg [(.sl aq),(.sl bb)]),(.agg [(.int .i64 fj),(.int .i64 dO)])] H v H':=
 Go.AE.T.of (Y:=tabs) (C:=mkOrc (br.cs F (bi.tw F) (bj.tw F))) (PN:=br.pn) (LH:=br.lh F (bi.tw F) (bj.tw F)) (F:=F) (TB:=br.tb) (fn:=Try.f139) (code:=br.code) mixed tabs_ok (mkOrc_ok (br.cs_ok F)) Try.func139 (by kernel_rfl) (by kernel_rfl) br.ok (Nat.le_of_ble_eq_true (by kernel_rfl)) (br.loops F (bi.tw F) (bj.tw F)) (Eq.trans (br.eqX F (bi.tw F) (bj.tw F) aa ab aq bb fj dO H) h)
theorem br.mk_T {F:Nat} {args:List AV} {H:Hp} {v:AV} {H':Hp} (h:br.mk (br.tw F) args H = some (v,H')):Go.AE.T Try.prog 139 args H v H':=by
 unfold br.mk at h
 split at h
 ·exact br.T h
 ·cases h
noncomputable def ai.j4 (F:Nat) (bU:Sl→Int→Sl→Sl→Int→Int→Hp→OA) (C61_:Nat→Nat→Nat→Nat→Sl→Sl→Int→Int→Hp→OA) (o_:Nat) (DJ:Nat) (pa:Nat) (DK:Nat) (DL:Sl) (DM:Sl) (kG:Int) (kH:Int) (H248:Hp):OA:=C61_ o_ DJ pa DK DL DM kG (IntKind.i64.wrap (kH + 1)) H248
noncomputable def ai.j5 (F:Nat) (bU:Sl→Int→Sl→Sl→Int→Int→Hp→OA) (C61_:Nat→Nat→Nat→Nat→Sl→Sl→Int→Int→Hp→OA) (pb:Nat) (DN:Nat) (kk:Nat) (DO:Nat) (jg:Sl) (DP:Sl) (kI:Int) (kJ:Int) (H228:Hp):OA:=ai.j4 F bU C61_ pb DN kk DO jg DP kI kJ H228
noncomputable def ai.j6 (F:Nat) (bU:Sl→Int→Sl→Sl→Int→Int→Hp→OA) (C61_:Nat→Nat→Nat→Nat→Sl→Sl→Int→Int→Hp→OA) (lv:Nat) (v_:Nat) (lw:Nat) (wa:Nat) (wb:Sl) (wc:Sl) (wd:Sl) (jj:Int) (jk:Int) (H205:Hp):OA:=(bif (decide ((wd.n:Int) > 0)) then ((Hp.new H205 [(.sl wd)]).bind fun H206=>(Sl.row H206 (⟨some (H205.length,0),1,.ex 1⟩:Sl) 1).bind fun xs208=>(Hp.app H206 1 24 wb (⟨some (H205.length,0),1,.ex 1⟩:Sl).n xs208).bind fun a207=>ai.j5 F bU C61_ lv v_ lw wa a207.1 wc jj jk a207.2) else (ai.j5 F bU C61_ lv v_ lw wa wb wc jj jk H205))
noncomputable def ai.l15725 (F:Nat) (bU:Sl→Int→Sl→Sl→Int→Int→Hp→OA) (C61_:Nat→Nat→Nat→Nat→Sl→Sl→Int→Int→Hp→OA):Nat→Nat→Nat→Nat→Nat→Sl→Sl→Int→Int→Sl→Int→Hp→OA
 | 0,_,_,_,_,_,_,_,_,_,_,_=>none
 | DQ + 1,db,ez,dq,eT,fJ,fA,eA,eU,gl,cF,H164=>(Sl.idx fA cF 1).bind fun p249=>(Hp.ldB H164 p249.1 p249.2).bind fun b250=>(bif (!b250) then ((Sl.idx fA cF 1).bind fun p251=>(Hp.st H164 p251.1 p251.2 (.bool true)).bind fun H252=>(Hp.new H252 [(.int .i64 cF)]).bind fun H253=>(Sl.row H253 (⟨some (H252.length,0),1,.ex 1⟩:Sl) 1).bind fun xs255=>(Hp.app H253 1 8 gl (⟨some (H252.length,0),1,.ex 1⟩:Sl).n xs255).bind fun a254=>(Hp.ldSl a254.2 db ez).bind fun s256=>(Hp.ldI a254.2 .i64 db (ez + 1)).bind fun n257=>(Hp.ldSl a254.2 dq eT).bind fun s258=>(Hp.ldSl a254.2 dq (eT + 1)).bind fun s259=>(bU s256 n257 s258 s259 (IntKind.i64.wrap (Int.tdiv cF 4)) (Int.tmod (IntKind.i64.wrap (cF + 1)) 4) a254.2).bind fun r260=>((r260.1).asAgg 2).bind fun l261=>(l261[0]?).bind fun v262=>((v262).asI .i64).bind fun n263=>(l261[1]?).bind fun v264=>((v264).asI .i64).bind fun n265=>(Hp.new r260.2 [.int .i64 0,.int .i64 0]).bind fun H266=>(Hp.st H266 r260.2.length 0 (.int .i64 n263)).bind fun H267=>(Hp.st H267 r260.2.length (0 + 1) (.int .i64 n265)).bind fun H268=>(Hp.ldI H268 .i64 r260.2.length 0).bind fun n269=>(Hp.ldI H268 .i64 r260.2.length 1).bind fun n270=>ai.l15725 F bU C61_ DQ db ez dq eT fJ fA eA eU a254.1 (IntKind.i64.wrap ((IntKind.i64.wrap (4 * n269)) + n270)) H268) else (ai.j6 F bU C61_ db ez dq eT fJ fA gl eA eU H164))
termination_by structural n=>n
noncomputable def ai.l61 (F:Nat) (bU:Sl→Int→Sl→Sl→Int→Int→Hp→OA) :Nat→Nat→Nat→Nat→Nat→Sl→Sl→Int→Int→Hp→OA
 | 0,_,_,_,_,_,_,_,_,_=>none
 | bv + 1,eB,fU,co,gm,gn,hH,eC,eo,H22=>(bif (decide (eo < eC)) then (ai.l15725 F bU (ai.l61 F bU bv) F eB fU co gm gn hH eC eo (⟨none,0,.ex 0⟩:Sl) eo H22) else (some ((.sl gn),H22)))
termination_by structural n=>n
noncomputable def ai.twX (F:Nat) (bU:Sl→Int→Sl→Sl→Int→Int→Hp→OA) (aa:Sl) (ab:Int) (aq:Sl) (bb:Sl) (H:Hp):OA:=(Hp.new H [(.sl aa),(.int .i64 ab)]).bind fun H5=>(Hp.new H5 [(.sl aq),(.sl bb)]).bind fun H6=>(Hp.ldSl H6 H.length 0).bind fun s7=>(Hp.mk H6 [.bool false] 1 (IntKind.i64.wrap (4 * (s7.n:Int))) (IntKind.i64.wrap (4 * (s7.n:Int)))).bind fun m8=>ai.l61 F bU F H.length 0 H5.length 0 (⟨none,0,.ex 0⟩:Sl) m8.1 (m8.1.n:Int) 0 m8.2
noncomputable def ai.tw (F:Nat) (aa:Sl) (ab:Int) (aq:Sl) (bb:Sl) (H:Hp):OA:=ai.twX F (br.tw F) aa ab aq bb H
noncomputable def ai.code:Go.Code:=(Try.f103.body).getD .skip
noncomputable def ai.lh61 (F:Nat) (bU:Sl→Int→Sl→Sl→Int→Int→Hp→OA) (ks:List Nat) (n:Nat) (tm:Tm) (H:Hp):OA:=match ks,tm 2,tm 3,tm 5,tm 6,tm 17,tm 18 with
 | [],(.ptr eB fU),(.ptr co gm),(.sl gn),(.sl hH),(.int .i64 eC),(.int .i64 eo)=>ai.l61 F bU n eB fU co gm gn hH eC eo H
 | _,_,_,_,_,_,_=>none
theorem ai.lh61_inv {F:Nat} {bU:Sl→Int→Sl→Sl→Int→Int→Hp→OA} {ks:List Nat} {n:Nat} {tm:Tm} {H:Hp} {r:AV×Hp} (h:ai.lh61 F bU ks n tm H = some r):∃ eB:Nat,∃ fU:Nat,∃ co:Nat,∃ gm:Nat,∃ gn:Sl,∃ hH:Sl,∃ eC:Int,∃ eo:Int,ks = []∧tm 2 = (.ptr eB fU)∧tm 3 = (.ptr co gm)∧tm 5 = (.sl gn)∧tm 6 = (.sl hH)∧tm 17 = (.int .i64 eC)∧tm 18 = (.int .i64 eo)∧ai.l61 F bU n eB fU co gm gn hH eC eo H = some r:=by
 unfold ai.lh61 at h
 split at h
 ·exact ⟨_,_,_,_,_,_,_,_,rfl,by assumption,by assumption,by assumption,by assumption,by assumption,by assumption,h⟩
 ·cases h
noncomputable def ai.lh15725 (F:Nat) (bU:Sl→Int→Sl→Sl→Int→Int→Hp→OA) (ks:List Nat) (n:Nat) (tm:Tm) (H:Hp):OA:=match ks,tm 2,tm 3,tm 5,tm 6,tm 8,tm 9,tm 17,tm 18 with
 | [bv],(.ptr db ez),(.ptr dq eT),(.sl fJ),(.sl fA),(.sl gl),(.int .i64 cF),(.int .i64 eA),(.int .i64 eU)=>ai.l15725 F bU (ai.l61 F bU bv) n db ez dq eT fJ fA eA eU gl cF H
 | _,_,_,_,_,_,_,_,_=>none
theorem ai.lh15725_inv {F:Nat} {bU:Sl→Int→Sl→Sl→Int→Int→Hp→OA} {ks:List Nat} {n:Nat} {tm:Tm} {H:Hp} {r:AV×Hp} (h:ai.lh15725 F bU ks n tm H = some r):∃ bv:Nat,∃ db:Nat,∃ ez:Nat,∃ dq:Nat,∃ eT:Nat,∃ fJ:Sl,∃ fA:Sl,∃ gl:Sl,∃ cF:Int,∃ eA:Int,∃ eU:Int,ks = [bv]∧tm 2 = (.ptr db ez)∧tm 3 = (.ptr dq eT)∧tm 5 = (.sl fJ)∧tm 6 = (.sl fA)∧tm 8 = (.sl gl)∧tm 9 = (.int .i64 cF)∧tm 17 = (.int .i64 eA)∧tm 18 = (.int .i64 eU)∧ai.l15725 F bU (ai.l61 F bU bv) n db ez dq eT fJ fA eA eU gl cF H = some r:=by
 unfold ai.lh15725 at h
 split at h
 ·exact ⟨_,_,_,_,_,_,_,_,_,_,_,rfl,by assumption,by assumption,by assumption,by assumption,by assumption,by assumption,by assumption,by assumption,h⟩
 ·cases h
noncomputable def ai.lh (F:Nat) (bU:Sl→Int→Sl→Sl→Int→Int→Hp→OA) (p:Nat) (ks:List Nat) (n:Nat) (tm:Tm) (H:Hp):OA:=bif p.beq 15725 then ai.lh15725 F bU ks n tm H else (bif p.beq 61 then ai.lh61 F bU ks n tm H else (none))
def ai.pn:Nat→List Nat:=fun i=>(([]:List (Nat×List Nat)).lookup i).getD []
def ai.tb:Nat→List (List Nat):=fun i=>(([]:List (Nat×List (List Nat))).lookup i).getD []
noncomputable def ai.mk (g:Sl→Int→Sl→Sl→Hp→OA) (args:List AV) (H:Hp):OA:=match args with
 | [(.agg [(.sl aa),(.int .i64 ab)]),(.agg [(.sl aq),(.sl bb)])]=>g aa ab aq bb H
 | _=>none
noncomputable def ai.cs (F:Nat) (bU:Sl→Int→Sl→Sl→Int→Int→Hp→OA):List (FuncId×(List AV→Hp→OA)):=[(139,br.mk bU)]
theorem ai.loops (F:Nat) (bU:Sl→Int→Sl→Sl→Int→Int→Hp→OA):LoopsOk tabs (mkOrc (ai.cs F bU)) ai.pn (ai.lh F bU) F [] 1 ai.code (fun tm H=>aresults tabs.ty H tm Try.f103.results.toList fun v=>some (v,H)) (fun _ _ _=>none) (fun tm H=>aresults tabs.ty H tm Try.f103.results.toList fun v=>some (v,H)):=by
 refine LoopsOk.seq ?_ ?_
 ·exact loops_none (by kernel_rfl)
 ·refine LoopsOk.seq ?_ ?_
  ·exact loops_none (by kernel_rfl)
  ·refine LoopsOk.seq ?_ ?_
   ·exact loops_none (by kernel_rfl)
   ·refine LoopsOk.seq ?_ ?_
    ·refine LoopsOk.seq ?_ ?_
     ·exact loops_none (by kernel_rfl)
     ·refine LoopsOk.block ?_
      refine LoopsOk.loop (fun tm H=>?_) (fun k61 tm H r h0=>?_) (fun k61=>?_)
      ·refine none_of fun r h0=>?_
       obtain ⟨eB,fU,co,gm,gn,hH,eC,eo,hks,e2,e3,e5,e6,e17,e18,h⟩:=ai.lh61_inv (show ai.lh61 F bU [] 0 tm H = some r from h0)
       cases h
      ·obtain ⟨eB,fU,co,gm,gn,hH,eC,eo,hks,e2,e3,e5,e6,e17,e18,h⟩:=ai.lh61_inv (show ai.lh61 F bU [] (k61 + 1) tm H = some r from h0)
       have q0:(Tm.put tm 2 (.ptr eB fU)) = tm:=by exact Tm.put_same e2
       have q1:(Tm.put (Tm.put tm 2 (.ptr eB fU)) 3 (.ptr co gm)) = tm:=by rw [q0]; exact Tm.put_same e3
       have q2:(Tm.put (Tm.put (Tm.put tm 2 (.ptr eB fU)) 3 (.ptr co gm)) 5 (.sl gn)) = tm:=by rw [q1]; exact Tm.put_same e5
       have q3:(Tm.put (Tm.put (Tm.put (Tm.put tm 2 (.ptr eB fU)) 3 (.ptr co gm)) 5 (.sl gn)) 6 (.sl hH)) = tm:=by rw [q2]; exact Tm.put_same e6
       have q4:(Tm.put (Tm.put (Tm.put (Tm.put (Tm.put tm 2 (.ptr eB fU)) 3 (.ptr co gm)) 5 (.sl gn)) 6 (.sl hH)) 17 (.int .i64 eC)) = tm:=by rw [q3]; exact Tm.put_same e17
       have q5:(Tm.put (Tm.put (Tm.put (Tm.put (Tm.put (Tm.put tm 2 (.ptr eB fU)) 3 (.ptr co gm)) 5 (.sl gn)) 6 (.sl hH)) 17 (.int .i64 eC)) 18 (.int .i64 eo)) = tm:=by rw [q4]; exact Tm.put_same e18
       rw [← q5]
       exact Eq.trans (by kernel_rfl) h
      ·refine LoopsOk.seq ?_ ?_
       ·exact loops_none (by kernel_rfl)
       ·refine LoopsOk.seq ?_ ?_
        ·exact loops_none (by kernel_rfl)
        ·refine LoopsOk.seq ?_ ?_
         ·refine LoopsOk.block ?_
          refine LoopsOk.seq ?_ ?_
          ·exact loops_none (by kernel_rfl)
          ·refine LoopsOk.seq ?_ ?_
           ·exact loops_none (by kernel_rfl)
           ·refine LoopsOk.seq ?_ ?_
            ·refine LoopsOk.seq ?_ ?_
             ·exact loops_none (by kernel_rfl)
             ·refine LoopsOk.block ?_
              refine LoopsOk.loop (fun tm H=>?_) (fun k15725 tm H r h0=>?_) (fun k15725=>?_)
              ·refine none_of fun r h0=>?_
               obtain ⟨bv,db,ez,dq,eT,fJ,fA,gl,cF,eA,eU,hks,e2,e3,e5,e6,e8,e9,e17,e18,h⟩:=ai.lh15725_inv (show ai.lh15725 F bU [k61] 0 tm H = some r from h0)
               cases h
              ·obtain ⟨bv,db,ez,dq,eT,fJ,fA,gl,cF,eA,eU,hks,e2,e3,e5,e6,e8,e9,e17,e18,h⟩:=ai.lh15725_inv (show ai.lh15725 F bU [k61] (k15725 + 1) tm H = some r from h0)
               obtain rfl:bv = k61:=by simpa [eq_comm] using hks
               have q0:(Tm.put tm 2 (.ptr db ez)) = tm:=by exact Tm.put_same e2
               have q1:(Tm.put (Tm.put tm 2 (.ptr db ez)) 3 (.ptr dq eT)) = tm:=by rw [q0]; exact Tm.put_same e3
               have q2:(Tm.put (Tm.put (Tm.put tm 2 (.ptr db ez)) 3 (.ptr dq eT)) 5 (.sl fJ)) = tm:=by rw [q1]; exact Tm.put_same e5
               have q3:(Tm.put (Tm.put (Tm.put (Tm.put tm 2 (.ptr db ez)) 3 (.ptr dq eT)) 5 (.sl fJ)) 6 (.sl fA)) = tm:=by rw [q2]; exact Tm.put_same e6
               have q4:(Tm.put (Tm.put (Tm.put (Tm.put (Tm.put tm 2 (.ptr db ez)) 3 (.ptr dq eT)) 5 (.sl fJ)) 6 (.sl fA)) 8 (.sl gl)) = tm:=by rw [q3]; exact Tm.put_same e8
               have q5:(Tm.put (Tm.put (Tm.put (Tm.put (Tm.put (Tm.put tm 2 (.ptr db ez)) 3 (.ptr dq eT)) 5 (.sl fJ)) 6 (.sl fA)) 8 (.sl gl)) 9 (.int .i64 cF)) = tm:=by rw [q4]; exact Tm.put_same e9
               have q6:(Tm.put (Tm.put (Tm.put (Tm.put (Tm.put (Tm.put (Tm.put tm 2 (.ptr db ez)) 3 (.ptr dq eT)) 5 (.sl fJ)) 6 (.sl fA)) 8 (.sl gl)) 9 (.int .i64 cF)) 17 (.int .i64 eA)) = tm:=by rw [q5]; exact Tm.put_same e17
               have q7:(Tm.put (Tm.put (Tm.put (Tm.put (Tm.put (Tm.put (Tm.put (Tm.put tm 2 (.ptr db ez)) 3 (.ptr dq eT)) 5 (.sl fJ)) 6 (.sl fA)) 8 (.sl gl)) 9 (.int .i64 cF)) 17 (.int .i64 eA)) 18 (.int .i64 eU)) = tm:=by rw [q6]; exact Tm.put_same e18
               rw [← q7]
               exact Eq.trans (by kernel_rfl) h
              ·exact loops_none (by kernel_rfl)
            ·exact loops_none (by kernel_rfl)
         ·exact loops_none (by kernel_rfl)
    ·exact loops_none (by kernel_rfl)
theorem ai.eqX (F:Nat) (bU:Sl→Int→Sl→Sl→Int→Int→Hp→OA) (aa:Sl) (ab:Int) (aq:Sl) (bb:Sl) (H:Hp):aCode tabs (mkOrc (ai.cs F bU)) ai.pn (ai.lh F bU) F [] 1 ai.code (argTm [(.agg [(.sl aa),(.int .i64 ab)]),(.agg [(.sl aq),(.sl bb)])]) H (fun tm H=>aresults tabs.ty H tm Try.f103.results.toList fun v=>some (v,H)) (fun _ _ _=>none) (fun tm H=>aresults tabs.ty H tm Try.f103.results.toList fun v=>some (v,H)) = ai.twX F bU aa ab aq bb H:=by kernel_rfl
theorem ai.cs_ok (F:Nat):∀ p ∈ ai.cs F (br.tw F),∀ args H v H',p.2 args H = some (v,H')→Go.AE.T Try.prog p.1 args H v H':=by
 intro p hp
 simp only [ai.cs,List.mem_cons,List.not_mem_nil,or_false] at hp
 subst hp
 exact fun args H v H' h=>br.mk_T h
theorem ai.ok:codeOk ai.pn Try.f103.ntmps ai.tb ai.code = true:=by kernel_rfl
theorem ai.T {F:Nat} {aa:Sl} {ab:Int} {aq:Sl} {bb:Sl} {H:Hp} {v:AV} {H':Hp} (h:ai.tw F aa ab aq bb H = some (v,H')):Go.AE.T Try.prog 103 [(.agg [(.sl aa),(.int .i64 ab)]),(.agg [(.sl aq),(.sl bb)])] H v H':=
 Go.AE.T.of (Y:=tabs) (C:=mkOrc (ai.cs F (br.tw F))) (PN:=ai.pn) (LH:=ai.lh F (br.tw F)) (F:=F) (TB:=ai.tb) (fn:=Try.f103) (code:=ai.code) mixed tabs_ok (mkOrc_ok (ai.cs_ok F)) Try.func103 (by kernel_rfl) (by kernel_rfl) ai.ok (Nat.le_of_ble_eq_true (by kernel_rfl)) (ai.loops F (br.tw F)) (Eq.trans (ai.eqX F (br.tw F) aa ab aq bb H) h)
theorem ai.mk_T {F:Nat} {args:List AV} {H:Hp} {v:AV} {H':Hp} (h:ai.mk (ai.tw F) args H = some (v,H')):Go.AE.T Try.prog 103 args H v H':=by
 unfold ai.mk at h
 split at h
 ·exact ai.T h
 ·cases h
noncomputable def bJ.twX (F:Nat) (aa:Sl) (H:Hp):OA:=some ((.int .i64 (aa.n:Int)),H)
noncomputable def bJ.tw (F:Nat) (aa:Sl) (H:Hp):OA:=bJ.twX F aa H
noncomputable def bJ.code:Go.Code:=(Try.f89.body).getD .skip
noncomputable def bJ.lh (F:Nat) (p:Nat) (ks:List Nat) (n:Nat) (tm:Tm) (H:Hp):OA:=none
def bJ.pn:Nat→List Nat:=fun i=>(([]:List (Nat×List Nat)).lookup i).getD []
def bJ.tb:Nat→List (List Nat):=fun i=>(([]:List (Nat×List (List Nat))).lookup i).getD []
noncomputable def bJ.mk (g:Sl→Hp→OA) (args:List AV) (H:Hp):OA:=match args with
 | [(.sl aa)]=>g aa H
 | _=>none
noncomputable def bJ.cs (F:Nat):List (FuncId×(List AV→Hp→OA)):=[]
theorem bJ.loops (F:Nat):LoopsOk tabs (mkOrc (bJ.cs F)) bJ.pn (bJ.lh F) F [] 1 bJ.code (fun tm H=>aresults tabs.ty H tm Try.f89.results.toList fun v=>some (v,H)) (fun _ _ _=>none) (fun tm H=>aresults tabs.ty H tm Try.f89.results.toList fun v=>some (v,H)):=by
 exact loops_none (by kernel_rfl)
theorem bJ.eqX (F:Nat) (aa:Sl) (H:Hp):aCode tabs (mkOrc (bJ.cs F)) bJ.pn (bJ.lh F) F [] 1 bJ.code (argTm [(.sl aa)]) H (fun tm H=>aresults tabs.ty H tm Try.f89.results.toList fun v=>some (v,H)) (fun _ _ _=>none) (fun tm H=>aresults tabs.ty H tm Try.f89.results.toList fun v=>some (v,H)) = bJ.twX F aa H:=by kernel_rfl
theorem bJ.cs_ok (F:Nat):∀ p ∈ bJ.cs F,∀ args H v H',p.2 args H = some (v,H')→Go.AE.T Try.prog p.1 args H v H':=by
 intro p hp
 exact absurd (show p ∈ [] from hp) List.not_mem_nil
theorem bJ.ok:codeOk bJ.pn Try.f89.ntmps bJ.tb bJ.code = true:=by kernel_rfl
theorem bJ.T {F:Nat} {aa:Sl} {H:Hp} {v:AV} {H':Hp} (h:bJ.tw F aa H = some (v,H')):Go.AE.T Try.prog 89 [(.sl aa)] H v H':=
 Go.AE.T.of (Y:=tabs) (C:=mkOrc (bJ.cs F)) (PN:=bJ.pn) (LH:=bJ.lh F) (F:=F) (TB:=bJ.tb) (fn:=Try.f89) (code:=bJ.code) mixed tabs_ok (mkOrc_ok (bJ.cs_ok F)) Try.func89 (by kernel_rfl) (by kernel_rfl) bJ.ok (Nat.le_of_ble_eq_true (by kernel_rfl)) (bJ.loops F) (Eq.trans (bJ.eqX F aa H) h)
theorem bJ.mk_T {F:Nat} {args:List AV} {H:Hp} {v:AV} {H':Hp} (h:bJ.mk (bJ.tw F) args H = some (v,H')):Go.AE.T Try.prog 89 args H v H':=by
 unfold bJ.mk at h
 split at h
 ·exact bJ.T h
 ·cases h
noncomputable def aQ.l29 (F:Nat) :Nat→Sl→Int→Int→Hp→OA
 | 0,_,_,_,_=>none
 | dZ + 1,gJ,eD,dP,H7=>(bif (decide (dP < eD)) then ((Hp.new H7 [(.int .i64 dP)]).bind fun H11=>(Sl.row H11 (⟨some (H7.length,0),1,.ex 1⟩:Sl) 1).bind fun xs13=>(Hp.app H11 1 8 gJ (⟨some (H7.length,0),1,.ex 1⟩:Sl).n xs13).bind fun a12=>aQ.l29 F dZ a12.1 eD (IntKind.i64.wrap (dP + 1)) a12.2) else (some ((.sl gJ),H7)))
termination_by structural n=>n
noncomputable def aQ.twX (F:Nat) (aa:Int) (H:Hp):OA:=aQ.l29 F F (⟨none,0,.ex 0⟩:Sl) aa 0 H
noncomputable def aQ.tw (F:Nat) (aa:Int) (H:Hp):OA:=aQ.twX F aa H
noncomputable def aQ.code:Go.Code:=(Try.f116.body).getD .skip
noncomputable def aQ.lh29 (F:Nat) (ks:List Nat) (n:Nat) (tm:Tm) (H:Hp):OA:=match ks,tm 3,tm 5,tm 6 with
 | [],(.sl gJ),(.int .i64 eD),(.int .i64 dP)=>aQ.l29 F n gJ eD dP H
 | _,_,_,_=>none
theorem aQ.lh29_inv {F:Nat} {ks:List Nat} {n:Nat} {tm:Tm} {H:Hp} {r:AV×Hp} (h:aQ.lh29 F ks n tm H = some r):∃ gJ:Sl,∃ eD:Int,∃ dP:Int,ks = []∧tm 3 = (.sl gJ)∧tm 5 = (.int .i64 eD)∧tm 6 = (.int .i64 dP)∧aQ.l29 F n gJ eD dP H = some r:=by
 unfold aQ.lh29 at h
 split at h
 ·exact ⟨_,_,_,rfl,by assumption,by assumption,by assumption,h⟩
 ·cases h
noncomputable def aQ.lh (F:Nat) (p:Nat) (ks:List Nat) (n:Nat) (tm:Tm) (H:Hp):OA:=bif p.beq 29 then aQ.lh29 F ks n tm H else (none)
def aQ.pn:Nat→List Nat:=fun i=>(([]:List (Nat×List Nat)).lookup i).getD []
def aQ.tb:Nat→List (List Nat):=fun i=>(([]:List (Nat×List (List Nat))).lookup i).getD []
noncomputable def aQ.mk (g:Int→Hp→OA) (args:List AV) (H:Hp):OA:=match args with
 | [(.int .i64 aa)]=>g aa H
 | _=>none
noncomputable def aQ.cs (F:Nat):List (FuncId×(List AV→Hp→OA)):=[]
theorem aQ.loops (F:Nat):LoopsOk tabs (mkOrc (aQ.cs F)) aQ.pn (aQ.lh F) F [] 1 aQ.code (fun tm H=>aresults tabs.ty H tm Try.f116.results.toList fun v=>some (v,H)) (fun _ _ _=>none) (fun tm H=>aresults tabs.ty H tm Try.f116.results.toList fun v=>some (v,H)):=by
 refine LoopsOk.seq ?_ ?_
 ·exact loops_none (by kernel_rfl)
 ·refine LoopsOk.seq ?_ ?_
  ·exact loops_none (by kernel_rfl)
  ·refine LoopsOk.seq ?_ ?_
   ·refine LoopsOk.seq ?_ ?_
    ·exact loops_none (by kernel_rfl)
    ·refine LoopsOk.block ?_
     refine LoopsOk.loop (fun tm H=>?_) (fun k29 tm H r h0=>?_) (fun k29=>?_)
     ·refine none_of fun r h0=>?_
      obtain ⟨gJ,eD,dP,hks,e3,e5,e6,h⟩:=aQ.lh29_inv (show aQ.lh29 F [] 0 tm H = some r from h0)
      cases h
     ·obtain ⟨gJ,eD,dP,hks,e3,e5,e6,h⟩:=aQ.lh29_inv (show aQ.lh29 F [] (k29 + 1) tm H = some r from h0)
      have q0:(Tm.put tm 3 (.sl gJ)) = tm:=by exact Tm.put_same e3
      have q1:(Tm.put (Tm.put tm 3 (.sl gJ)) 5 (.int .i64 eD)) = tm:=by rw [q0]; exact Tm.put_same e5
      have q2:(Tm.put (Tm.put (Tm.put tm 3 (.sl gJ)) 5 (.int .i64 eD)) 6 (.int .i64 dP)) = tm:=by rw [q1]; exact Tm.put_same e6
      rw [← q2]
      exact Eq.trans (by kernel_rfl) h
     ·exact loops_none (by kernel_rfl)
   ·exact loops_none (by kernel_rfl)
theorem aQ.eqX (F:Nat) (aa:Int) (H:Hp):aCode tabs (mkOrc (aQ.cs F)) aQ.pn (aQ.lh F) F [] 1 aQ.code (argTm [(.int .i64 aa)]) H (fun tm H=>aresults tabs.ty H tm Try.f116.results.toList fun v=>some (v,H)) (fun _ _ _=>none) (fun tm H=>aresults tabs.ty H tm Try.f116.results.toList fun v=>some (v,H)) = aQ.twX F aa H:=by kernel_rfl
theorem aQ.cs_ok (F:Nat):∀ p ∈ aQ.cs F,∀ args H v H',p.2 args H = some (v,H')→Go.AE.T Try.prog p.1 args H v H':=by
 intro p hp
 exact absurd (show p ∈ [] from hp) List.not_mem_nil
theorem aQ.ok:codeOk aQ.pn Try.f116.ntmps aQ.tb aQ.code = true:=by kernel_rfl
theorem aQ.T {F:Nat} {aa:Int} {H:Hp} {v:AV} {H':Hp} (h:aQ.tw F aa H = some (v,H')):Go.AE.T Try.prog 116 [(.int .i64 aa)] H v H':=
 Go.AE.T.of (Y:=tabs) (C:=mkOrc (aQ.cs F)) (PN:=aQ.pn) (LH:=aQ.lh F) (F:=F) (TB:=aQ.tb) (fn:=Try.f116) (code:=aQ.code) mixed tabs_ok (mkOrc_ok (aQ.cs_ok F)) Try.func116 (by kernel_rfl) (by kernel_rfl) aQ.ok (Nat.le_of_ble_eq_true (by kernel_rfl)) (aQ.loops F) (Eq.trans (aQ.eqX F aa H) h)
theorem aQ.mk_T {F:Nat} {args:List AV} {H:Hp} {v:AV} {H':Hp} (h:aQ.mk (aQ.tw F) args H = some (v,H')):Go.AE.T Try.prog 116 args H v H':=by
 unfold aQ.mk at h
 split at h
 ·exact aQ.T h
 ·cases h
noncomputable def aG.j2 (F:Nat) (C7_:Sl→Int→Int→Sl→Int→Int→Hp→OA) (DR:Sl) (kK:Int) (kL:Int) (DS:Sl) (kM:Int) (kN:Int) (H50:Hp):OA:=C7_ DR kK kL DS kM (IntKind.i64.wrap (kN + 1)) H50
noncomputable def aG.l7 (F:Nat) :Nat→Sl→Int→Int→Sl→Int→Int→Hp→OA
 | 0,_,_,_,_,_,_,_=>none
 | wg + 1,ct,dc,dr,gp,ec,dd,H16=>(bif (decide (dd < ec)) then ((Sl.idx gp dd 1).bind fun p34=>(Hp.ldI H16 .i64 p34.1 p34.2).bind fun n35=>(bif (n35 == dc) then ((Sl.idx ct dd 1).bind fun p36=>(Hp.st H16 p36.1 p36.2 (.int .i64 dr)).bind fun H37=>aG.j2 F (aG.l7 F wg) ct dc dr gp ec dd H37) else (aG.j2 F (aG.l7 F wg) ct dc dr gp ec dd H16))) else (some ((.tup []),H16)))
termination_by structural n=>n
noncomputable def aG.twX (F:Nat) (aa:Sl) (ae:Int) (bN:Int) (H:Hp):OA:=(Sl.idx aa bN 1).bind fun p4=>(Hp.ldI H .i64 p4.1 p4.2).bind fun n5=>(Sl.idx aa ae 1).bind fun p6=>(Hp.ldI H .i64 p6.1 p6.2).bind fun n7=>aG.l7 F F aa n5 n7 aa (aa.n:Int) 0 H
noncomputable def aG.tw (F:Nat) (aa:Sl) (ae:Int) (bN:Int) (H:Hp):OA:=aG.twX F aa ae bN H
noncomputable def aG.code:Go.Code:=(Try.f118.body).getD .skip
noncomputable def aG.lh7 (F:Nat) (ks:List Nat) (n:Nat) (tm:Tm) (H:Hp):OA:=match ks,tm 0,tm 6,tm 7,tm 18,tm 19,tm 20 with
 | [],(.sl ct),(.int .i64 dc),(.int .i64 dr),(.sl gp),(.int .i64 ec),(.int .i64 dd)=>aG.l7 F n ct dc dr gp ec dd H
 | _,_,_,_,_,_,_=>none
theorem aG.lh7_inv {F:Nat} {ks:List Nat} {n:Nat} {tm:Tm} {H:Hp} {r:AV×Hp} (h:aG.lh7 F ks n tm H = some r):∃ ct:Sl,∃ dc:Int,∃ dr:Int,∃ gp:Sl,∃ ec:Int,∃ dd:Int,ks = []∧tm 0 = (.sl ct)∧tm 6 = (.int .i64 dc)∧tm 7 = (.int .i64 dr)∧tm 18 = (.sl gp)∧tm 19 = (.int .i64 ec)∧tm 20 = (.int .i64 dd)∧aG.l7 F n ct dc dr gp ec dd H = some r:=by
 unfold aG.lh7 at h
 split at h
 ·exact ⟨_,_,_,_,_,_,rfl,by assumption,by assumption,by assumption,by assumption,by assumption,by assumption,h⟩
 ·cases h
noncomputable def aG.lh (F:Nat) (p:Nat) (ks:List Nat) (n:Nat) (tm:Tm) (H:Hp):OA:=bif p.beq 7 then aG.lh7 F ks n tm H else (none)
def aG.pn:Nat→List Nat:=fun i=>(([(0,[])]:List (Nat×List Nat)).lookup i).getD []
def aG.tb:Nat→List (List Nat):=fun i=>(([(0,[[],[],[0,1],[0,1,2],[],[],[4,5],[4,5,6],[0,1,2,3],[0,1,2,3,4,5,6,7,8]])]:List (Nat×List (List Nat))).lookup i).getD []
noncomputable def aG.mk (g:Sl→Int→Int→Hp→OA) (args:List AV) (H:Hp):OA:=match args with
 | [(.sl aa),(.int .i64 ae),(.int .i64 bN)]=>g aa ae bN H
 | _=>none
noncomputable def aG.cs (F:Nat):List (FuncId×(List AV→Hp→OA)):=[]
theorem aG.loops (F:Nat):LoopsOk tabs (mkOrc (aG.cs F)) aG.pn (aG.lh F) F [] 1 aG.code (fun tm H=>aresults tabs.ty H tm Try.f118.results.toList fun v=>some (v,H)) (fun _ _ _=>none) (fun tm H=>aresults tabs.ty H tm Try.f118.results.toList fun v=>some (v,H)):=by
 refine LoopsOk.seq ?_ ?_
 ·exact loops_none (by kernel_rfl)
 ·refine LoopsOk.seq ?_ ?_
  ·exact loops_none (by kernel_rfl)
  ·refine LoopsOk.block ?_
   refine LoopsOk.loop (fun tm H=>?_) (fun k7 tm H r h0=>?_) (fun k7=>?_)
   ·refine none_of fun r h0=>?_
    obtain ⟨ct,dc,dr,gp,ec,dd,hks,e0,e6,e7,e18,e19,e20,h⟩:=aG.lh7_inv (show aG.lh7 F [] 0 tm H = some r from h0)
    cases h
   ·obtain ⟨ct,dc,dr,gp,ec,dd,hks,e0,e6,e7,e18,e19,e20,h⟩:=aG.lh7_inv (show aG.lh7 F [] (k7 + 1) tm H = some r from h0)
    have q0:(Tm.put tm 0 (.sl ct)) = tm:=by exact Tm.put_same e0
    have q1:(Tm.put (Tm.put tm 0 (.sl ct)) 6 (.int .i64 dc)) = tm:=by rw [q0]; exact Tm.put_same e6
    have q2:(Tm.put (Tm.put (Tm.put tm 0 (.sl ct)) 6 (.int .i64 dc)) 7 (.int .i64 dr)) = tm:=by rw [q1]; exact Tm.put_same e7
    have q3:(Tm.put (Tm.put (Tm.put (Tm.put tm 0 (.sl ct)) 6 (.int .i64 dc)) 7 (.int .i64 dr)) 18 (.sl gp)) = tm:=by rw [q2]; exact Tm.put_same e18
    have q4:(Tm.put (Tm.put (Tm.put (Tm.put (Tm.put tm 0 (.sl ct)) 6 (.int .i64 dc)) 7 (.int .i64 dr)) 18 (.sl gp)) 19 (.int .i64 ec)) = tm:=by rw [q3]; exact Tm.put_same e19
    have q5:(Tm.put (Tm.put (Tm.put (Tm.put (Tm.put (Tm.put tm 0 (.sl ct)) 6 (.int .i64 dc)) 7 (.int .i64 dr)) 18 (.sl gp)) 19 (.int .i64 ec)) 20 (.int .i64 dd)) = tm:=by rw [q4]; exact Tm.put_same e20
    rw [← q5]
    exact Eq.trans (by kernel_rfl) h
   ·exact loops_none (by kernel_rfl)
theorem aG.eqX (F:Nat) (aa:Sl) (ae:Int) (bN:Int) (H:Hp):aCode tabs (mkOrc (aG.cs F)) aG.pn (aG.lh F) F [] 1 aG.code (argTm [(.sl aa),(.int .i64 ae),(.int .i64 bN)]) H (fun tm H=>aresults tabs.ty H tm Try.f118.results.toList fun v=>some (v,H)) (fun _ _ _=>none) (fun tm H=>aresults tabs.ty H tm Try.f118.results.toList fun v=>some (v,H)) = aG.twX F aa ae bN H:=by kernel_rfl
theorem aG.cs_ok (F:Nat):∀ p ∈ aG.cs F,∀ args H v H',p.2 args H = some (v,H')→Go.AE.T Try.prog p.1 args H v H':=by
 intro p hp
 exact absurd (show p ∈ [] from hp) List.not_mem_nil
theorem aG.ok:codeOk aG.pn Try.f118.ntmps aG.tb aG.code = true:=by kernel_rfl
theorem aG.T {F:Nat} {aa:Sl} {ae:Int} {bN:Int} {H:Hp} {v:AV} {H':Hp} (h:aG.tw F aa ae bN H = some (v,H')):Go.AE.T Try.prog 118 [(.sl aa),(.int .i64 ae),(.int .i64 bN)] H v H':=
 Go.AE.T.of (Y:=tabs) (C:=mkOrc (aG.cs F)) (PN:=aG.pn) (LH:=aG.lh F) (F:=F) (TB:=aG.tb) (fn:=Try.f118) (code:=aG.code) mixed tabs_ok (mkOrc_ok (aG.cs_ok F)) Try.func118 (by kernel_rfl) (by kernel_rfl) aG.ok (Nat.le_of_ble_eq_true (by kernel_rfl)) (aG.loops F) (Eq.trans (aG.eqX F aa ae bN H) h)
theorem aG.mk_T {F:Nat} {args:List AV} {H:Hp} {v:AV} {H':Hp} (h:aG.mk (aG.tw F) args H = some (v,H')):Go.AE.T Try.prog 118 args H v H':=by
 unfold aG.mk at h
 split at h
 ·exact aG.T h
 ·cases h
theorem nm_law:Keyed Try.prog 2:=int_keyed Try.underlying2
theorem nm_zero (w:World):(zeroValue 2).run Try.prog w = .ok (.int .i64 0) w:=by kernel_rfl
theorem nm_info:(Try.prog.info? 2).map (fun i=>(i.zero,i.size,i.bytes)) = some (some (.int .i64 0),1,8):=by kernel_rfl
theorem nm_none (a:Option Addr) (cap:Nat) (w:World):Calls Try.prog 119 #[.slice a 0 cap] w fun e w'=>e = .returned (.slice none 0 0)∧Below w.heap.size w w':=by
 have hmm:=@run_makeMap Try.prog
 go_enter Try.func119,Try.ntmps119
 go_wp2
 refine wp_loop_rounds 1 ?_
 rw [rounds_succ]
 go_wp2
 go_ret
 exact ⟨rfl,(Below.refl _ _).alloc (Nat.le_refl _) _⟩
theorem nm_any (b off len cap:Nat) (zs:List Int) (w:World) (hreach:len ≤ 4294967296) (hz:len ≤ zs.length) (hb:b < w.heap.size)
  (hc:∀ j,j < zs.length→w.cell? ⟨b,off + j,none⟩ = some (.int .i64 (zs.getD j 0))) (hwz:∀ n ∈ zs,(Lit.int .i64 n).wf = true) :
  Calls Try.prog 119 #[.slice (some ⟨b,off,none⟩) len cap] w fun e w'=>∃ v,e = .returned v∧w'.ownsRow (w.heap.size + 1) 2 1 v len ((nst zs len).2.map (Value.int .i64))∧Below w.heap.size w w':=by
 have hmm:=@run_makeMap Try.prog
 obtain ⟨i0,hi,hz0,hz1,hz2⟩:=info_parts nm_info
 go_enter Try.func119,Try.ntmps119
 go_wp2
 go_loopw [4,12] (fun v i wr=>∃ (k:Nat) (D:DataW Unit),k ≤ len∧i = .int .i64 k∧wr.ownsMap Try.prog 2 (plainElem Try.prog 2) w.heap.size k D∧ND D (nst zs k).1 ∧
   wr.ownsRow (w.heap.size + 1) 2 1 v k ((nst zs k).2.map (Value.int .i64))∧Below w.heap.size w wr∧w.heap.size + 1 ≤ wr.heap.size)
  (fun _ i _=>len - (intOf i).toNat)
 case atStart=>exact ⟨0,.map [],Nat.zero_le _,rfl,World.ownsMap_made _ _ _ _,ND.nil,World.ownsRow_nil _ _ _ _,(Below.refl _ _).alloc (Nat.le_refl _) _,by simp⟩
 case round=>
  obtain ⟨k,D,hk,rfl,hown,hD,hrow,hnx,hws⟩:=hrel
  obtain ⟨x,hx⟩:∃ x,x = zs.getD k 0:=⟨_,rfl⟩
  have hwx:(Lit.int .i64 x).wf = true:=by rw [hx]; exact wf_gd hwz k
  have hcx:k < len→wr.cell? ⟨b,off + k,none⟩ = some (.int .i64 x):=fun _=>by rw [hx]; exact (hnx.cell (by exact hb)).trans (hc k (by omega))
  have hkey:keyOf Try.prog 2 (.int .i64 x) = some (.int .i64 x):=keyOf_int_mk Try.underlying2 hwx
  have hl1:=nst_len1 zs k
  have hs1:Maps.size D ≤ k:=by rw [hD.size]; exact hl1
  have hht:=hown.tidy nm_law
  have n1:nst zs (k + 1) = (bif (nst zs k).1.contains x then (nst zs k).1 else (nst zs k).1 ++ [x],(nst zs k).2 ++ [(((bif (nst zs k).1.contains x then (nst zs k).1 else (nst zs k).1 ++ [x]).idxOf x:Nat):Int)]):=by rw [hx]; rfl
  clear hx
  go_wp2_with (first
   | (at_lookup; first
     | (refine wpList_lookup_own_ok_int _ rfl _ _ 157 rfl 2 2 .i64 nm_law Try.underlying157 Try.underlying2 (nm_zero _) w.heap.size k _ rfl hown _ _ rfl hkey ?_; intro c hat hwc)
     | (refine wpList_lookup_own_int _ rfl _ _ 157 rfl 2 2 .i64 nm_law Try.underlying157 Try.underlying2 (nm_zero _) w.heap.size (k + 1) _ rfl hown1 _ _ rfl hkey ?_; intro c2 hat2 hwc2)
     | (refine wpList_lookup_own_int _ rfl _ _ 157 rfl 2 2 .i64 nm_law Try.underlying157 Try.underlying2 (nm_zero _) w.heap.size k _ rfl hown _ _ rfl hkey ?_; intro c2 hat2 hwc2))
   | (at_len; refine wpList_len_own _ rfl _ 157 rfl 2 2 Try.underlying157 _ w.heap.size k _ rfl hown ?_)
   | (at_mapUpdate; refine wpList_mapUpdate_own _ rfl _ _ _ 157 rfl 2 2 nm_law Try.underlying157 (plainElem Try.prog 2) w.heap.size k _ rfl hown (by unfold maxLen; omega) _ _ _ rfl rfl hkey _ [] (plainElem_int Try.underlying2 (WalkArith.wf_i64 (by omega))) ?_; intro w1 hown1 hgrow1)
   | (at_builtin; first
     | (refine wpList_append_own _ rfl _ _ 26 rfl (w.heap.size + 1) 2 i0 (.int .i64 0) 1 8 Try.underlying26 hi hz0 hz1 hz2 rfl (by decide) _ _ _ rfl ((hrow.kept hgrow1 (Or.inr (rowNe hrow (Nat.lt_succ_self _)).symm)).alloc _) ⟨w1.heap.size,0,none⟩ 1 1 [.int .i64 c2] rfl rfl (cell_one_new _ _ _) (ints_oneCell .i64 [c2]) (by unfold maxLen; omega) (by omega) (by have:=hgrow1.size; simp at this ⊢; omega) ?_; intro v' w2 hown' hgrow2 hnil2)
     | (refine wpList_append_own _ rfl _ _ 26 rfl (w.heap.size + 1) 2 i0 (.int .i64 0) 1 8 Try.underlying26 hi hz0 hz1 hz2 rfl (by decide) _ _ _ rfl (hrow.alloc _) ⟨wr.heap.size,0,none⟩ 1 1 [.int .i64 c2] rfl rfl (cell_one_new _ _ _) (ints_oneCell .i64 [c2]) (by unfold maxLen; omega) (by omega) (by simp; omega) ?_; intro v' w2 hown' hgrow2 hnil2))
   | go_in)
  ·have hlt:k < len:=by assumption
   have ht:(!Maps.has D (Lit.int .i64 x)) = true:=by assumption
   have hc0:(nst zs k).1.contains x = false:=by rw [← hD.has x]; simpa using ht
   have hr1:=hrow.kept hgrow1 (Or.inr (rowNe hrow (Nat.lt_succ_self _)).symm)
   have s1:=hgrow1.size
   have s2:=hgrow2.size
   simp at s1 s2
   have hD1:=hD.new hht hc0
   rw [hD1.at_ x (by simp) _] at hat2
   have e2:c2 = (((nst zs k).1 ++ [x]).idxOf x:Nat):=by injection hat2 with q; injection q with _ q; exact q.symm
   rw [hc0,cond_false] at n1
   go_roundw
   case rel=>
    refine ⟨k + 1,_,by omega,by go_num,(hown1.alloc _).kept hgrow2 (rowNe hr1 (Nat.lt_succ_self _)),by rw [n1]; exact hD1,?_,?_,by omega⟩
    ·rw [n1,List.map_append,← e2]; exact hown'
    ·exact (((hnx.grown hgrow1 hnx.size (fun j hj=>by cases hj; exact Nat.le_refl _)).alloc (by omega) _).grown hgrow2 (by simp; omega) (fun j hj=>Nat.le_trans (Nat.le_succ _) (hr1.lt j hj).1))
   case measure=>simp [intOf]; omega
  ·have hlt:k < len:=by assumption
   have ht:(!Maps.has D (Lit.int .i64 x)) = false:=by assumption
   have hc1:(nst zs k).1.contains x = true:=by rw [← hD.has x]; simpa using ht
   have s2:=hgrow2.size
   simp at s2
   rw [hD.at_ x hc1 _] at hat2
   have e2:c2 = ((nst zs k).1.idxOf x:Nat):=by injection hat2 with q; injection q with _ q; exact q.symm
   rw [hc1,cond_true] at n1
   go_roundw
   case rel=>
    refine ⟨k + 1,_,by omega,by go_num,((hown.alloc _).kept hgrow2 (rowNe hrow (Nat.lt_succ_self _))).mono (Nat.le_succ _),by rw [n1]; exact hD,?_,?_,by omega⟩
    ·rw [n1,List.map_append,← e2]; exact hown'
    ·exact ((hnx.alloc hnx.size _).grown hgrow2 (by simp; omega) (fun j hj=>Nat.le_trans (Nat.le_succ _) (hrow.lt j hj).1))
   case measure=>simp [intOf]; omega
  ·have:k = len:=by omega
   subst this
   go_ret
   exact ⟨_,rfl,hrow,hnx⟩
theorem nm_ok:NumOk Try.prog 119 2:=⟨nm_none,nm_any⟩
noncomputable def cu.tw (F:Nat) (aa:Sl) (H:Hp):OA:=numTw aa H
noncomputable def cu.mk (g:Sl→Hp→OA) (args:List AV) (H:Hp):OA:=match args with
 | [.sl aa]=>g aa H
 | _=>none
theorem cu.T {F:Nat} {aa:Sl} {H:Hp} {v:AV} {H':Hp} (h:cu.tw F aa H = some (v,H')):Go.AE.T Try.prog 119 [.sl aa] H v H':=
 nm_ok.T (enters_of Try.func119 (by kernel_rfl) (by kernel_rfl)) h
theorem cu.mk_T {F:Nat} {args:List AV} {H:Hp} {v:AV} {H':Hp} (h:cu.mk (cu.tw F) args H = some (v,H')):Go.AE.T Try.prog 119 args H v H':=by
 unfold cu.mk at h
 split at h
 ·exact cu.T h
 ·cases h
noncomputable def aE.l29 (F:Nat) (cj:Sl→Hp→OA) (dQ:Int→Hp→OA) (dR:Sl→Int→Int→Hp→OA) (dS:Sl→Hp→OA) :Nat→Nat→Nat→Sl→Sl→Int→Int→Hp→OA
 | 0,_,_,_,_,_,_,_=>none
 | dZ + 1,eE,fV,fW,gK,eF,dU,H26=>(bif (decide (dU < eF)) then ((Sl.idx gK dU 2).bind fun p40=>(Hp.ldI H26 .i64 p40.1 p40.2).bind fun n41=>(Hp.ldI H26 .i64 p40.1 (p40.2 + 1)).bind fun n42=>(Hp.new H26 [.int .i64 0,.int .i64 0]).bind fun H43=>(Hp.st H43 H26.length 0 (.int .i64 n41)).bind fun H44=>(Hp.st H44 H26.length (0 + 1) (.int .i64 n42)).bind fun H45=>(Hp.ldI H45 .i64 H26.length 0).bind fun n46=>(Hp.ldSl H45 eE (fV + 1)).bind fun s47=>(Sl.idx s47 dU 2).bind fun p48=>(Hp.ldI H45 .i64 p48.1 p48.2).bind fun n49=>(dR fW n46 n49 H45).bind fun r50=>aE.l29 F cj dQ dR dS dZ eE fV fW gK eF (IntKind.i64.wrap (dU + 1)) r50.2) else ((dS fW H26).bind fun r51=>((r51.1).asSl).bind fun s52=>some ((.sl s52),r51.2)))
termination_by structural n=>n
noncomputable def aE.twX (F:Nat) (cj:Sl→Hp→OA) (dQ:Int→Hp→OA) (dR:Sl→Int→Int→Hp→OA) (dS:Sl→Hp→OA) (aa:Sl) (ab:Int) (aq:Sl) (bb:Sl) (H:Hp):OA:=(Hp.new H [(.sl aa),(.int .i64 ab)]).bind fun H5=>(Hp.new H5 [(.sl aq),(.sl bb)]).bind fun H6=>(Hp.ldSl H6 H.length 0).bind fun s7=>(cj s7 H6).bind fun r8=>((r8.1).asI .i64).bind fun n9=>(dQ n9 r8.2).bind fun r10=>((r10.1).asSl).bind fun s11=>(Hp.ldSl r10.2 H5.length 0).bind fun s12=>aE.l29 F cj dQ dR dS F H5.length 0 s11 s12 (s12.n:Int) 0 r10.2
noncomputable def aE.tw (F:Nat) (aa:Sl) (ab:Int) (aq:Sl) (bb:Sl) (H:Hp):OA:=aE.twX F (bf.tw F) (aQ.tw F) (aG.tw F) (cu.tw F) aa ab aq bb H
noncomputable def aE.code:Go.Code:=(Try.f126.body).getD .skip
noncomputable def aE.lh29 (F:Nat) (cj:Sl→Hp→OA) (dQ:Int→Hp→OA) (dR:Sl→Int→Int→Hp→OA) (dS:Sl→Hp→OA) (ks:List Nat) (n:Nat) (tm:Tm) (H:Hp):OA:=match ks,tm 3,tm 5,tm 13,tm 14,tm 15 with
 | [],(.ptr eE fV),(.sl fW),(.sl gK),(.int .i64 eF),(.int .i64 dU)=>aE.l29 F cj dQ dR dS n eE fV fW gK eF dU H
 | _,_,_,_,_,_=>none
theorem aE.lh29_inv {F:Nat} {cj:Sl→Hp→OA} {dQ:Int→Hp→OA} {dR:Sl→Int→Int→Hp→OA} {dS:Sl→Hp→OA} {ks:List Nat} {n:Nat} {tm:Tm} {H:Hp} {r:AV×Hp} (h:aE.lh29 F cj dQ dR dS ks n tm H = some r):∃ eE:Nat,∃ fV:Nat,∃ fW:Sl,∃ gK:Sl,∃ eF:Int,∃ dU:Int,ks = []∧tm 3 = (.ptr eE fV)∧tm 5 = (.sl fW)∧tm 13 = (.sl gK)∧tm 14 = (.int .i64 eF)∧tm 15 = (.int .i64 dU)∧aE.l29 F cj dQ dR dS n eE fV fW gK eF dU H = some r:=by
 unfold aE.lh29 at h
 split at h
 ·exact ⟨_,_,_,_,_,_,rfl,by assumption,by assumption,by assumption,by assumption,by assumption,h⟩
 ·cases h
noncomputable def aE.lh (F:Nat) (cj:Sl→Hp→OA) (dQ:Int→Hp→OA) (dR:Sl→Int→Int→Hp→OA) (dS:Sl→Hp→OA) (p:Nat) (ks:List Nat) (n:Nat) (tm:Tm) (H:Hp):OA:=bif p.beq 29 then aE.lh29 F cj dQ dR dS ks n tm H else (none)
def aE.pn:Nat→List Nat:=fun i=>(([(5,[9])]:List (Nat×List Nat)).lookup i).getD []
def aE.tb:Nat→List (List Nat):=fun i=>(([(5,[[],[],[1],[],[3],[],[3,4,5],[3,4,5,6],[3,4,5,6,7],[0,1,2,3,4,5,6,7,8]])]:List (Nat×List (List Nat))).lookup i).getD []
noncomputable def aE.mk (g:Sl→Int→Sl→Sl→Hp→OA) (args:List AV) (H:Hp):OA:=match args with
 | [(.agg [(.sl aa),(.int .i64 ab)]),(.agg [(.sl aq),(.sl bb)])]=>g aa ab aq bb H
 | _=>none
noncomputable def aE.cs (F:Nat) (cj:Sl→Hp→OA) (dQ:Int→Hp→OA) (dR:Sl→Int→Int→Hp→OA) (dS:Sl→Hp→OA):List (FuncId×(List AV→Hp→OA)):=[(117,bf.mk cj),(116,aQ.mk dQ),(118,aG.mk dR),(119,cu.mk dS)]
theorem aE.loops (F:Nat) (cj:Sl→Hp→OA) (dQ:Int→Hp→OA) (dR:Sl→Int→Int→Hp→OA) (dS:Sl→Hp→OA):LoopsOk tabs (mkOrc (aE.cs F cj dQ dR dS)) aE.pn (aE.lh F cj dQ dR dS) F [] 1 aE.code (fun tm H=>aresults tabs.ty H tm Try.f126.results.toList fun v=>some (v,H)) (fun _ _ _=>none) (fun tm H=>aresults tabs.ty H tm Try.f126.results.toList fun v=>some (v,H)):=by
 refine LoopsOk.seq ?_ ?_
 ·exact loops_none (by kernel_rfl)
 ·refine LoopsOk.seq ?_ ?_
  ·exact loops_none (by kernel_rfl)
  ·refine LoopsOk.seq ?_ ?_
   ·refine LoopsOk.seq ?_ ?_
    ·exact loops_none (by kernel_rfl)
    ·refine LoopsOk.block ?_
     refine LoopsOk.loop (fun tm H=>?_) (fun k29 tm H r h0=>?_) (fun k29=>?_)
     ·refine none_of fun r h0=>?_
      obtain ⟨eE,fV,fW,gK,eF,dU,hks,e3,e5,e13,e14,e15,h⟩:=aE.lh29_inv (show aE.lh29 F cj dQ dR dS [] 0 tm H = some r from h0)
      cases h
     ·obtain ⟨eE,fV,fW,gK,eF,dU,hks,e3,e5,e13,e14,e15,h⟩:=aE.lh29_inv (show aE.lh29 F cj dQ dR dS [] (k29 + 1) tm H = some r from h0)
      have q0:(Tm.put tm 3 (.ptr eE fV)) = tm:=by exact Tm.put_same e3
      have q1:(Tm.put (Tm.put tm 3 (.ptr eE fV)) 5 (.sl fW)) = tm:=by rw [q0]; exact Tm.put_same e5
      have q2:(Tm.put (Tm.put (Tm.put tm 3 (.ptr eE fV)) 5 (.sl fW)) 13 (.sl gK)) = tm:=by rw [q1]; exact Tm.put_same e13
      have q3:(Tm.put (Tm.put (Tm.put (Tm.put tm 3 (.ptr eE fV)) 5 (.sl fW)) 13 (.sl gK)) 14 (.int .i64 eF)) = tm:=by rw [q2]; exact Tm.put_same e14
      have q4:(Tm.put (Tm.put (Tm.put (Tm.put (Tm.put tm 3 (.ptr eE fV)) 5 (.sl fW)) 13 (.sl gK)) 14 (.int .i64 eF)) 15 (.int .i64 dU)) = tm:=by rw [q3]; exact Tm.put_same e15
      rw [← q4]
      exact Eq.trans (by kernel_rfl) h
     ·exact loops_none (by kernel_rfl)
   ·exact loops_none (by kernel_rfl)
theorem aE.eqX (F:Nat) (cj:Sl→Hp→OA) (dQ:Int→Hp→OA) (dR:Sl→Int→Int→Hp→OA) (dS:Sl→Hp→OA) (aa:Sl) (ab:Int) (aq:Sl) (bb:Sl) (H:Hp):aCode tabs (mkOrc (aE.cs F cj dQ dR dS)) aE.pn (aE.lh F cj dQ dR dS) F [] 1 aE.code (argTm [(.agg [(.sl aa),(.int .i64 ab)]),(.agg [(.sl aq),(.sl bb)])]) H (fun tm H=>aresults tabs.ty H tm Try.f126.results.toList fun v=>some (v,H)) (fun _ _ _=>none) (fun tm H=>aresults tabs.ty H tm Try.f126.results.toList fun v=>some (v,H)) = aE.twX F cj dQ dR dS aa ab aq bb H:=by kernel_rfl
theorem aE.cs_ok (F:Nat):∀ p ∈ aE.cs F (bf.tw F) (aQ.tw F) (aG.tw F) (cu.tw F),∀ args H v H',p.2 args H = some (v,H')→Go.AE.T Try.prog p.1 args H v H':=by
 intro p hp
 simp only [aE.cs,List.mem_cons,List.not_mem_nil,or_false] at hp
 rcases hp with rfl | rfl | rfl | rfl
 ·exact fun args H v H' h=>bf.mk_T h
 ·exact fun args H v H' h=>aQ.mk_T h
 ·exact fun args H v H' h=>aG.mk_T h
 ·exact fun args H v H' h=>cu.mk_T h
theorem aE.ok:codeOk aE.pn Try.f126.ntmps aE.tb aE.code = true:=by kernel_rfl
theorem aE.T {F:Nat} {aa:Sl} {ab:Int} {aq:Sl} {bb:Sl} {H:Hp} {v:AV} {H':Hp} (h:aE.tw F aa ab aq bb H = some (v,H')):Go.AE.T Try.prog 126 [(.agg [(.sl aa),(.int .i64 ab)]),(.agg [(.sl aq),(.sl bb)])] H v H':=
 Go.AE.T.of (Y:=tabs) (C:=mkOrc (aE.cs F (bf.tw F) (aQ.tw F) (aG.tw F) (cu.tw F))) (PN:=aE.pn) (LH:=aE.lh F (bf.tw F) (aQ.tw F) (aG.tw F) (cu.tw F)) (F:=F) (TB:=aE.tb) (fn:=Try.f126) (code:=aE.code) mixed tabs_ok (mkOrc_ok (aE.cs_ok F)) Try.func126 (by kernel_rfl) (by kernel_rfl) aE.ok (Nat.le_of_ble_eq_true (by kernel_rfl)) (aE.loops F (bf.tw F) (aQ.tw F) (aG.tw F) (cu.tw F)) (Eq.trans (aE.eqX F (bf.tw F) (aQ.tw F) (aG.tw F) (cu.tw F) aa ab aq bb H) h)
theorem aE.mk_T {F:Nat} {args:List AV} {H:Hp} {v:AV} {H':Hp} (h:aE.mk (aE.tw F) args H = some (v,H')):Go.AE.T Try.prog 126 args H v H':=by
 unfold aE.mk at h
 split at h
 ·exact aE.T h
 ·cases h
noncomputable def aJ.l61 (F:Nat) :Nat→Sl→Int→Int→Hp→OA
 | 0,_,_,_,_=>none
 | bv + 1,ct,cl,ep,H13=>(bif (decide (ep < (ct.n:Int))) then ((Sl.idx ct ep 1).bind fun p16=>(Hp.ldI H13 .i64 p16.1 p16.2).bind fun n17=>aJ.l61 F bv ct (if n17 > cl then n17 else cl) (IntKind.i64.wrap (ep + 1)) H13) else (some ((.int .i64 cl),H13)))
termination_by structural n=>n
noncomputable def aJ.j1 (F:Nat) (wh:Sl) (H5:Hp):OA:=(Sl.idx wh 0 1).bind fun p6=>(Hp.ldI H5 .i64 p6.1 p6.2).bind fun n7=>aJ.l61 F F wh n7 1 H5
noncomputable def aJ.twX (F:Nat) (aa:Sl) (H:Hp):OA:=(bif (decide ((aa.n:Int) < 1)) then (none) else (aJ.j1 F aa H))
noncomputable def aJ.tw (F:Nat) (aa:Sl) (H:Hp):OA:=aJ.twX F aa H
noncomputable def aJ.code:Go.Code:=(Try.f151.body).getD .skip
noncomputable def aJ.lh61 (F:Nat) (ks:List Nat) (n:Nat) (tm:Tm) (H:Hp):OA:=match ks,tm 0,tm 3,tm 4 with
 | [],(.sl ct),(.int .i64 cl),(.int .i64 ep)=>aJ.l61 F n ct cl ep H
 | _,_,_,_=>none
theorem aJ.lh61_inv {F:Nat} {ks:List Nat} {n:Nat} {tm:Tm} {H:Hp} {r:AV×Hp} (h:aJ.lh61 F ks n tm H = some r):∃ ct:Sl,∃ cl:Int,∃ ep:Int,ks = []∧tm 0 = (.sl ct)∧tm 3 = (.int .i64 cl)∧tm 4 = (.int .i64 ep)∧aJ.l61 F n ct cl ep H = some r:=by
 unfold aJ.lh61 at h
 split at h
 ·exact ⟨_,_,_,rfl,by assumption,by assumption,by assumption,h⟩
 ·cases h
noncomputable def aJ.lh (F:Nat) (p:Nat) (ks:List Nat) (n:Nat) (tm:Tm) (H:Hp):OA:=bif p.beq 61 then aJ.lh61 F ks n tm H else (none)
def aJ.pn:Nat→List Nat:=fun i=>(([]:List (Nat×List Nat)).lookup i).getD []
def aJ.tb:Nat→List (List Nat):=fun i=>(([]:List (Nat×List (List Nat))).lookup i).getD []
noncomputable def aJ.mk (g:Sl→Hp→OA) (args:List AV) (H:Hp):OA:=match args with
 | [(.sl aa)]=>g aa H
 | _=>none
noncomputable def aJ.cs (F:Nat):List (FuncId×(List AV→Hp→OA)):=[]
theorem aJ.loops (F:Nat):LoopsOk tabs (mkOrc (aJ.cs F)) aJ.pn (aJ.lh F) F [] 1 aJ.code (fun tm H=>aresults tabs.ty H tm Try.f151.results.toList fun v=>some (v,H)) (fun _ _ _=>none) (fun tm H=>aresults tabs.ty H tm Try.f151.results.toList fun v=>some (v,H)):=by
 refine LoopsOk.seq ?_ ?_
 ·exact loops_none (by kernel_rfl)
 ·refine LoopsOk.seq ?_ ?_
  ·exact loops_none (by kernel_rfl)
  ·refine LoopsOk.seq ?_ ?_
   ·exact loops_none (by kernel_rfl)
   ·refine LoopsOk.seq ?_ ?_
    ·refine LoopsOk.seq ?_ ?_
     ·exact loops_none (by kernel_rfl)
     ·refine LoopsOk.block ?_
      refine LoopsOk.loop (fun tm H=>?_) (fun k61 tm H r h0=>?_) (fun k61=>?_)
      ·refine none_of fun r h0=>?_
       obtain ⟨ct,cl,ep,hks,e0,e3,e4,h⟩:=aJ.lh61_inv (show aJ.lh61 F [] 0 tm H = some r from h0)
       cases h
      ·obtain ⟨ct,cl,ep,hks,e0,e3,e4,h⟩:=aJ.lh61_inv (show aJ.lh61 F [] (k61 + 1) tm H = some r from h0)
       have q0:(Tm.put tm 0 (.sl ct)) = tm:=by exact Tm.put_same e0
       have q1:(Tm.put (Tm.put tm 0 (.sl ct)) 3 (.int .i64 cl)) = tm:=by rw [q0]; exact Tm.put_same e3
       have q2:(Tm.put (Tm.put (Tm.put tm 0 (.sl ct)) 3 (.int .i64 cl)) 4 (.int .i64 ep)) = tm:=by rw [q1]; exact Tm.put_same e4
       rw [← q2]
       exact Eq.trans (by kernel_rfl) h
      ·exact loops_none (by kernel_rfl)
    ·exact loops_none (by kernel_rfl)
theorem aJ.eqX (F:Nat) (aa:Sl) (H:Hp):aCode tabs (mkOrc (aJ.cs F)) aJ.pn (aJ.lh F) F [] 1 aJ.code (argTm [(.sl aa)]) H (fun tm H=>aresults tabs.ty H tm Try.f151.results.toList fun v=>some (v,H)) (fun _ _ _=>none) (fun tm H=>aresults tabs.ty H tm Try.f151.results.toList fun v=>some (v,H)) = aJ.twX F aa H:=by kernel_rfl
theorem aJ.cs_ok (F:Nat):∀ p ∈ aJ.cs F,∀ args H v H',p.2 args H = some (v,H')→Go.AE.T Try.prog p.1 args H v H':=by
 intro p hp
 exact absurd (show p ∈ [] from hp) List.not_mem_nil
theorem aJ.ok:codeOk aJ.pn Try.f151.ntmps aJ.tb aJ.code = true:=by kernel_rfl
theorem aJ.T {F:Nat} {aa:Sl} {H:Hp} {v:AV} {H':Hp} (h:aJ.tw F aa H = some (v,H')):Go.AE.T Try.prog 151 [(.sl aa)] H v H':=
 Go.AE.T.of (Y:=tabs) (C:=mkOrc (aJ.cs F)) (PN:=aJ.pn) (LH:=aJ.lh F) (F:=F) (TB:=aJ.tb) (fn:=Try.f151) (code:=aJ.code) mixed tabs_ok (mkOrc_ok (aJ.cs_ok F)) Try.func151 (by kernel_rfl) (by kernel_rfl) aJ.ok (Nat.le_of_ble_eq_true (by kernel_rfl)) (aJ.loops F) (Eq.trans (aJ.eqX F aa H) h)
theorem aJ.mk_T {F:Nat} {args:List AV} {H:Hp} {v:AV} {H':Hp} (h:aJ.mk (aJ.tw F) args H = some (v,H')):Go.AE.T Try.prog 151 args H v H':=by
 unfold aJ.mk at h
 split at h
 ·exact aJ.T h
 ·cases h
noncomputable def bc.twX (F:Nat) (hI:Sl→Hp→OA) (aa:Sl) (H:Hp):OA:=(bif ((aa.n:Int) == 0) then (some ((.int .i64 0),H)) else ((hI aa H).bind fun r2=>((r2.1).asI .i64).bind fun n3=>some ((.int .i64 (IntKind.i64.wrap (n3 + 1))),r2.2)))
noncomputable def bc.tw (F:Nat) (aa:Sl) (H:Hp):OA:=bc.twX F (aJ.tw F) aa H
noncomputable def bc.code:Go.Code:=(Try.f120.body).getD .skip
noncomputable def bc.lh (F:Nat) (hI:Sl→Hp→OA) (p:Nat) (ks:List Nat) (n:Nat) (tm:Tm) (H:Hp):OA:=none
def bc.pn:Nat→List Nat:=fun i=>(([]:List (Nat×List Nat)).lookup i).getD []
def bc.tb:Nat→List (List Nat):=fun i=>(([]:List (Nat×List (List Nat))).lookup i).getD []
noncomputable def bc.mk (g:Sl→Hp→OA) (args:List AV) (H:Hp):OA:=match args with
 | [(.sl aa)]=>g aa H
 | _=>none
noncomputable def bc.cs (F:Nat) (hI:Sl→Hp→OA):List (FuncId×(List AV→Hp→OA)):=[(151,aJ.mk hI)]
theorem bc.loops (F:Nat) (hI:Sl→Hp→OA):LoopsOk tabs (mkOrc (bc.cs F hI)) bc.pn (bc.lh F hI) F [] 1 bc.code (fun tm H=>aresults tabs.ty H tm Try.f120.results.toList fun v=>some (v,H)) (fun _ _ _=>none) (fun tm H=>aresults tabs.ty H tm Try.f120.results.toList fun v=>some (v,H)):=by
 exact loops_none (by kernel_rfl)
theorem bc.eqX (F:Nat) (hI:Sl→Hp→OA) (aa:Sl) (H:Hp):aCode tabs (mkOrc (bc.cs F hI)) bc.pn (bc.lh F hI) F [] 1 bc.code (argTm [(.sl aa)]) H (fun tm H=>aresults tabs.ty H tm Try.f120.results.toList fun v=>some (v,H)) (fun _ _ _=>none) (fun tm H=>aresults tabs.ty H tm Try.f120.results.toList fun v=>some (v,H)) = bc.twX F hI aa H:=by kernel_rfl
theorem bc.cs_ok (F:Nat):∀ p ∈ bc.cs F (aJ.tw F),∀ args H v H',p.2 args H = some (v,H')→Go.AE.T Try.prog p.1 args H v H':=by
 intro p hp
 simp only [bc.cs,List.mem_cons,List.not_mem_nil,or_false] at hp
 subst hp
 exact fun args H v H' h=>aJ.mk_T h
theorem bc.ok:codeOk bc.pn Try.f120.ntmps bc.tb bc.code = true:=by kernel_rfl
theorem bc.T {F:Nat} {aa:Sl} {H:Hp} {v:AV} {H':Hp} (h:bc.tw F aa H = some (v,H')):Go.AE.T Try.prog 120 [(.sl aa)] H v H':=
 Go.AE.T.of (Y:=tabs) (C:=mkOrc (bc.cs F (aJ.tw F))) (PN:=bc.pn) (LH:=bc.lh F (aJ.tw F)) (F:=F) (TB:=bc.tb) (fn:=Try.f120) (code:=bc.code) mixed tabs_ok (mkOrc_ok (bc.cs_ok F)) Try.func120 (by kernel_rfl) (by kernel_rfl) bc.ok (Nat.le_of_ble_eq_true (by kernel_rfl)) (bc.loops F (aJ.tw F)) (Eq.trans (bc.eqX F (aJ.tw F) aa H) h)
theorem bc.mk_T {F:Nat} {args:List AV} {H:Hp} {v:AV} {H':Hp} (h:bc.mk (bc.tw F) args H = some (v,H')):Go.AE.T Try.prog 120 args H v H':=by
 unfold bc.mk at h
 split at h
 ·exact bc.T h
 ·cases h
noncomputable def bs.twX (F:Nat) (cj:Sl→Hp→OA) (dm:Int→Int→Int→Hp→OA) (hJ:Sl→Hp→OA) (hK:Sl→Int→Hp→OA) (aD:Sl→Int→Sl→Sl→Hp→OA) (hL:Sl→Hp→OA) (bm:Sl→Int→Sl→Sl→Hp→OA) (bn:Sl→Hp→OA) (aa:Sl) (ab:Int) (H:Hp):OA:=(Hp.new H [(.sl aa),(.int .i64 ab)]).bind fun H3=>(Hp.new H3 [.sl ⟨none,0,.ex 0⟩,.sl ⟨none,0,.ex 0⟩]).bind fun H4=>(Hp.ldSl H4 H.length 0).bind fun s5=>(cj s5 H4).bind fun r6=>((r6.1).asI .i64).bind fun n7=>(bif (decide (n7 > 10)) then ((Hp.st r6.2 H3.length 0 (.sl (⟨none,0,.ex 0⟩:Sl))).bind fun H8=>(Hp.st H8 H3.length (0 + 1) (.sl (⟨none,0,.ex 0⟩:Sl))).bind fun H9=>(Hp.ldSl H9 H3.length 0).bind fun s10=>(Hp.ldSl H9 H3.length (0 + 1)).bind fun s11=>some ((.tup [(.agg [(.sl s10),(.sl s11)]),(.bool false)]),H9)) else ((Hp.ldI r6.2 .i64 H.length 1).bind fun n12=>(dm n12 0 8 r6.2).bind fun r13=>((r13.1).asB).bind fun b14=>(bif (!b14) then ((Hp.st r13.2 H3.length 0 (.sl (⟨none,0,.ex 0⟩:Sl))).bind fun H15=>(Hp.st H15 H3.length (0 + 1) (.sl (⟨none,0,.ex 0⟩:Sl))).bind fun H16=>(Hp.ldSl H16 H3.length 0).bind fun s17=>(Hp.ldSl H16 H3.length (0 + 1)).bind fun s18=>some ((.tup [(.agg [(.sl s17),(.sl s18)]),(.bool false)]),H16)) else ((Hp.ldSl r13.2 H.length 0).bind fun s19=>(hJ s19 r13.2).bind fun r20=>((r20.1).asB).bind fun b21=>(bif b21 then ((Hp.st r20.2 H3.length 0 (.sl (⟨none,0,.ex 0⟩:Sl))).bind fun H22=>(Hp.st H22 H3.length (0 + 1) (.sl (⟨none,0,.ex 0⟩:Sl))).bind fun H23=>(Hp.ldSl H23 H3.length 0).bind fun s24=>(Hp.ldSl H23 H3.length (0 + 1)).bind fun s25=>some ((.tup [(.agg [(.sl s24),(.sl s25)]),(.bool false)]),H23)) else ((Hp.ldSl r20.2 H.length 0).bind fun s26=>(Hp.ldI r20.2 .i64 H.length (0 + 1)).bind fun n27=>(hK s26 n27 r20.2).bind fun r28=>((r28.1).asTup 2).bind fun l29=>(l29[0]?).bind fun v30=>((v30).asAgg 2).bind fun l31=>(l31[0]?).bind fun v32=>((v32).asSl).bind fun s33=>(l31[1]?).bind fun v34=>((v34).asSl).bind fun s35=>(l29[1]?).bind fun v36=>((v36).asB).bind fun b37=>(Hp.new r28.2 [.sl ⟨none,0,.ex 0⟩,.sl ⟨none,0,.ex 0⟩]).bind fun H38=>(Hp.st H38 r28.2.length 0 (.sl s33)).bind fun H39=>(Hp.st H39 r28.2.length (0 + 1) (.sl s35)).bind fun H40=>(bif (!b37) then ((Hp.st H40 H3.length 0 (.sl (⟨none,0,.ex 0⟩:Sl))).bind fun H41=>(Hp.st H41 H3.length (0 + 1) (.sl (⟨none,0,.ex 0⟩:Sl))).bind fun H42=>(Hp.ldSl H42 H3.length 0).bind fun s43=>(Hp.ldSl H42 H3.length (0 + 1)).bind fun s44=>some ((.tup [(.agg [(.sl s43),(.sl s44)]),(.bool false)]),H42)) else ((Hp.ldSl H40 H.length 0).bind fun s45=>(Hp.ldI H40 .i64 H.length (0 + 1)).bind fun n46=>(Hp.ldSl H40 r28.2.length 0).bind fun s47=>(Hp.ldSl H40 r28.2.length (0 + 1)).bind fun s48=>(aD s45 n46 s47 s48 H40).bind fun r49=>((r49.1).asSl).bind fun s50=>(if Cons H40 r49.2 then ((hL s50 r49.2).bind fun r51=>((r51.1).asI .i64).bind fun n52=>(if Cons r49.2 r51.2 then ((Hp.ldSl r51.2 H.length 0).bind fun s53=>(Hp.ldI r51.2 .i64 H.length (0 + 1)).bind fun n54=>(Hp.ldSl r51.2 r28.2.length 0).bind fun s55=>(Hp.ldSl r51.2 r28.2.length (0 + 1)).bind fun s56=>(bm s53 n54 s55 s56 r51.2).bind fun r57=>((r57.1).asSl).bind fun s58=>(bn s58 r57.2).bind fun r59=>((r59.1).asI .i64).bind fun n60=>(bif (n52 != (IntKind.i64.wrap (n7 + (IntKind.i64.wrap (2 * n60))))) then ((Hp.st r59.2 H3.length 0 (.sl (⟨none,0,.ex 0⟩:Sl))).bind fun H61=>(Hp.st H61 H3.length (0 + 1) (.sl (⟨none,0,.ex 0⟩:Sl))).bind fun H62=>(Hp.ldSl H62 H3.length 0).bind fun s63=>(Hp.ldSl H62 H3.length (0 + 1)).bind fun s64=>some ((.tup [(.agg [(.sl s63),(.sl s64)]),(.bool false)]),H62)) else ((Hp.ldSl r59.2 r28.2.length 0).bind fun s65=>(Hp.ldSl r59.2 r28.2.length (0 + 1)).bind fun s66=>(Hp.st r59.2 H3.length 0 (.sl s65)).bind fun H67=>(Hp.st H67 H3.length (0 + 1) (.sl s66)).bind fun H68=>(Hp.ldSl H68 H3.length 0).bind fun s69=>(Hp.ldSl H68 H3.length (0 + 1)).bind fun s70=>some ((.tup [(.agg [(.sl s69),(.sl s70)]),(.bool true)]),H68)))) else none)) else none)))))))))
noncomputable def bs.tw (F:Nat) (aa:Sl) (ab:Int) (H:Hp):OA:=bs.twX F (bf.tw F) (bk.tw F) (bB.tw F) (ay.tw F) (ai.tw F) (bJ.tw F) (aE.tw F) (bc.tw F) aa ab H
noncomputable def bs.code:Go.Code:=(Try.f69.body).getD .skip
noncomputable def bs.lh (F:Nat) (cj:Sl→Hp→OA) (dm:Int→Int→Int→Hp→OA) (hJ:Sl→Hp→OA) (hK:Sl→Int→Hp→OA) (aD:Sl→Int→Sl→Sl→Hp→OA) (hL:Sl→Hp→OA) (bm:Sl→Int→Sl→Sl→Hp→OA) (bn:Sl→Hp→OA) (p:Nat) (ks:List Nat) (n:Nat) (tm:Tm) (H:Hp):OA:=none
def bs.pn:Nat→List Nat:=fun i=>(([(5,[10,11])]:List (Nat×List Nat)).lookup i).getD []
def bs.tb:Nat→List (List Nat):=fun i=>(([(5,[[],[0],[0,1],[0,1,2],[0,1,2],[0,1,2,3,4],[0,1,2,3,4,5],[0,1,2],[0,1,2],[0,1,2],[0,1,2,3,4,5,6,8,9],[0,1,2,3,4,5,6,8,9,10],[0,1,2,3,4,5,6,8,9,10,11],[0,1,2,3,4,5,6,7,8,9,10,11,12],[0,1,2,3,4,5,6,7,8,9,10,11,12,13],[0,1,2,3,4,5,6,7,8,9,10,11,12,13,14]])]:List (Nat×List (List Nat))).lookup i).getD []
noncomputable def bs.mk (g:Sl→Int→Hp→OA) (args:List AV) (H:Hp):OA:=match args with
 | [(.agg [(.sl aa),(.int .i64 ab)])]=>g aa ab H
 | _=>none
noncomputable def bs.cs (F:Nat) (cj:Sl→Hp→OA) (dm:Int→Int→Int→Hp→OA) (hJ:Sl→Hp→OA) (hK:Sl→Int→Hp→OA) (aD:Sl→Int→Sl→Sl→Hp→OA) (hL:Sl→Hp→OA) (bm:Sl→Int→Sl→Sl→Hp→OA) (bn:Sl→Hp→OA):List (FuncId×(List AV→Hp→OA)):=[(117,bf.mk cj),(81,bk.mk dm),(123,bB.mk hJ),(125,ay.mk hK),(103,ai.mk aD),(89,bJ.mk hL),(126,aE.mk bm),(120,bc.mk bn)]
theorem bs.loops (F:Nat) (cj:Sl→Hp→OA) (dm:Int→Int→Int→Hp→OA) (hJ:Sl→Hp→OA) (hK:Sl→Int→Hp→OA) (aD:Sl→Int→Sl→Sl→Hp→OA) (hL:Sl→Hp→OA) (bm:Sl→Int→Sl→Sl→Hp→OA) (bn:Sl→Hp→OA):LoopsOk tabs (mkOrc (bs.cs F cj dm hJ hK aD hL bm bn)) bs.pn (bs.lh F cj dm hJ hK aD hL bm bn) F [] 1 bs.code (fun tm H=>aresults tabs.ty H tm Try.f69.results.toList fun v=>some (v,H)) (fun _ _ _=>none) (fun tm H=>aresults tabs.ty H tm Try.f69.results.toList fun v=>some (v,H)):=by
 exact loops_none (by kernel_rfl)
theorem bs.eqX (F:Nat) (cj:Sl→Hp→OA) (dm:Int→Int→Int→Hp→OA) (hJ:Sl→Hp→OA) (hK:Sl→Int→Hp→OA) (aD:Sl→Int→Sl→Sl→Hp→OA) (hL:Sl→Hp→OA) (bm:Sl→Int→Sl→Sl→Hp→OA) (bn:Sl→Hp→OA) (aa:Sl) (ab:Int) (H:Hp):aCode tabs (mkOrc (bs.cs F cj dm hJ hK aD hL bm bn)) bs.pn (bs.lh F cj dm hJ hK aD hL bm bn) F [] 1 bs.code (argTm [(.agg [(.sl aa),(.int .i64 ab)])]) H (fun tm H=>aresults tabs.ty H tm Try.f69.results.toList fun v=>some (v,H)) (fun _ _ _=>none) (fun tm H=>aresults tabs.ty H tm Try.f69.results.toList fun v=>some (v,H)) = bs.twX F cj dm hJ hK aD hL bm bn aa ab H:=by kernel_rfl
theorem bs.cs_ok (F:Nat):∀ p ∈ bs.cs F (bf.tw F) (bk.tw F) (bB.tw F) (ay.tw F) (ai.tw F) (bJ.tw F) (aE.tw F) (bc.tw F),∀ args H v H',p.2 args H = some (v,H')→Go.AE.T Try.prog p.1 args H v H':=by
 intro p hp
 simp only [bs.cs,List.mem_cons,List.not_mem_nil,or_false] at hp
 rcases hp with rfl | rfl | rfl | rfl | rfl | rfl | rfl | rfl
 ·exact fun args H v H' h=>bf.mk_T h
 ·exact fun args H v H' h=>bk.mk_T h
 ·exact fun args H v H' h=>bB.mk_T h
 ·exact fun args H v H' h=>ay.mk_T h
 ·exact fun args H v H' h=>ai.mk_T h
 ·exact fun args H v H' h=>bJ.mk_T h
 ·exact fun args H v H' h=>aE.mk_T h
 ·exact fun args H v H' h=>bc.mk_T h
theorem bs.ok:codeOk bs.pn Try.f69.ntmps bs.tb bs.code = true:=by kernel_rfl
theorem bs.T {F:Nat} {aa:Sl} {ab:Int} {H:Hp} {v:AV} {H':Hp} (h:bs.tw F aa ab H = some (v,H')):Go.AE.T Try.prog 69 [(.agg [(.sl aa),(.int .i64 ab)])] H v H':=
 Go.AE.T.of (Y:=tabs) (C:=mkOrc (bs.cs F (bf.tw F) (bk.tw F) (bB.tw F) (ay.tw F) (ai.tw F) (bJ.tw F) (aE.tw F) (bc.tw F))) (PN:=bs.pn) (LH:=bs.lh F (bf.tw F) (bk.tw F) (bB.tw F) (ay.tw F) (ai.tw F) (bJ.tw F) (aE.tw F) (bc.tw F)) (F:=F) (TB:=bs.tb) (fn:=Try.f69) (code:=bs.code) mixed tabs_ok (mkOrc_ok (bs.cs_ok F)) Try.func69 (by kernel_rfl) (by kernel_rfl) bs.ok (Nat.le_of_ble_eq_true (by kernel_rfl)) (bs.loops F (bf.tw F) (bk.tw F) (bB.tw F) (ay.tw F) (ai.tw F) (bJ.tw F) (aE.tw F) (bc.tw F)) (Eq.trans (bs.eqX F (bf.tw F) (bk.tw F) (bB.tw F) (ay.tw F) (ai.tw F) (bJ.tw F) (aE.tw F) (bc.tw F) aa ab H) h)
theorem bs.mk_T {F:Nat} {args:List AV} {H:Hp} {v:AV} {H':Hp} (h:bs.mk (bs.tw F) args H = some (v,H')):Go.AE.T Try.prog 69 args H v H':=by
 unfold bs.mk at h
 split at h
 ·exact bs.T h
 ·cases h
noncomputable def ap.j3 (F:Nat) (aD:Sl→Int→Sl→Sl→Hp→OA) (C29_:Sl→Sl→Int→Int→Hp→OA) (DT:Sl) (DU:Sl) (kO:Int) (kP:Int) (H168:Hp):OA:=C29_ DT DU kO (IntKind.i64.wrap (kP + 1)) H168
noncomputable def ap.j4 (F:Nat) (aD:Sl→Int→Sl→Sl→Hp→OA) (C29_:Sl→Sl→Int→Int→Hp→OA) (DV:Sl) (DW:Sl) (kQ:Int) (kR:Int) (H147:Hp):OA:=ap.j3 F aD C29_ DV DW kQ kR H147
noncomputable def ap.l1883 (F:Nat) (aD:Sl→Int→Sl→Sl→Hp→OA) (C29_:Sl→Sl→Int→Int→Hp→OA):Nat→Sl→Sl→Int→Int→Int→Sl→Int→Int→Hp→OA
 | 0,_,_,_,_,_,_,_,_,_=>none
 | DX + 1,eV,fK,dV,ed,de,gL,eG,es,H122=>(bif (decide (es < eG)) then ((Sl.idx gL es 1).bind fun p169=>(Hp.ldI H122 .i64 p169.1 p169.2).bind fun n170=>(Sl.idx eV n170 1).bind fun p171=>(Hp.st H122 p171.1 p171.2 (.int .i64 de)).bind fun H172=>ap.l1883 F aD C29_ DX eV fK dV ed de gL eG (IntKind.i64.wrap (es + 1)) H172) else (ap.j4 F aD C29_ eV fK dV ed H122))
termination_by structural n=>n
noncomputable def ap.l29 (F:Nat) (aD:Sl→Int→Sl→Sl→Hp→OA) :Nat→Sl→Sl→Int→Int→Hp→OA
 | 0,_,_,_,_,_=>none
 | dZ + 1,bR,gM,eH,dW,H28=>(bif (decide (dW < eH)) then ((Sl.idx gM dW 1).bind fun p101=>(Hp.ldSl H28 p101.1 p101.2).bind fun s102=>ap.l1883 F aD (ap.l29 F aD dZ) F bR gM eH dW dW s102 (s102.n:Int) 0 H28) else (some ((.sl bR),H28)))
termination_by structural n=>n
noncomputable def ap.twX (F:Nat) (aD:Sl→Int→Sl→Sl→Hp→OA) (aa:Sl) (ab:Int) (aq:Sl) (bb:Sl) (H:Hp):OA:=(Hp.new H [(.sl aa),(.int .i64 ab)]).bind fun H5=>(Hp.new H5 [(.sl aq),(.sl bb)]).bind fun H6=>(Hp.ldSl H6 H.length 0).bind fun s7=>(Hp.mk H6 [.int .i64 0] 8 (IntKind.i64.wrap (4 * (s7.n:Int))) (IntKind.i64.wrap (4 * (s7.n:Int)))).bind fun m8=>(Hp.ldSl m8.2 H.length 0).bind fun s9=>(Hp.ldI m8.2 .i64 H.length (0 + 1)).bind fun n10=>(Hp.ldSl m8.2 H5.length 0).bind fun s11=>(Hp.ldSl m8.2 H5.length (0 + 1)).bind fun s12=>(aD s9 n10 s11 s12 m8.2).bind fun r13=>((r13.1).asSl).bind fun s14=>ap.l29 F aD F m8.1 s14 (s14.n:Int) 0 r13.2
noncomputable def ap.tw (F:Nat) (aa:Sl) (ab:Int) (aq:Sl) (bb:Sl) (H:Hp):OA:=ap.twX F (ai.tw F) aa ab aq bb H
noncomputable def ap.code:Go.Code:=(Try.f127.body).getD .skip
noncomputable def ap.lh29 (F:Nat) (aD:Sl→Int→Sl→Sl→Hp→OA) (ks:List Nat) (n:Nat) (tm:Tm) (H:Hp):OA:=match ks,tm 5,tm 17,tm 18,tm 19 with
 | [],(.sl bR),(.sl gM),(.int .i64 eH),(.int .i64 dW)=>ap.l29 F aD n bR gM eH dW H
 | _,_,_,_,_=>none
theorem ap.lh29_inv {F:Nat} {aD:Sl→Int→Sl→Sl→Hp→OA} {ks:List Nat} {n:Nat} {tm:Tm} {H:Hp} {r:AV×Hp} (h:ap.lh29 F aD ks n tm H = some r):∃ bR:Sl,∃ gM:Sl,∃ eH:Int,∃ dW:Int,ks = []∧tm 5 = (.sl bR)∧tm 17 = (.sl gM)∧tm 18 = (.int .i64 eH)∧tm 19 = (.int .i64 dW)∧ap.l29 F aD n bR gM eH dW H = some r:=by
 unfold ap.lh29 at h
 split at h
 ·exact ⟨_,_,_,_,rfl,by assumption,by assumption,by assumption,by assumption,h⟩
 ·cases h
noncomputable def ap.lh1883 (F:Nat) (aD:Sl→Int→Sl→Sl→Hp→OA) (ks:List Nat) (n:Nat) (tm:Tm) (H:Hp):OA:=match ks,tm 5,tm 6,tm 17,tm 18,tm 19,tm 24,tm 25,tm 26 with
 | [dZ],(.sl eV),(.int .i64 de),(.sl fK),(.int .i64 dV),(.int .i64 ed),(.sl gL),(.int .i64 eG),(.int .i64 es)=>ap.l1883 F aD (ap.l29 F aD dZ) n eV fK dV ed de gL eG es H
 | _,_,_,_,_,_,_,_,_=>none
theorem ap.lh1883_inv {F:Nat} {aD:Sl→Int→Sl→Sl→Hp→OA} {ks:List Nat} {n:Nat} {tm:Tm} {H:Hp} {r:AV×Hp} (h:ap.lh1883 F aD ks n tm H = some r):∃ dZ:Nat,∃ eV:Sl,∃ de:Int,∃ fK:Sl,∃ dV:Int,∃ ed:Int,∃ gL:Sl,∃ eG:Int,∃ es:Int,ks = [dZ]∧tm 5 = (.sl eV)∧tm 6 = (.int .i64 de)∧tm 17 = (.sl fK)∧tm 18 = (.int .i64 dV)∧tm 19 = (.int .i64 ed)∧tm 24 = (.sl gL)∧tm 25 = (.int .i64 eG)∧tm 26 = (.int .i64 es)∧ap.l1883 F aD (ap.l29 F aD dZ) n eV fK dV ed de gL eG es H = some r:=by
 unfold ap.lh1883 at h
 split at h
 ·exact ⟨_,_,_,_,_,_,_,_,_,rfl,by assumption,by assumption,by assumption,by assumption,by assumption,by assumption,by assumption,by assumption,h⟩
 ·cases h
noncomputable def ap.lh (F:Nat) (aD:Sl→Int→Sl→Sl→Hp→OA) (p:Nat) (ks:List Nat) (n:Nat) (tm:Tm) (H:Hp):OA:=bif p.beq 1883 then ap.lh1883 F aD ks n tm H else (bif p.beq 29 then ap.lh29 F aD ks n tm H else (none))
def ap.pn:Nat→List Nat:=fun i=>(([]:List (Nat×List Nat)).lookup i).getD []
def ap.tb:Nat→List (List Nat):=fun i=>(([]:List (Nat×List (List Nat))).lookup i).getD []
noncomputable def ap.mk (g:Sl→Int→Sl→Sl→Hp→OA) (args:List AV) (H:Hp):OA:=match args with
 | [(.agg [(.sl aa),(.int .i64 ab)]),(.agg [(.sl aq),(.sl bb)])]=>g aa ab aq bb H
 | _=>none
noncomputable def ap.cs (F:Nat) (aD:Sl→Int→Sl→Sl→Hp→OA):List (FuncId×(List AV→Hp→OA)):=[(103,ai.mk aD)]
theorem ap.loops (F:Nat) (aD:Sl→Int→Sl→Sl→Hp→OA):LoopsOk tabs (mkOrc (ap.cs F aD)) ap.pn (ap.lh F aD) F [] 1 ap.code (fun tm H=>aresults tabs.ty H tm Try.f127.results.toList fun v=>some (v,H)) (fun _ _ _=>none) (fun tm H=>aresults tabs.ty H tm Try.f127.results.toList fun v=>some (v,H)):=by
 refine LoopsOk.seq ?_ ?_
 ·exact loops_none (by kernel_rfl)
 ·refine LoopsOk.seq ?_ ?_
  ·exact loops_none (by kernel_rfl)
  ·refine LoopsOk.seq ?_ ?_
   ·refine LoopsOk.seq ?_ ?_
    ·exact loops_none (by kernel_rfl)
    ·refine LoopsOk.block ?_
     refine LoopsOk.loop (fun tm H=>?_) (fun k29 tm H r h0=>?_) (fun k29=>?_)
     ·refine none_of fun r h0=>?_
      obtain ⟨bR,gM,eH,dW,hks,e5,e17,e18,e19,h⟩:=ap.lh29_inv (show ap.lh29 F aD [] 0 tm H = some r from h0)
      cases h
     ·obtain ⟨bR,gM,eH,dW,hks,e5,e17,e18,e19,h⟩:=ap.lh29_inv (show ap.lh29 F aD [] (k29 + 1) tm H = some r from h0)
      have q0:(Tm.put tm 5 (.sl bR)) = tm:=by exact Tm.put_same e5
      have q1:(Tm.put (Tm.put tm 5 (.sl bR)) 17 (.sl gM)) = tm:=by rw [q0]; exact Tm.put_same e17
      have q2:(Tm.put (Tm.put (Tm.put tm 5 (.sl bR)) 17 (.sl gM)) 18 (.int .i64 eH)) = tm:=by rw [q1]; exact Tm.put_same e18
      have q3:(Tm.put (Tm.put (Tm.put (Tm.put tm 5 (.sl bR)) 17 (.sl gM)) 18 (.int .i64 eH)) 19 (.int .i64 dW)) = tm:=by rw [q2]; exact Tm.put_same e19
      rw [← q3]
      exact Eq.trans (by kernel_rfl) h
     ·refine LoopsOk.seq ?_ ?_
      ·exact loops_none (by kernel_rfl)
      ·refine LoopsOk.seq ?_ ?_
       ·exact loops_none (by kernel_rfl)
       ·refine LoopsOk.seq ?_ ?_
        ·refine LoopsOk.block ?_
         refine LoopsOk.seq ?_ ?_
         ·exact loops_none (by kernel_rfl)
         ·refine LoopsOk.seq ?_ ?_
          ·exact loops_none (by kernel_rfl)
          ·refine LoopsOk.block ?_
           refine LoopsOk.loop (fun tm H=>?_) (fun k1883 tm H r h0=>?_) (fun k1883=>?_)
           ·refine none_of fun r h0=>?_
            obtain ⟨dZ,eV,de,fK,dV,ed,gL,eG,es,hks,e5,e6,e17,e18,e19,e24,e25,e26,h⟩:=ap.lh1883_inv (show ap.lh1883 F aD [k29] 0 tm H = some r from h0)
            cases h
           ·obtain ⟨dZ,eV,de,fK,dV,ed,gL,eG,es,hks,e5,e6,e17,e18,e19,e24,e25,e26,h⟩:=ap.lh1883_inv (show ap.lh1883 F aD [k29] (k1883 + 1) tm H = some r from h0)
            obtain rfl:dZ = k29:=by simpa [eq_comm] using hks
            have q0:(Tm.put tm 5 (.sl eV)) = tm:=by exact Tm.put_same e5
            have q1:(Tm.put (Tm.put tm 5 (.sl eV)) 6 (.int .i64 de)) = tm:=by rw [q0]; exact Tm.put_same e6
            have q2:(Tm.put (Tm.put (Tm.put tm 5 (.sl eV)) 6 (.int .i64 de)) 17 (.sl fK)) = tm:=by rw [q1]; exact Tm.put_same e17
            have q3:(Tm.put (Tm.put (Tm.put (Tm.put tm 5 (.sl eV)) 6 (.int .i64 de)) 17 (.sl fK)) 18 (.int .i64 dV)) = tm:=by rw [q2]; exact Tm.put_same e18
            have q4:(Tm.put (Tm.put (Tm.put (Tm.put (Tm.put tm 5 (.sl eV)) 6 (.int .i64 de)) 17 (.sl fK)) 18 (.int .i64 dV)) 19 (.int .i64 ed)) = tm:=by rw [q3]; exact Tm.put_same e19
            have q5:(Tm.put (Tm.put (Tm.put (Tm.put (Tm.put (Tm.put tm 5 (.sl eV)) 6 (.int .i64 de)) 17 (.sl fK)) 18 (.int .i64 dV)) 19 (.int .i64 ed)) 24 (.sl gL)) = tm:=by rw [q4]; exact Tm.put_same e24
            have q6:(Tm.put (Tm.put (Tm.put (Tm.put (Tm.put (Tm.put (Tm.put tm 5 (.sl eV)) 6 (.int .i64 de)) 17 (.sl fK)) 18 (.int .i64 dV)) 19 (.int .i64 ed)) 24 (.sl gL)) 25 (.int .i64 eG)) = tm:=by rw [q5]; exact Tm.put_same e25
            have q7:(Tm.put (Tm.put (Tm.put (Tm.put (Tm.put (Tm.put (Tm.put (Tm.put tm 5 (.sl eV)) 6 (.int .i64 de)) 17 (.sl fK)) 18 (.int .i64 dV)) 19 (.int .i64 ed)) 24 (.sl gL)) 25 (.int .i64 eG)) 26 (.int .i64 es)) = tm:=by rw [q6]; exact Tm.put_same e26
            rw [← q7]
            exact Eq.trans (by kernel_rfl) h
           ·exact loops_none (by kernel_rfl)
        ·exact loops_none (by kernel_rfl)
   ·exact loops_none (by kernel_rfl)
theorem ap.eqX (F:Nat) (aD:Sl→Int→Sl→Sl→Hp→OA) (aa:Sl) (ab:Int) (aq:Sl) (bb:Sl) (H:Hp):aCode tabs (mkOrc (ap.cs F aD)) ap.pn (ap.lh F aD) F [] 1 ap.code (argTm [(.agg [(.sl aa),(.int .i64 ab)]),(.agg [(.sl aq),(.sl bb)])]) H (fun tm H=>aresults tabs.ty H tm Try.f127.results.toList fun v=>some (v,H)) (fun _ _ _=>none) (fun tm H=>aresults tabs.ty H tm Try.f127.results.toList fun v=>some (v,H)) = ap.twX F aD aa ab aq bb H:=by kernel_rfl
theorem ap.cs_ok (F:Nat):∀ p ∈ ap.cs F (ai.tw F),∀ args H v H',p.2 args H = some (v,H')→Go.AE.T Try.prog p.1 args H v H':=by
 intro p hp
 simp only [ap.cs,List.mem_cons,List.not_mem_nil,or_false] at hp
 subst hp
 exact fun args H v H' h=>ai.mk_T h
theorem ap.ok:codeOk ap.pn Try.f127.ntmps ap.tb ap.code = true:=by kernel_rfl
theorem ap.T {F:Nat} {aa:Sl} {ab:Int} {aq:Sl} {bb:Sl} {H:Hp} {v:AV} {H':Hp} (h:ap.tw F aa ab aq bb H = some (v,H')):Go.AE.T Try.prog 127 [(.agg [(.sl aa),(.int .i64 ab)]),(.agg [(.sl aq),(.sl bb)])] H v H':=
 Go.AE.T.of (Y:=tabs) (C:=mkOrc (ap.cs F (ai.tw F))) (PN:=ap.pn) (LH:=ap.lh F (ai.tw F)) (F:=F) (TB:=ap.tb) (fn:=Try.f127) (code:=ap.code) mixed tabs_ok (mkOrc_ok (ap.cs_ok F)) Try.func127 (by kernel_rfl) (by kernel_rfl) ap.ok (Nat.le_of_ble_eq_true (by kernel_rfl)) (ap.loops F (ai.tw F)) (Eq.trans (ap.eqX F (ai.tw F) aa ab aq bb H) h)
theorem ap.mk_T {F:Nat} {args:List AV} {H:Hp} {v:AV} {H':Hp} (h:ap.mk (ap.tw F) args H = some (v,H')):Go.AE.T Try.prog 127 args H v H':=by
 unfold ap.mk at h
 split at h
 ·exact ap.T h
 ·cases h
noncomputable def aH.l254 (F:Nat) (g_bits_Mul:Int→Int→Hp→OA) :Nat→Sl→Int→Hp→OA
 | 0,_,_,_=>none
 | tD + 1,cp,cV,H33=>(bif (decide (cV < (cp.n:Int))) then ((Sl.cut cp 1 cV (cp.n:Int)).bind fun s37=>(Sl.cut cp 1 0 cV).bind fun s38=>(Hp.cpy H33 1 s37 s38).bind fun c39=>aH.l254 F g_bits_Mul tD cp (IntKind.i64.wrap (cV + (c39.1:Int))) c39.2) else (some ((.sl cp),H33)))
termination_by structural n=>n
noncomputable def aH.j1 (F:Nat) (g_bits_Mul:Int→Int→Hp→OA) (tE:Sl) (fH:Int) (H21:Hp):OA:=(Hp.mk H21 [.int .i64 0] 8 (IntKind.i64.wrap fH) (IntKind.i64.wrap fH)).bind fun m22=>(Hp.cpy m22.2 1 m22.1 tE).bind fun c23=>aH.l254 F g_bits_Mul F m22.1 (c23.1:Int) c23.2
noncomputable def aH.j2 (F:Nat) (g_bits_Mul:Int→Int→Hp→OA) (lu:Sl) (gj:Int) (H7:Hp):OA:=(g_bits_Mul (IntKind.u64.wrap (lu.n:Int)) (IntKind.u64.wrap gj) H7).bind fun r8=>((r8.1).asTup 2).bind fun l9=>(l9[0]?).bind fun v10=>((v10).asI .u64).bind fun n11=>(l9[1]?).bind fun v12=>((v12).asI .u64).bind fun n13=>(bif (decide (n11 > 0)) then (none) else ((bif (decide (n13 > 9223372036854775807)) then (none) else (aH.j1 F g_bits_Mul lu n13 r8.2))))
noncomputable def aH.twX (F:Nat) (g_bits_Mul:Int→Int→Hp→OA) (aa:Sl) (ae:Int) (H:Hp):OA:=(bif (decide (ae < 0)) then (none) else (aH.j2 F g_bits_Mul aa ae H))
noncomputable def aH.tw (F:Nat) (aa:Sl) (ae:Int) (H:Hp):OA:=aH.twX F (bits_Mul.tw F) aa ae H
noncomputable def aH.code:Go.Code:=(Try.f129.body).getD .skip
noncomputable def aH.lh254 (F:Nat) (g_bits_Mul:Int→Int→Hp→OA) (ks:List Nat) (n:Nat) (tm:Tm) (H:Hp):OA:=match ks,tm 7,tm 8 with
 | [],(.sl cp),(.int .i64 cV)=>aH.l254 F g_bits_Mul n cp cV H
 | _,_,_=>none
theorem aH.lh254_inv {F:Nat} {g_bits_Mul:Int→Int→Hp→OA} {ks:List Nat} {n:Nat} {tm:Tm} {H:Hp} {r:AV×Hp} (h:aH.lh254 F g_bits_Mul ks n tm H = some r):∃ cp:Sl,∃ cV:Int,ks = []∧tm 7 = (.sl cp)∧tm 8 = (.int .i64 cV)∧aH.l254 F g_bits_Mul n cp cV H = some r:=by
 unfold aH.lh254 at h
 split at h
 ·exact ⟨_,_,rfl,by assumption,by assumption,h⟩
 ·cases h
noncomputable def aH.lh (F:Nat) (g_bits_Mul:Int→Int→Hp→OA) (p:Nat) (ks:List Nat) (n:Nat) (tm:Tm) (H:Hp):OA:=bif p.beq 254 then aH.lh254 F g_bits_Mul ks n tm H else (none)
def aH.pn:Nat→List Nat:=fun i=>(([(9,[7])]:List (Nat×List Nat)).lookup i).getD []
def aH.tb:Nat→List (List Nat):=fun i=>(([(9,[[],[],[],[1,2],[],[],[4,5],[1,2,3,4,5,6],[0,1,2,3,4,5,6,7],[0,1,2,3,4,5,6,7,8]])]:List (Nat×List (List Nat))).lookup i).getD []
noncomputable def aH.mk (g:Sl→Int→Hp→OA) (args:List AV) (H:Hp):OA:=match args with
 | [(.sl aa),(.int .i64 ae)]=>g aa ae H
 | _=>none
noncomputable def aH.cs (F:Nat) (g_bits_Mul:Int→Int→Hp→OA):List (FuncId×(List AV→Hp→OA)):=[(158,bits_Mul.mk g_bits_Mul)]
theorem aH.loops (F:Nat) (g_bits_Mul:Int→Int→Hp→OA):LoopsOk tabs (mkOrc (aH.cs F g_bits_Mul)) aH.pn (aH.lh F g_bits_Mul) F [] 1 aH.code (fun tm H=>aresults tabs.ty H tm Try.f129.results.toList fun v=>some (v,H)) (fun _ _ _=>none) (fun tm H=>aresults tabs.ty H tm Try.f129.results.toList fun v=>some (v,H)):=by
 refine LoopsOk.seq ?_ ?_
 ·exact loops_none (by kernel_rfl)
 ·refine LoopsOk.seq ?_ ?_
  ·exact loops_none (by kernel_rfl)
  ·refine LoopsOk.seq ?_ ?_
   ·exact loops_none (by kernel_rfl)
   ·refine LoopsOk.seq ?_ ?_
    ·exact loops_none (by kernel_rfl)
    ·refine LoopsOk.seq ?_ ?_
     ·exact loops_none (by kernel_rfl)
     ·refine LoopsOk.seq ?_ ?_
      ·exact loops_none (by kernel_rfl)
      ·refine LoopsOk.seq ?_ ?_
       ·refine LoopsOk.block ?_
        refine LoopsOk.loop (fun tm H=>?_) (fun k254 tm H r h0=>?_) (fun k254=>?_)
        ·refine none_of fun r h0=>?_
         obtain ⟨cp,cV,hks,e7,e8,h⟩:=aH.lh254_inv (show aH.lh254 F g_bits_Mul [] 0 tm H = some r from h0)
         cases h
        ·obtain ⟨cp,cV,hks,e7,e8,h⟩:=aH.lh254_inv (show aH.lh254 F g_bits_Mul [] (k254 + 1) tm H = some r from h0)
         have q0:(Tm.put tm 7 (.sl cp)) = tm:=by exact Tm.put_same e7
         have q1:(Tm.put (Tm.put tm 7 (.sl cp)) 8 (.int .i64 cV)) = tm:=by rw [q0]; exact Tm.put_same e8
         rw [← q1]
         exact Eq.trans (by kernel_rfl) h
        ·exact loops_none (by kernel_rfl)
       ·exact loops_none (by kernel_rfl)
theorem aH.eqX (F:Nat) (g_bits_Mul:Int→Int→Hp→OA) (aa:Sl) (ae:Int) (H:Hp):aCode tabs (mkOrc (aH.cs F g_bits_Mul)) aH.pn (aH.lh F g_bits_Mul) F [] 1 aH.code (argTm [(.sl aa),(.int .i64 ae)]) H (fun tm H=>aresults tabs.ty H tm Try.f129.results.toList fun v=>some (v,H)) (fun _ _ _=>none) (fun tm H=>aresults tabs.ty H tm Try.f129.results.toList fun v=>some (v,H)) = aH.twX F g_bits_Mul aa ae H:=by kernel_rfl
theorem aH.cs_ok (F:Nat):∀ p ∈ aH.cs F (bits_Mul.tw F),∀ args H v H',p.2 args H = some (v,H')→Go.AE.T Try.prog p.1 args H v H':=by
 intro p hp
 simp only [aH.cs,List.mem_cons,List.not_mem_nil,or_false] at hp
 subst hp
 exact fun args H v H' h=>bits_Mul.mk_T h
theorem aH.ok:codeOk aH.pn Try.f129.ntmps aH.tb aH.code = true:=by kernel_rfl
theorem aH.T {F:Nat} {aa:Sl} {ae:Int} {H:Hp} {v:AV} {H':Hp} (h:aH.tw F aa ae H = some (v,H')):Go.AE.T Try.prog 129 [(.sl aa),(.int .i64 ae)] H v H':=
 Go.AE.T.of (Y:=tabs) (C:=mkOrc (aH.cs F (bits_Mul.tw F))) (PN:=aH.pn) (LH:=aH.lh F (bits_Mul.tw F)) (F:=F) (TB:=aH.tb) (fn:=Try.f129) (code:=aH.code) mixed tabs_ok (mkOrc_ok (aH.cs_ok F)) Try.func129 (by kernel_rfl) (by kernel_rfl) aH.ok (Nat.le_of_ble_eq_true (by kernel_rfl)) (aH.loops F (bits_Mul.tw F)) (Eq.trans (aH.eqX F (bits_Mul.tw F) aa ae H) h)
theorem aH.mk_T {F:Nat} {args:List AV} {H:Hp} {v:AV} {H':Hp} (h:aH.mk (aH.tw F) args H = some (v,H')):Go.AE.T Try.prog 129 args H v H':=by
 unfold aH.mk at h
 split at h
 ·exact aH.T h
 ·cases h
noncomputable def ag.j7 (F:Nat) (bK:Sl→Int→Sl→Sl→Hp→OA) (bm:Sl→Int→Sl→Sl→Hp→OA) (aD:Sl→Int→Sl→Sl→Hp→OA) (bL:Sl→Int→Hp→OA) (bn:Sl→Hp→OA) (C509_:Sl→Sl→Int→Int→Hp→OA) (DY:Sl) (DZ:Sl) (kS:Int) (kT:Int) (H363:Hp):OA:=C509_ DY DZ kS (IntKind.i64.wrap (kT + 1)) H363
noncomputable def ag.j8 (F:Nat) (bK:Sl→Int→Sl→Sl→Hp→OA) (bm:Sl→Int→Sl→Sl→Hp→OA) (aD:Sl→Int→Sl→Sl→Hp→OA) (bL:Sl→Int→Hp→OA) (bn:Sl→Hp→OA) (C509_:Sl→Sl→Int→Int→Hp→OA) (D_:Sl) (Ea:Sl) (kU:Int) (kV:Int) (H339:Hp):OA:=ag.j7 F bK bm aD bL bn C509_ D_ Ea kU kV H339
noncomputable def ag.j9 (F:Nat) (bK:Sl→Int→Sl→Sl→Hp→OA) (bm:Sl→Int→Sl→Sl→Hp→OA) (aD:Sl→Int→Sl→Sl→Hp→OA) (bL:Sl→Int→Hp→OA) (bn:Sl→Hp→OA) (C16301_:Sl→Sl→Int→Int→Int→Int→Hp→OA) (Ec:Sl) (Ed:Sl) (kW:Int) (kX:Int) (kY:Int) (kZ:Int) (H398:Hp):OA:=C16301_ Ec Ed kW kX kY (IntKind.i64.wrap (kZ + 1)) H398
noncomputable def ag.l16301 (F:Nat) (bK:Sl→Int→Sl→Sl→Hp→OA) (bm:Sl→Int→Sl→Sl→Hp→OA) (aD:Sl→Int→Sl→Sl→Hp→OA) (bL:Sl→Int→Hp→OA) (bn:Sl→Hp→OA) (C509_:Sl→Sl→Int→Int→Hp→OA):Nat→Sl→Sl→Int→Int→Int→Int→Hp→OA
 | 0,_,_,_,_,_,_,_=>none
 | wi + 1,eW,fk,dt,dX,ee,cG,H280=>(bif (decide (cG < ee)) then ((Sl.idx eW cG 1).bind fun p364=>(Hp.ldI H280 .i64 p364.1 p364.2).bind fun n365=>(Sl.idx fk n365 1).bind fun p366=>(Hp.ldI H280 .i64 p366.1 p366.2).bind fun n367=>(bif (decide (n367 ≥ 0)) then ((Sl.idx eW (IntKind.i64.wrap ((IntKind.i64.wrap (cG - (Int.tmod cG 4))) + (Int.tmod (IntKind.i64.wrap (cG + 1)) 4))) 1).bind fun p368=>(Hp.ldI H280 .i64 p368.1 p368.2).bind fun n369=>(Sl.idx fk n369 1).bind fun p370=>(Hp.st H280 p370.1 p370.2 (.int .i64 (IntKind.i64.wrap (1 - n367)))).bind fun H371=>ag.j9 F bK bm aD bL bn (ag.l16301 F bK bm aD bL bn C509_ wi) eW fk dt dX ee cG H371) else (ag.j9 F bK bm aD bL bn (ag.l16301 F bK bm aD bL bn C509_ wi) eW fk dt dX ee cG H280))) else (ag.j8 F bK bm aD bL bn C509_ eW fk dt dX H280))
termination_by structural n=>n
noncomputable def ag.l509 (F:Nat) (bK:Sl→Int→Sl→Sl→Hp→OA) (bm:Sl→Int→Sl→Sl→Hp→OA) (aD:Sl→Int→Sl→Sl→Hp→OA) (bL:Sl→Int→Hp→OA) (bn:Sl→Hp→OA) :Nat→Sl→Sl→Int→Int→Hp→OA
 | 0,_,_,_,_,_=>none
 | ev + 1,gq,gN,eI,eX,H116=>(bif (decide (eX < eI)) then (ag.l16301 F bK bm aD bL bn (ag.l509 F bK bm aD bL bn ev) F gq gN eI eX (gq.n:Int) 0 H116) else (some ((.sl gN),H116)))
termination_by structural n=>n
noncomputable def ag.j10 (F:Nat) (bK:Sl→Int→Sl→Sl→Hp→OA) (bm:Sl→Int→Sl→Sl→Hp→OA) (aD:Sl→Int→Sl→Sl→Hp→OA) (bL:Sl→Int→Hp→OA) (bn:Sl→Hp→OA) (Ee:Sl) (wj:Sl) (H96:Hp):OA:=ag.l509 F bK bm aD bL bn F Ee wj (wj.n:Int) 0 H96
noncomputable def ag.j11 (F:Nat) (bK:Sl→Int→Sl→Sl→Hp→OA) (bm:Sl→Int→Sl→Sl→Hp→OA) (aD:Sl→Int→Sl→Sl→Hp→OA) (bL:Sl→Int→Hp→OA) (bn:Sl→Hp→OA) (C253_:Sl→Sl→Sl→Sl→Int→Int→Hp→OA) (Ef:Sl) (Eg:Sl) (Eh:Sl) (Ei:Sl) (k_:Int) (la:Int) (H429:Hp):OA:=C253_ Ef Eg Eh Ei k_ (IntKind.i64.wrap (la + 1)) H429
noncomputable def ag.l253 (F:Nat) (bK:Sl→Int→Sl→Sl→Hp→OA) (bm:Sl→Int→Sl→Sl→Hp→OA) (aD:Sl→Int→Sl→Sl→Hp→OA) (bL:Sl→Int→Hp→OA) (bn:Sl→Hp→OA) :Nat→Sl→Sl→Sl→Sl→Int→Int→Hp→OA
 | 0,_,_,_,_,_,_,_=>none
 | lr + 1,fl,fB,fL,gu,ef,df,H47=>(bif (decide (df < ef)) then ((Sl.idx gu df 1).bind fun p399=>(Hp.ldI H47 .i64 p399.1 p399.2).bind fun n400=>(Sl.idx fL n400 1).bind fun p401=>(Hp.ldB H47 p401.1 p401.2).bind fun b402=>(bif (!b402) then ((Sl.idx fL n400 1).bind fun p403=>(Hp.st H47 p403.1 p403.2 (.bool true)).bind fun H404=>(Sl.idx fl (IntKind.i64.wrap (4 * df)) 1).bind fun p405=>(Hp.ldI H404 .i64 p405.1 p405.2).bind fun n406=>(Sl.idx fB n406 1).bind fun p407=>(Hp.st H404 p407.1 p407.2 (.int .i64 0)).bind fun H408=>ag.j11 F bK bm aD bL bn (ag.l253 F bK bm aD bL bn lr) fl fB fL gu ef df H408) else (ag.j11 F bK bm aD bL bn (ag.l253 F bK bm aD bL bn lr) fl fB fL gu ef df H47))) else (ag.j10 F bK bm aD bL bn fl fB H47))
termination_by structural n=>n
noncomputable def ag.twX (F:Nat) (bK:Sl→Int→Sl→Sl→Hp→OA) (bm:Sl→Int→Sl→Sl→Hp→OA) (aD:Sl→Int→Sl→Sl→Hp→OA) (bL:Sl→Int→Hp→OA) (bn:Sl→Hp→OA) (aa:Sl) (ab:Int) (aq:Sl) (bb:Sl) (H:Hp):OA:=(Hp.new H [(.sl aa),(.int .i64 ab)]).bind fun H5=>(Hp.new H5 [(.sl aq),(.sl bb)]).bind fun H6=>(Hp.ldSl H6 H.length 0).bind fun s7=>(Hp.ldI H6 .i64 H.length (0 + 1)).bind fun n8=>(Hp.ldSl H6 H5.length 0).bind fun s9=>(Hp.ldSl H6 H5.length (0 + 1)).bind fun s10=>(bK s7 n8 s9 s10 H6).bind fun r11=>((r11.1).asSl).bind fun s12=>(Hp.ldSl r11.2 H.length 0).bind fun s13=>(Hp.ldI r11.2 .i64 H.length (0 + 1)).bind fun n14=>(Hp.ldSl r11.2 H5.length 0).bind fun s15=>(Hp.ldSl r11.2 H5.length (0 + 1)).bind fun s16=>(bm s13 n14 s15 s16 r11.2).bind fun r17=>((r17.1).asSl).bind fun s18=>(Hp.new r17.2 [(.int .i64 (-1))]).bind fun H19=>(Hp.ldSl H19 H.length 0).bind fun s20=>(Hp.ldI H19 .i64 H.length (0 + 1)).bind fun n21=>(Hp.ldSl H19 H5.length 0).bind fun s22=>(Hp.ldSl H19 H5.length (0 + 1)).bind fun s23=>(aD s20 n21 s22 s23 H19).bind fun r24=>((r24.1).asSl).bind fun s25=>(bL (⟨some (r17.2.length,0),1,.ex 1⟩:Sl) (s25.n:Int) r24.2).bind fun r26=>((r26.1).asSl).bind fun s27=>(bn s18 r26.2).bind fun r28=>((r28.1).asI .i64).bind fun n29=>(Hp.mk r28.2 [.bool false] 1 n29 n29).bind fun m30=>ag.l253 F bK bm aD bL bn F s12 s27 m30.1 s18 (s18.n:Int) 0 m30.2
noncomputable def ag.tw (F:Nat) (aa:Sl) (ab:Int) (aq:Sl) (bb:Sl) (H:Hp):OA:=ag.twX F (ap.tw F) (aE.tw F) (ai.tw F) (aH.tw F) (bc.tw F) aa ab aq bb H
noncomputable def ag.code:Go.Code:=(Try.f73.body).getD .skip
noncomputable def ag.lh253 (F:Nat) (bK:Sl→Int→Sl→Sl→Hp→OA) (bm:Sl→Int→Sl→Sl→Hp→OA) (aD:Sl→Int→Sl→Sl→Hp→OA) (bL:Sl→Int→Hp→OA) (bn:Sl→Hp→OA) (ks:List Nat) (n:Nat) (tm:Tm) (H:Hp):OA:=match ks,tm 5,tm 7,tm 8,tm 28,tm 29,tm 30 with
 | [],(.sl fl),(.sl fB),(.sl fL),(.sl gu),(.int .i64 ef),(.int .i64 df)=>ag.l253 F bK bm aD bL bn n fl fB fL gu ef df H
 | _,_,_,_,_,_,_=>none
theorem ag.lh253_inv {F:Nat} {bK:Sl→Int→Sl→Sl→Hp→OA} {bm:Sl→Int→Sl→Sl→Hp→OA} {aD:Sl→Int→Sl→Sl→Hp→OA} {bL:Sl→Int→Hp→OA} {bn:Sl→Hp→OA} {ks:List Nat} {n:Nat} {tm:Tm} {H:Hp} {r:AV×Hp} (h:ag.lh253 F bK bm aD bL bn ks n tm H = some r):∃ fl:Sl,∃ fB:Sl,∃ fL:Sl,∃ gu:Sl,∃ ef:Int,∃ df:Int,ks = []∧tm 5 = (.sl fl)∧tm 7 = (.sl fB)∧tm 8 = (.sl fL)∧tm 28 = (.sl gu)∧tm 29 = (.int .i64 ef)∧tm 30 = (.int .i64 df)∧ag.l253 F bK bm aD bL bn n fl fB fL gu ef df H = some r:=by
 unfold ag.lh253 at h
 split at h
 ·exact ⟨_,_,_,_,_,_,rfl,by assumption,by assumption,by assumption,by assumption,by assumption,by assumption,h⟩
 ·cases h
noncomputable def ag.lh509 (F:Nat) (bK:Sl→Int→Sl→Sl→Hp→OA) (bm:Sl→Int→Sl→Sl→Hp→OA) (aD:Sl→Int→Sl→Sl→Hp→OA) (bL:Sl→Int→Hp→OA) (bn:Sl→Hp→OA) (ks:List Nat) (n:Nat) (tm:Tm) (H:Hp):OA:=match ks,tm 5,tm 7,tm 52,tm 53 with
 | [],(.sl gq),(.sl gN),(.int .i64 eI),(.int .i64 eX)=>ag.l509 F bK bm aD bL bn n gq gN eI eX H
 | _,_,_,_,_=>none
theorem ag.lh509_inv {F:Nat} {bK:Sl→Int→Sl→Sl→Hp→OA} {bm:Sl→Int→Sl→Sl→Hp→OA} {aD:Sl→Int→Sl→Sl→Hp→OA} {bL:Sl→Int→Hp→OA} {bn:Sl→Hp→OA} {ks:List Nat} {n:Nat} {tm:Tm} {H:Hp} {r:AV×Hp} (h:ag.lh509 F bK bm aD bL bn ks n tm H = some r):∃ gq:Sl,∃ gN:Sl,∃ eI:Int,∃ eX:Int,ks = []∧tm 5 = (.sl gq)∧tm 7 = (.sl gN)∧tm 52 = (.int .i64 eI)∧tm 53 = (.int .i64 eX)∧ag.l509 F bK bm aD bL bn n gq gN eI eX H = some r:=by
 unfold ag.lh509 at h
 split at h
 ·exact ⟨_,_,_,_,rfl,by assumption,by assumption,by assumption,by assumption,h⟩
 ·cases h
noncomputable def ag.lh16301 (F:Nat) (bK:Sl→Int→Sl→Sl→Hp→OA) (bm:Sl→Int→Sl→Sl→Hp→OA) (aD:Sl→Int→Sl→Sl→Hp→OA) (bL:Sl→Int→Hp→OA) (bn:Sl→Hp→OA) (ks:List Nat) (n:Nat) (tm:Tm) (H:Hp):OA:=match ks,tm 5,tm 7,tm 52,tm 53,tm 56,tm 57 with
 | [ev],(.sl eW),(.sl fk),(.int .i64 dt),(.int .i64 dX),(.int .i64 ee),(.int .i64 cG)=>ag.l16301 F bK bm aD bL bn (ag.l509 F bK bm aD bL bn ev) n eW fk dt dX ee cG H
 | _,_,_,_,_,_,_=>none
theorem ag.lh16301_inv {F:Nat} {bK:Sl→Int→Sl→Sl→Hp→OA} {bm:Sl→Int→Sl→Sl→Hp→OA} {aD:Sl→Int→Sl→Sl→Hp→OA} {bL:Sl→Int→Hp→OA} {bn:Sl→Hp→OA} {ks:List Nat} {n:Nat} {tm:Tm} {H:Hp} {r:AV×Hp} (h:ag.lh16301 F bK bm aD bL bn ks n tm H = some r):∃ ev:Nat,∃ eW:Sl,∃ fk:Sl,∃ dt:Int,∃ dX:Int,∃ ee:Int,∃ cG:Int,ks = [ev]∧tm 5 = (.sl eW)∧tm 7 = (.sl fk)∧tm 52 = (.int .i64 dt)∧tm 53 = (.int .i64 dX)∧tm 56 = (.int .i64 ee)∧tm 57 = (.int .i64 cG)∧ag.l16301 F bK bm aD bL bn (ag.l509 F bK bm aD bL bn ev) n eW fk dt dX ee cG H = some r:=by
 unfold ag.lh16301 at h
 split at h
 ·exact ⟨_,_,_,_,_,_,_,rfl,by assumption,by assumption,by assumption,by assumption,by assumption,by assumption,h⟩
 ·cases h
noncomputable def ag.lh (F:Nat) (bK:Sl→Int→Sl→Sl→Hp→OA) (bm:Sl→Int→Sl→Sl→Hp→OA) (aD:Sl→Int→Sl→Sl→Hp→OA) (bL:Sl→Int→Hp→OA) (bn:Sl→Hp→OA) (p:Nat) (ks:List Nat) (n:Nat) (tm:Tm) (H:Hp):OA:=bif p.beq 16301 then ag.lh16301 F bK bm aD bL bn ks n tm H else (bif p.beq 509 then ag.lh509 F bK bm aD bL bn ks n tm H else (bif p.beq 253 then ag.lh253 F bK bm aD bL bn ks n tm H else (none)))
def ag.pn:Nat→List Nat:=fun i=>(([]:List (Nat×List Nat)).lookup i).getD []
def ag.tb:Nat→List (List Nat):=fun i=>(([]:List (Nat×List (List Nat))).lookup i).getD []
noncomputable def ag.mk (g:Sl→Int→Sl→Sl→Hp→OA) (args:List AV) (H:Hp):OA:=match args with
 | [(.agg [(.sl aa),(.int .i64 ab)]),(.agg [(.sl aq),(.sl bb)])]=>g aa ab aq bb H
 | _=>none
noncomputable def ag.cs (F:Nat) (bK:Sl→Int→Sl→Sl→Hp→OA) (bm:Sl→Int→Sl→Sl→Hp→OA) (aD:Sl→Int→Sl→Sl→Hp→OA) (bL:Sl→Int→Hp→OA) (bn:Sl→Hp→OA):List (FuncId×(List AV→Hp→OA)):=[(127,ap.mk bK),(126,aE.mk bm),(103,ai.mk aD),(129,aH.mk bL),(120,bc.mk bn)]
theorem ag.loops (F:Nat) (bK:Sl→Int→Sl→Sl→Hp→OA) (bm:Sl→Int→Sl→Sl→Hp→OA) (aD:Sl→Int→Sl→Sl→Hp→OA) (bL:Sl→Int→Hp→OA) (bn:Sl→Hp→OA):LoopsOk tabs (mkOrc (ag.cs F bK bm aD bL bn)) ag.pn (ag.lh F bK bm aD bL bn) F [] 1 ag.code (fun tm H=>aresults tabs.ty H tm Try.f73.results.toList fun v=>some (v,H)) (fun _ _ _=>none) (fun tm H=>aresults tabs.ty H tm Try.f73.results.toList fun v=>some (v,H)):=by
 refine LoopsOk.seq ?_ ?_
 ·exact loops_none (by kernel_rfl)
 ·refine LoopsOk.seq ?_ ?_
  ·exact loops_none (by kernel_rfl)
  ·refine LoopsOk.seq ?_ ?_
   ·exact loops_none (by kernel_rfl)
   ·refine LoopsOk.seq ?_ ?_
    ·exact loops_none (by kernel_rfl)
    ·refine LoopsOk.seq ?_ ?_
     ·exact loops_none (by kernel_rfl)
     ·refine LoopsOk.seq ?_ ?_
      ·refine LoopsOk.seq ?_ ?_
       ·exact loops_none (by kernel_rfl)
       ·refine LoopsOk.block ?_
        refine LoopsOk.loop (fun tm H=>?_) (fun k253 tm H r h0=>?_) (fun k253=>?_)
        ·refine none_of fun r h0=>?_
         obtain ⟨fl,fB,fL,gu,ef,df,hks,e5,e7,e8,e28,e29,e30,h⟩:=ag.lh253_inv (show ag.lh253 F bK bm aD bL bn [] 0 tm H = some r from h0)
         cases h
        ·obtain ⟨fl,fB,fL,gu,ef,df,hks,e5,e7,e8,e28,e29,e30,h⟩:=ag.lh253_inv (show ag.lh253 F bK bm aD bL bn [] (k253 + 1) tm H = some r from h0)
         have q0:(Tm.put tm 5 (.sl fl)) = tm:=by exact Tm.put_same e5
         have q1:(Tm.put (Tm.put tm 5 (.sl fl)) 7 (.sl fB)) = tm:=by rw [q0]; exact Tm.put_same e7
         have q2:(Tm.put (Tm.put (Tm.put tm 5 (.sl fl)) 7 (.sl fB)) 8 (.sl fL)) = tm:=by rw [q1]; exact Tm.put_same e8
         have q3:(Tm.put (Tm.put (Tm.put (Tm.put tm 5 (.sl fl)) 7 (.sl fB)) 8 (.sl fL)) 28 (.sl gu)) = tm:=by rw [q2]; exact Tm.put_same e28
         have q4:(Tm.put (Tm.put (Tm.put (Tm.put (Tm.put tm 5 (.sl fl)) 7 (.sl fB)) 8 (.sl fL)) 28 (.sl gu)) 29 (.int .i64 ef)) = tm:=by rw [q3]; exact Tm.put_same e29
         have q5:(Tm.put (Tm.put (Tm.put (Tm.put (Tm.put (Tm.put tm 5 (.sl fl)) 7 (.sl fB)) 8 (.sl fL)) 28 (.sl gu)) 29 (.int .i64 ef)) 30 (.int .i64 df)) = tm:=by rw [q4]; exact Tm.put_same e30
         rw [← q5]
         exact Eq.trans (by kernel_rfl) h
        ·exact loops_none (by kernel_rfl)
      ·refine LoopsOk.seq ?_ ?_
       ·refine LoopsOk.seq ?_ ?_
        ·exact loops_none (by kernel_rfl)
        ·refine LoopsOk.block ?_
         refine LoopsOk.loop (fun tm H=>?_) (fun k509 tm H r h0=>?_) (fun k509=>?_)
         ·refine none_of fun r h0=>?_
          obtain ⟨gq,gN,eI,eX,hks,e5,e7,e52,e53,h⟩:=ag.lh509_inv (show ag.lh509 F bK bm aD bL bn [] 0 tm H = some r from h0)
          cases h
         ·obtain ⟨gq,gN,eI,eX,hks,e5,e7,e52,e53,h⟩:=ag.lh509_inv (show ag.lh509 F bK bm aD bL bn [] (k509 + 1) tm H = some r from h0)
          have q0:(Tm.put tm 5 (.sl gq)) = tm:=by exact Tm.put_same e5
          have q1:(Tm.put (Tm.put tm 5 (.sl gq)) 7 (.sl gN)) = tm:=by rw [q0]; exact Tm.put_same e7
          have q2:(Tm.put (Tm.put (Tm.put tm 5 (.sl gq)) 7 (.sl gN)) 52 (.int .i64 eI)) = tm:=by rw [q1]; exact Tm.put_same e52
          have q3:(Tm.put (Tm.put (Tm.put (Tm.put tm 5 (.sl gq)) 7 (.sl gN)) 52 (.int .i64 eI)) 53 (.int .i64 eX)) = tm:=by rw [q2]; exact Tm.put_same e53
          rw [← q3]
          exact Eq.trans (by kernel_rfl) h
         ·refine LoopsOk.seq ?_ ?_
          ·exact loops_none (by kernel_rfl)
          ·refine LoopsOk.seq ?_ ?_
           ·exact loops_none (by kernel_rfl)
           ·refine LoopsOk.seq ?_ ?_
            ·refine LoopsOk.block ?_
             refine LoopsOk.seq ?_ ?_
             ·exact loops_none (by kernel_rfl)
             ·refine LoopsOk.block ?_
              refine LoopsOk.loop (fun tm H=>?_) (fun k16301 tm H r h0=>?_) (fun k16301=>?_)
              ·refine none_of fun r h0=>?_
               obtain ⟨ev,eW,fk,dt,dX,ee,cG,hks,e5,e7,e52,e53,e56,e57,h⟩:=ag.lh16301_inv (show ag.lh16301 F bK bm aD bL bn [k509] 0 tm H = some r from h0)
               cases h
              ·obtain ⟨ev,eW,fk,dt,dX,ee,cG,hks,e5,e7,e52,e53,e56,e57,h⟩:=ag.lh16301_inv (show ag.lh16301 F bK bm aD bL bn [k509] (k16301 + 1) tm H = some r from h0)
               obtain rfl:ev = k509:=by simpa [eq_comm] using hks
               have q0:(Tm.put tm 5 (.sl eW)) = tm:=by exact Tm.put_same e5
               have q1:(Tm.put (Tm.put tm 5 (.sl eW)) 7 (.sl fk)) = tm:=by rw [q0]; exact Tm.put_same e7
               have q2:(Tm.put (Tm.put (Tm.put tm 5 (.sl eW)) 7 (.sl fk)) 52 (.int .i64 dt)) = tm:=by rw [q1]; exact Tm.put_same e52
               have q3:(Tm.put (Tm.put (Tm.put (Tm.put tm 5 (.sl eW)) 7 (.sl fk)) 52 (.int .i64 dt)) 53 (.int .i64 dX)) = tm:=by rw [q2]; exact Tm.put_same e53
               have q4:(Tm.put (Tm.put (Tm.put (Tm.put (Tm.put tm 5 (.sl eW)) 7 (.sl fk)) 52 (.int .i64 dt)) 53 (.int .i64 dX)) 56 (.int .i64 ee)) = tm:=by rw [q3]; exact Tm.put_same e56
               have q5:(Tm.put (Tm.put (Tm.put (Tm.put (Tm.put (Tm.put tm 5 (.sl eW)) 7 (.sl fk)) 52 (.int .i64 dt)) 53 (.int .i64 dX)) 56 (.int .i64 ee)) 57 (.int .i64 cG)) = tm:=by rw [q4]; exact Tm.put_same e57
               rw [← q5]
               exact Eq.trans (by kernel_rfl) h
              ·exact loops_none (by kernel_rfl)
            ·exact loops_none (by kernel_rfl)
       ·exact loops_none (by kernel_rfl)
theorem ag.eqX (F:Nat) (bK:Sl→Int→Sl→Sl→Hp→OA) (bm:Sl→Int→Sl→Sl→Hp→OA) (aD:Sl→Int→Sl→Sl→Hp→OA) (bL:Sl→Int→Hp→OA) (bn:Sl→Hp→OA) (aa:Sl) (ab:Int) (aq:Sl) (bb:Sl) (H:Hp):aCode tabs (mkOrc (ag.cs F bK bm aD bL bn)) ag.pn (ag.lh F bK bm aD bL bn) F [] 1 ag.code (argTm [(.agg [(.sl aa),(.int .i64 ab)]),(.agg [(.sl aq),(.sl bb)])]) H (fun tm H=>aresults tabs.ty H tm Try.f73.results.toList fun v=>some (v,H)) (fun _ _ _=>none) (fun tm H=>aresults tabs.ty H tm Try.f73.results.toList fun v=>some (v,H)) = ag.twX F bK bm aD bL bn aa ab aq bb H:=by kernel_rfl
theorem ag.cs_ok (F:Nat):∀ p ∈ ag.cs F (ap.tw F) (aE.tw F) (ai.tw F) (aH.tw F) (bc.tw F),∀ args H v H',p.2 args H = some (v,H')→Go.AE.T Try.prog p.1 args H v H':=by
 intro p hp
 simp only [ag.cs,List.mem_cons,List.not_mem_nil,or_false] at hp
 rcases hp with rfl | rfl | rfl | rfl | rfl
 ·exact fun args H v H' h=>ap.mk_T h
 ·exact fun args H v H' h=>aE.mk_T h
 ·exact fun args H v H' h=>ai.mk_T h
 ·exact fun args H v H' h=>aH.mk_T h
 ·exact fun args H v H' h=>bc.mk_T h
theorem ag.ok:codeOk ag.pn Try.f73.ntmps ag.tb ag.code = true:=by kernel_rfl
theorem ag.T {F:Nat} {aa:Sl} {ab:Int} {aq:Sl} {bb:Sl} {H:Hp} {v:AV} {H':Hp} (h:ag.tw F aa ab aq bb H = some (v,H')):Go.AE.T Try.prog 73 [(.agg [(.sl aa),(.int .i64 ab)]),(.agg [(.sl aq),(.sl bb)])] H v H':=
 Go.AE.T.of (Y:=tabs) (C:=mkOrc (ag.cs F (ap.tw F) (aE.tw F) (ai.tw F) (aH.tw F) (bc.tw F))) (PN:=ag.pn) (LH:=ag.lh F (ap.tw F) (aE.tw F) (ai.tw F) (aH.tw F) (bc.tw F)) (F:=F) (TB:=ag.tb) (fn:=Try.f73) (code:=ag.code) mixed tabs_ok (mkOrc_ok (ag.cs_ok F)) Try.func73 (by kernel_rfl) (by kernel_rfl) ag.ok (Nat.le_of_ble_eq_true (by kernel_rfl)) (ag.loops F (ap.tw F) (aE.tw F) (ai.tw F) (aH.tw F) (bc.tw F)) (Eq.trans (ag.eqX F (ap.tw F) (aE.tw F) (ai.tw F) (aH.tw F) (bc.tw F) aa ab aq bb H) h)
theorem ag.mk_T {F:Nat} {args:List AV} {H:Hp} {v:AV} {H':Hp} (h:ag.mk (ag.tw F) args H = some (v,H')):Go.AE.T Try.prog 73 args H v H':=by
 unfold ag.mk at h
 split at h
 ·exact ag.T h
 ·cases h
noncomputable def bx.twX (F:Nat) (hM:Sl→Int→Hp→OA) (hO:Sl→Int→Sl→Sl→Hp→OA) (aa:Sl) (ab:Int) (H:Hp):OA:=(Hp.new H [(.sl aa),(.int .i64 ab)]).bind fun H3=>(Hp.ldSl H3 H.length 0).bind fun s4=>(Hp.ldI H3 .i64 H.length (0 + 1)).bind fun n5=>(hM s4 n5 H3).bind fun r6=>((r6.1).asTup 2).bind fun l7=>(l7[0]?).bind fun v8=>((v8).asAgg 2).bind fun l9=>(l9[0]?).bind fun v10=>((v10).asSl).bind fun s11=>(l9[1]?).bind fun v12=>((v12).asSl).bind fun s13=>(l7[1]?).bind fun v14=>((v14).asB).bind fun b15=>(Hp.new r6.2 [.sl ⟨none,0,.ex 0⟩,.sl ⟨none,0,.ex 0⟩]).bind fun H16=>(Hp.st H16 r6.2.length 0 (.sl s11)).bind fun H17=>(Hp.st H17 r6.2.length (0 + 1) (.sl s13)).bind fun H18=>(bif (!b15) then (some ((.tup [(.sl (⟨none,0,.ex 0⟩:Sl)),(.bool false)]),H18)) else ((Hp.ldSl H18 H.length 0).bind fun s19=>(Hp.ldI H18 .i64 H.length (0 + 1)).bind fun n20=>(Hp.ldSl H18 r6.2.length 0).bind fun s21=>(Hp.ldSl H18 r6.2.length (0 + 1)).bind fun s22=>(hO s19 n20 s21 s22 H18).bind fun r23=>((r23.1).asSl).bind fun s24=>some ((.tup [(.sl s24),(.bool true)]),r23.2)))
noncomputable def bx.tw (F:Nat) (aa:Sl) (ab:Int) (H:Hp):OA:=bx.twX F (bs.tw F) (ag.tw F) aa ab H
noncomputable def bx.code:Go.Code:=(Try.f27.body).getD .skip
noncomputable def bx.lh (F:Nat) (hM:Sl→Int→Hp→OA) (hO:Sl→Int→Sl→Sl→Hp→OA) (p:Nat) (ks:List Nat) (n:Nat) (tm:Tm) (H:Hp):OA:=none
def bx.pn:Nat→List Nat:=fun i=>(([]:List (Nat×List Nat)).lookup i).getD []
def bx.tb:Nat→List (List Nat):=fun i=>(([]:List (Nat×List (List Nat))).lookup i).getD []
noncomputable def bx.mk (g:Sl→Int→Hp→OA) (args:List AV) (H:Hp):OA:=match args with
 | [(.agg [(.sl aa),(.int .i64 ab)])]=>g aa ab H
 | _=>none
noncomputable def bx.cs (F:Nat) (hM:Sl→Int→Hp→OA) (hO:Sl→Int→Sl→Sl→Hp→OA):List (FuncId×(List AV→Hp→OA)):=[(69,bs.mk hM),(73,ag.mk hO)]
theorem bx.loops (F:Nat) (hM:Sl→Int→Hp→OA) (hO:Sl→Int→Sl→Sl→Hp→OA):LoopsOk tabs (mkOrc (bx.cs F hM hO)) bx.pn (bx.lh F hM hO) F [] 1 bx.code (fun tm H=>aresults tabs.ty H tm Try.f27.results.toList fun v=>some (v,H)) (fun _ _ _=>none) (fun tm H=>aresults tabs.ty H tm Try.f27.results.toList fun v=>some (v,H)):=by
 exact loops_none (by kernel_rfl)
theorem bx.eqX (F:Nat) (hM:Sl→Int→Hp→OA) (hO:Sl→Int→Sl→Sl→Hp→OA) (aa:Sl) (ab:Int) (H:Hp):aCode tabs (mkOrc (bx.cs F hM hO)) bx.pn (bx.lh F hM hO) F [] 1 bx.code (argTm [(.agg [(.sl aa),(.int .i64 ab)])]) H (fun tm H=>aresults tabs.ty H tm Try.f27.results.toList fun v=>some (v,H)) (fun _ _ _=>none) (fun tm H=>aresults tabs.ty H tm Try.f27.results.toList fun v=>some (v,H)) = bx.twX F hM hO aa ab H:=by kernel_rfl
theorem bx.cs_ok (F:Nat):∀ p ∈ bx.cs F (bs.tw F) (ag.tw F),∀ args H v H',p.2 args H = some (v,H')→Go.AE.T Try.prog p.1 args H v H':=by
 intro p hp
 simp only [bx.cs,List.mem_cons,List.not_mem_nil,or_false] at hp
 rcases hp with rfl | rfl
 ·exact fun args H v H' h=>bs.mk_T h
 ·exact fun args H v H' h=>ag.mk_T h
theorem bx.ok:codeOk bx.pn Try.f27.ntmps bx.tb bx.code = true:=by kernel_rfl
theorem bx.T {F:Nat} {aa:Sl} {ab:Int} {H:Hp} {v:AV} {H':Hp} (h:bx.tw F aa ab H = some (v,H')):Go.AE.T Try.prog 27 [(.agg [(.sl aa),(.int .i64 ab)])] H v H':=
 Go.AE.T.of (Y:=tabs) (C:=mkOrc (bx.cs F (bs.tw F) (ag.tw F))) (PN:=bx.pn) (LH:=bx.lh F (bs.tw F) (ag.tw F)) (F:=F) (TB:=bx.tb) (fn:=Try.f27) (code:=bx.code) mixed tabs_ok (mkOrc_ok (bx.cs_ok F)) Try.func27 (by kernel_rfl) (by kernel_rfl) bx.ok (Nat.le_of_ble_eq_true (by kernel_rfl)) (bx.loops F (bs.tw F) (ag.tw F)) (Eq.trans (bx.eqX F (bs.tw F) (ag.tw F) aa ab H) h)
theorem bx.mk_T {F:Nat} {args:List AV} {H:Hp} {v:AV} {H':Hp} (h:bx.mk (bx.tw F) args H = some (v,H')):Go.AE.T Try.prog 27 args H v H':=by
 unfold bx.mk at h
 split at h
 ·exact bx.T h
 ·cases h
noncomputable def aM.l29 (F:Nat) :Nat→Sl→Sl→Int→Hp→OA
 | 0,_,_,_,_=>none
 | dZ + 1,aZ,aK,bS,H8=>(bif (decide (bS < (aZ.n:Int))) then ((Sl.idx aZ bS 1).bind fun p13=>(Hp.ldI H8 .i64 p13.1 p13.2).bind fun n14=>(Sl.idx aK bS 1).bind fun p15=>(Hp.ldI H8 .i64 p15.1 p15.2).bind fun n16=>(bif (n14 != n16) then (some ((.bool false),H8)) else (aM.l29 F dZ aZ aK (IntKind.i64.wrap (bS + 1)) H8))) else (some ((.bool true),H8)))
termination_by structural n=>n
noncomputable def aM.twX (F:Nat) (aa:Sl) (ae:Sl) (H:Hp):OA:=(bif ((aa.n:Int) != (ae.n:Int)) then (some ((.bool false),H)) else (aM.l29 F F aa ae 0 H))
noncomputable def aM.tw (F:Nat) (aa:Sl) (ae:Sl) (H:Hp):OA:=aM.twX F aa ae H
noncomputable def aM.code:Go.Code:=(Try.f19.body).getD .skip
noncomputable def aM.lh29 (F:Nat) (ks:List Nat) (n:Nat) (tm:Tm) (H:Hp):OA:=match ks,tm 0,tm 1,tm 5 with
 | [],(.sl aZ),(.sl aK),(.int .i64 bS)=>aM.l29 F n aZ aK bS H
 | _,_,_,_=>none
theorem aM.lh29_inv {F:Nat} {ks:List Nat} {n:Nat} {tm:Tm} {H:Hp} {r:AV×Hp} (h:aM.lh29 F ks n tm H = some r):∃ aZ:Sl,∃ aK:Sl,∃ bS:Int,ks = []∧tm 0 = (.sl aZ)∧tm 1 = (.sl aK)∧tm 5 = (.int .i64 bS)∧aM.l29 F n aZ aK bS H = some r:=by
 unfold aM.lh29 at h
 split at h
 ·exact ⟨_,_,_,rfl,by assumption,by assumption,by assumption,h⟩
 ·cases h
noncomputable def aM.lh (F:Nat) (p:Nat) (ks:List Nat) (n:Nat) (tm:Tm) (H:Hp):OA:=bif p.beq 29 then aM.lh29 F ks n tm H else (none)
def aM.pn:Nat→List Nat:=fun i=>(([(6,[])]:List (Nat×List Nat)).lookup i).getD []
def aM.tb:Nat→List (List Nat):=fun i=>(([(6,[[],[],[0,1],[0,1,2],[],[],[4,5],[4,5,6],[0,1,2,3,4,5,6,7]])]:List (Nat×List (List Nat))).lookup i).getD []
noncomputable def aM.mk (g:Sl→Sl→Hp→OA) (args:List AV) (H:Hp):OA:=match args with
 | [(.sl aa),(.sl ae)]=>g aa ae H
 | _=>none
noncomputable def aM.cs (F:Nat):List (FuncId×(List AV→Hp→OA)):=[]
theorem aM.loops (F:Nat):LoopsOk tabs (mkOrc (aM.cs F)) aM.pn (aM.lh F) F [] 1 aM.code (fun tm H=>aresults tabs.ty H tm Try.f19.results.toList fun v=>some (v,H)) (fun _ _ _=>none) (fun tm H=>aresults tabs.ty H tm Try.f19.results.toList fun v=>some (v,H)):=by
 refine LoopsOk.seq ?_ ?_
 ·exact loops_none (by kernel_rfl)
 ·refine LoopsOk.seq ?_ ?_
  ·exact loops_none (by kernel_rfl)
  ·refine LoopsOk.seq ?_ ?_
   ·refine LoopsOk.seq ?_ ?_
    ·exact loops_none (by kernel_rfl)
    ·refine LoopsOk.block ?_
     refine LoopsOk.loop (fun tm H=>?_) (fun k29 tm H r h0=>?_) (fun k29=>?_)
     ·refine none_of fun r h0=>?_
      obtain ⟨aZ,aK,bS,hks,e0,e1,e5,h⟩:=aM.lh29_inv (show aM.lh29 F [] 0 tm H = some r from h0)
      cases h
     ·obtain ⟨aZ,aK,bS,hks,e0,e1,e5,h⟩:=aM.lh29_inv (show aM.lh29 F [] (k29 + 1) tm H = some r from h0)
      have q0:(Tm.put tm 0 (.sl aZ)) = tm:=by exact Tm.put_same e0
      have q1:(Tm.put (Tm.put tm 0 (.sl aZ)) 1 (.sl aK)) = tm:=by rw [q0]; exact Tm.put_same e1
      have q2:(Tm.put (Tm.put (Tm.put tm 0 (.sl aZ)) 1 (.sl aK)) 5 (.int .i64 bS)) = tm:=by rw [q1]; exact Tm.put_same e5
      rw [← q2]
      exact Eq.trans (by kernel_rfl) h
     ·exact loops_none (by kernel_rfl)
   ·exact loops_none (by kernel_rfl)
theorem aM.eqX (F:Nat) (aa:Sl) (ae:Sl) (H:Hp):aCode tabs (mkOrc (aM.cs F)) aM.pn (aM.lh F) F [] 1 aM.code (argTm [(.sl aa),(.sl ae)]) H (fun tm H=>aresults tabs.ty H tm Try.f19.results.toList fun v=>some (v,H)) (fun _ _ _=>none) (fun tm H=>aresults tabs.ty H tm Try.f19.results.toList fun v=>some (v,H)) = aM.twX F aa ae H:=by kernel_rfl
theorem aM.cs_ok (F:Nat):∀ p ∈ aM.cs F,∀ args H v H',p.2 args H = some (v,H')→Go.AE.T Try.prog p.1 args H v H':=by
 intro p hp
 exact absurd (show p ∈ [] from hp) List.not_mem_nil
theorem aM.ok:codeOk aM.pn Try.f19.ntmps aM.tb aM.code = true:=by kernel_rfl
theorem aM.T {F:Nat} {aa:Sl} {ae:Sl} {H:Hp} {v:AV} {H':Hp} (h:aM.tw F aa ae H = some (v,H')):Go.AE.T Try.prog 19 [(.sl aa),(.sl ae)] H v H':=
 Go.AE.T.of (Y:=tabs) (C:=mkOrc (aM.cs F)) (PN:=aM.pn) (LH:=aM.lh F) (F:=F) (TB:=aM.tb) (fn:=Try.f19) (code:=aM.code) mixed tabs_ok (mkOrc_ok (aM.cs_ok F)) Try.func19 (by kernel_rfl) (by kernel_rfl) aM.ok (Nat.le_of_ble_eq_true (by kernel_rfl)) (aM.loops F) (Eq.trans (aM.eqX F aa ae H) h)
theorem aM.mk_T {F:Nat} {args:List AV} {H:Hp} {v:AV} {H':Hp} (h:aM.mk (aM.tw F) args H = some (v,H')):Go.AE.T Try.prog 19 args H v H':=by
 unfold aM.mk at h
 split at h
 ·exact aM.T h
 ·cases h
noncomputable def bH.twX (F:Nat) (aa:Int) (ab:Int) (aA:Int) (aB:Int) (az:Int) (bd:Int) (fm:Int) (fo:Int) (fp:Int) (fq:Int) (H:Hp):OA:=(Hp.new H [(.int .i64 aa),(.int .i64 ab),(.int .i64 aA),(.int .i64 aB),(.int .i64 az)]).bind fun H11=>(Hp.new H11 [(.int .i64 bd),(.int .i64 fm),(.int .i64 fo),(.int .i64 fp),(.int .i64 fq)]).bind fun H12=>(Hp.ldI H12 .i64 H.length 0).bind fun n13=>(Hp.ldI H12 .i64 H11.length 0).bind fun n14=>(bif (n13 != n14) then (some ((.bool false),H12)) else ((Hp.ldI H12 .i64 H.length 1).bind fun n15=>(Hp.ldI H12 .i64 H11.length 1).bind fun n16=>(bif (n15 != n16) then (some ((.bool false),H12)) else ((Hp.ldI H12 .i64 H.length 2).bind fun n17=>(Hp.ldI H12 .i64 H11.length 2).bind fun n18=>(bif (n17 != n18) then (some ((.bool false),H12)) else ((Hp.ldI H12 .i64 H.length 3).bind fun n19=>(Hp.ldI H12 .i64 H11.length 3).bind fun n20=>(bif (n19 != n20) then (some ((.bool false),H12)) else ((Hp.ldI H12 .i64 H.length 4).bind fun n21=>(Hp.ldI H12 .i64 H11.length 4).bind fun n22=>(bif (n21 != n22) then (some ((.bool false),H12)) else (some ((.bool true),H12)))))))))))
noncomputable def bH.tw (F:Nat) (aa:Int) (ab:Int) (aA:Int) (aB:Int) (az:Int) (bd:Int) (fm:Int) (fo:Int) (fp:Int) (fq:Int) (H:Hp):OA:=bH.twX F aa ab aA aB az bd fm fo fp fq H
noncomputable def bH.code:Go.Code:=(Try.f121.body).getD .skip
noncomputable def bH.lh (F:Nat) (p:Nat) (ks:List Nat) (n:Nat) (tm:Tm) (H:Hp):OA:=none
def bH.pn:Nat→List Nat:=fun i=>(([]:List (Nat×List Nat)).lookup i).getD []
def bH.tb:Nat→List (List Nat):=fun i=>(([]:List (Nat×List (List Nat))).lookup i).getD []
noncomputable def bH.mk (g:Int→Int→Int→Int→Int→Int→Int→Int→Int→Int→Hp→OA) (args:List AV) (H:Hp):OA:=match args with
 | [(.agg [(.int .i64 aa),(.int .i64 ab),(.int .i64 aA),(.int .i64 aB),(.int .i64 az)]),(.agg [(.int .i64 bd),(.int .i64 fm),(.int .i64 fo),(.int .i64 fp),(.int .i64 fq)])]=>g aa ab aA aB az bd fm fo fp fq H
 | _=>none
noncomputable def bH.cs (F:Nat):List (FuncId×(List AV→Hp→OA)):=[]
theorem bH.loops (F:Nat):LoopsOk tabs (mkOrc (bH.cs F)) bH.pn (bH.lh F) F [] 1 bH.code (fun tm H=>aresults tabs.ty H tm Try.f121.results.toList fun v=>some (v,H)) (fun _ _ _=>none) (fun tm H=>aresults tabs.ty H tm Try.f121.results.toList fun v=>some (v,H)):=by
 exact loops_none (by kernel_rfl)
theorem bH.eqX (F:Nat) (aa:Int) (ab:Int) (aA:Int) (aB:Int) (az:Int) (bd:Int) (fm:Int) (fo:Int) (fp:Int) (fq:Int) (H:Hp):aCode tabs (mkOrc (bH.cs F)) bH.pn (bH.lh F) F [] 1 bH.code (argTm [(.agg [(.int .i64 aa),(.int .i64 ab),(.int .i64 aA),(.int .i64 aB),(.int .i64 az)]),(.agg [(.int .i64 bd),(.int .i64 fm),(.int .i64 fo),(.int .i64 fp),(.int .i64 fq)])]) H (fun tm H=>aresults tabs.ty H tm Try.f121.results.toList fun v=>some (v,H)) (fun _ _ _=>none) (fun tm H=>aresults tabs.ty H tm Try.f121.results.toList fun v=>some (v,H)) = bH.twX F aa ab aA aB az bd fm fo fp fq H:=by kernel_rfl
theorem bH.cs_ok (F:Nat):∀ p ∈ bH.cs F,∀ args H v H',p.2 args H = some (v,H')→Go.AE.T Try.prog p.1 args H v H':=by
 intro p hp
 exact absurd (show p ∈ [] from hp) List.not_mem_nil
theorem bH.ok:codeOk bH.pn Try.f121.ntmps bH.tb bH.code = true:=by kernel_rfl
theorem bH.T {F:Nat} {aa:Int} {ab:Int} {aA:Int} {aB:Int} {az:Int} {bd:Int} {fm:Int} {fo:Int} {fp:Int} {fq:Int} {H:Hp} {v:AV} {H':Hp} (h:bH.tw F aa ab aA aB az bd fm fo fp fq H = some (v,H')):Go.AE.T Try.prog 121 [(.agg [(.int .i64 aa),(.int .i64 ab),(.int .i64 aA),(.int .i64 aB),(.int .i64 az)]),(.agg [(.int .i64 bd),(.int .i64 fm),(.int .i64 fo),(.int .i64 fp),(.int .i64 fq)])] H v H':=
 Go.AE.T.of (Y:=tabs) (C:=mkOrc (bH.cs F)) (PN:=bH.pn) (LH:=bH.lh F) (F:=F) (TB:=bH.tb) (fn:=Try.f121) (code:=bH.code) mixed tabs_ok (mkOrc_ok (bH.cs_ok F)) Try.func121 (by kernel_rfl) (by kernel_rfl) bH.ok (Nat.le_of_ble_eq_true (by kernel_rfl)) (bH.loops F) (Eq.trans (bH.eqX F aa ab aA aB az bd fm fo fp fq H) h)
theorem bH.mk_T {F:Nat} {args:List AV} {H:Hp} {v:AV} {H':Hp} (h:bH.mk (bH.tw F) args H = some (v,H')):Go.AE.T Try.prog 121 args H v H':=by
 unfold bH.mk at h
 split at h
 ·exact bH.T h
 ·cases h
noncomputable def aU.l29 (F:Nat) (dY:Int→Int→Int→Int→Int→Int→Int→Int→Int→Int→Hp→OA) :Nat→Sl→Sl→Int→Hp→OA
 | 0,_,_,_,_=>none
 | dZ + 1,aZ,aK,bS,H8=>(bif (decide (bS < (aZ.n:Int))) then ((Sl.idx aZ bS 5).bind fun p23=>(Hp.ldI H8 .i64 p23.1 p23.2).bind fun n24=>(Hp.ldI H8 .i64 p23.1 (p23.2 + 1)).bind fun n25=>(Hp.ldI H8 .i64 p23.1 (p23.2 + 2)).bind fun n26=>(Hp.ldI H8 .i64 p23.1 (p23.2 + 3)).bind fun n27=>(Hp.ldI H8 .i64 p23.1 (p23.2 + 4)).bind fun n28=>(Sl.idx aK bS 5).bind fun p29=>(Hp.ldI H8 .i64 p29.1 p29.2).bind fun n30=>(Hp.ldI H8 .i64 p29.1 (p29.2 + 1)).bind fun n31=>(Hp.ldI H8 .i64 p29.1 (p29.2 + 2)).bind fun n32=>(Hp.ldI H8 .i64 p29.1 (p29.2 + 3)).bind fun n33=>(Hp.ldI H8 .i64 p29.1 (p29.2 + 4)).bind fun n34=>(dY n24 n25 n26 n27 n28 n30 n31 n32 n33 n34 H8).bind fun r35=>((r35.1).asB).bind fun b36=>(bif (!b36) then (some ((.bool false),r35.2)) else (aU.l29 F dY dZ aZ aK (IntKind.i64.wrap (bS + 1)) r35.2))) else (some ((.bool true),H8)))
termination_by structural n=>n
noncomputable def aU.twX (F:Nat) (dY:Int→Int→Int→Int→Int→Int→Int→Int→Int→Int→Hp→OA) (aa:Sl) (ae:Sl) (H:Hp):OA:=(bif ((aa.n:Int) != (ae.n:Int)) then (some ((.bool false),H)) else (aU.l29 F dY F aa ae 0 H))
noncomputable def aU.tw (F:Nat) (aa:Sl) (ae:Sl) (H:Hp):OA:=aU.twX F (bH.tw F) aa ae H
noncomputable def aU.code:Go.Code:=(Try.f63.body).getD .skip
noncomputable def aU.lh29 (F:Nat) (dY:Int→Int→Int→Int→Int→Int→Int→Int→Int→Int→Hp→OA) (ks:List Nat) (n:Nat) (tm:Tm) (H:Hp):OA:=match ks,tm 0,tm 1,tm 5 with
 | [],(.sl aZ),(.sl aK),(.int .i64 bS)=>aU.l29 F dY n aZ aK bS H
 | _,_,_,_=>none
theorem aU.lh29_inv {F:Nat} {dY:Int→Int→Int→Int→Int→Int→Int→Int→Int→Int→Hp→OA} {ks:List Nat} {n:Nat} {tm:Tm} {H:Hp} {r:AV×Hp} (h:aU.lh29 F dY ks n tm H = some r):∃ aZ:Sl,∃ aK:Sl,∃ bS:Int,ks = []∧tm 0 = (.sl aZ)∧tm 1 = (.sl aK)∧tm 5 = (.int .i64 bS)∧aU.l29 F dY n aZ aK bS H = some r:=by
 unfold aU.lh29 at h
 split at h
 ·exact ⟨_,_,_,rfl,by assumption,by assumption,by assumption,h⟩
 ·cases h
noncomputable def aU.lh (F:Nat) (dY:Int→Int→Int→Int→Int→Int→Int→Int→Int→Int→Hp→OA) (p:Nat) (ks:List Nat) (n:Nat) (tm:Tm) (H:Hp):OA:=bif p.beq 29 then aU.lh29 F dY ks n tm H else (none)
def aU.pn:Nat→List Nat:=fun i=>(([(6,[8])]:List (Nat×List Nat)).lookup i).getD []
def aU.tb:Nat→List (List Nat):=fun i=>(([(6,[[],[],[0,1],[0,1,2],[],[],[4,5],[4,5,6],[0,1,2,3,4,5,6,7],[0,1,2,3,4,5,6,7,8]])]:List (Nat×List (List Nat))).lookup i).getD []
noncomputable def aU.mk (g:Sl→Sl→Hp→OA) (args:List AV) (H:Hp):OA:=match args with
 | [(.sl aa),(.sl ae)]=>g aa ae H
 | _=>none
noncomputable def aU.cs (F:Nat) (dY:Int→Int→Int→Int→Int→Int→Int→Int→Int→Int→Hp→OA):List (FuncId×(List AV→Hp→OA)):=[(121,bH.mk dY)]
theorem aU.loops (F:Nat) (dY:Int→Int→Int→Int→Int→Int→Int→Int→Int→Int→Hp→OA):LoopsOk tabs (mkOrc (aU.cs F dY)) aU.pn (aU.lh F dY) F [] 1 aU.code (fun tm H=>aresults tabs.ty H tm Try.f63.results.toList fun v=>some (v,H)) (fun _ _ _=>none) (fun tm H=>aresults tabs.ty H tm Try.f63.results.toList fun v=>some (v,H)):=by
 refine LoopsOk.seq ?_ ?_
 ·exact loops_none (by kernel_rfl)
 ·refine LoopsOk.seq ?_ ?_
  ·exact loops_none (by kernel_rfl)
  ·refine LoopsOk.seq ?_ ?_
   ·refine LoopsOk.seq ?_ ?_
    ·exact loops_none (by kernel_rfl)
    ·refine LoopsOk.block ?_
     refine LoopsOk.loop (fun tm H=>?_) (fun k29 tm H r h0=>?_) (fun k29=>?_)
     ·refine none_of fun r h0=>?_
      obtain ⟨aZ,aK,bS,hks,e0,e1,e5,h⟩:=aU.lh29_inv (show aU.lh29 F dY [] 0 tm H = some r from h0)
      cases h
     ·obtain ⟨aZ,aK,bS,hks,e0,e1,e5,h⟩:=aU.lh29_inv (show aU.lh29 F dY [] (k29 + 1) tm H = some r from h0)
      have q0:(Tm.put tm 0 (.sl aZ)) = tm:=by exact Tm.put_same e0
      have q1:(Tm.put (Tm.put tm 0 (.sl aZ)) 1 (.sl aK)) = tm:=by rw [q0]; exact Tm.put_same e1
      have q2:(Tm.put (Tm.put (Tm.put tm 0 (.sl aZ)) 1 (.sl aK)) 5 (.int .i64 bS)) = tm:=by rw [q1]; exact Tm.put_same e5
      rw [← q2]
      exact Eq.trans (by kernel_rfl) h
     ·exact loops_none (by kernel_rfl)
   ·exact loops_none (by kernel_rfl)
theorem aU.eqX (F:Nat) (dY:Int→Int→Int→Int→Int→Int→Int→Int→Int→Int→Hp→OA) (aa:Sl) (ae:Sl) (H:Hp):aCode tabs (mkOrc (aU.cs F dY)) aU.pn (aU.lh F dY) F [] 1 aU.code (argTm [(.sl aa),(.sl ae)]) H (fun tm H=>aresults tabs.ty H tm Try.f63.results.toList fun v=>some (v,H)) (fun _ _ _=>none) (fun tm H=>aresults tabs.ty H tm Try.f63.results.toList fun v=>some (v,H)) = aU.twX F dY aa ae H:=by kernel_rfl
theorem aU.cs_ok (F:Nat):∀ p ∈ aU.cs F (bH.tw F),∀ args H v H',p.2 args H = some (v,H')→Go.AE.T Try.prog p.1 args H v H':=by
 intro p hp
 simp only [aU.cs,List.mem_cons,List.not_mem_nil,or_false] at hp
 subst hp
 exact fun args H v H' h=>bH.mk_T h
theorem aU.ok:codeOk aU.pn Try.f63.ntmps aU.tb aU.code = true:=by kernel_rfl
theorem aU.T {F:Nat} {aa:Sl} {ae:Sl} {H:Hp} {v:AV} {H':Hp} (h:aU.tw F aa ae H = some (v,H')):Go.AE.T Try.prog 63 [(.sl aa),(.sl ae)] H v H':=
 Go.AE.T.of (Y:=tabs) (C:=mkOrc (aU.cs F (bH.tw F))) (PN:=aU.pn) (LH:=aU.lh F (bH.tw F)) (F:=F) (TB:=aU.tb) (fn:=Try.f63) (code:=aU.code) mixed tabs_ok (mkOrc_ok (aU.cs_ok F)) Try.func63 (by kernel_rfl) (by kernel_rfl) aU.ok (Nat.le_of_ble_eq_true (by kernel_rfl)) (aU.loops F (bH.tw F)) (Eq.trans (aU.eqX F (bH.tw F) aa ae H) h)
theorem aU.mk_T {F:Nat} {args:List AV} {H:Hp} {v:AV} {H':Hp} (h:aU.mk (aU.tw F) args H = some (v,H')):Go.AE.T Try.prog 63 args H v H':=by
 unfold aU.mk at h
 split at h
 ·exact aU.T h
 ·cases h
end Go.Proofs.Ythfinhmkgdmelaa.AE
