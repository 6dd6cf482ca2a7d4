import Derived.Test.YthfinhmkgdmelaaT1
import Derived.Test.YthfinhmkgdmelaaTab1
import Derived.Test.YthfinhmkgdmelaaE2
set_option linter.unusedVariables false
set_option linter.unusedSimpArgs false
namespace Go.Proofs.Ythfinhmkgdmelaa.AE
open Go Go.AE Go.Proofs Go.RowKit Go.Maps
set_option linter.unusedVariables false
set_option maxHeartbeats 4000000
set_option maxRecDepth 100000
theorem aQ.cs_ok (F:Nat):∀ p ∈ aQ.cs F (ap.tw F) (af.tw F) (bG.tw F),∀ args H v H',p.2 args H = some (v,H')→Go.AE.T Try.prog p.1 args H v H':=by
 intro p hp
 simp only [aQ.cs,List.mem_cons,List.not_mem_nil,or_false] at hp
 rcases hp with rfl | rfl | rfl
 ·exact fun args H v H' h=>ap.mk_T h
 ·exact fun args H v H' h=>af.mk_T h
 ·exact fun args H v H' h=>bG.mk_T h
theorem aQ.ok:codeOk aQ.pn Try.f72.ntmps aQ.tb aQ.code = true:=by kernel_rfl
theorem aQ.T {F:Nat} {aa:Sl} {ab:Int} {ah:Sl} {aL:Sl} {cj:Int} {H:Hp} {v:AV} {H':Hp} (h:aQ.tw F aa ab ah aL cj H = some (v,H')):Go.AE.T Try.prog 72 [(.agg [(.sl aa),(.int .i64 ab)]),(.agg [(.sl ah),(.sl aL)]),(.int .i64 cj)] H v H':=
 Go.AE.T.of (Y:=tabs) (C:=mkOrc (aQ.cs F (ap.tw F) (af.tw F) (bG.tw F))) (PN:=aQ.pn) (LH:=aQ.lh F (ap.tw F) (af.tw F) (bG.tw F)) (F:=F) (TB:=aQ.tb) (fn:=Try.f72) (code:=aQ.code) mixed tabs_ok (mkOrc_ok (aQ.cs_ok F)) Try.func72 (by kernel_rfl) (by kernel_rfl) aQ.ok (Nat.le_of_ble_eq_true (by kernel_rfl)) (aQ.loops F (ap.tw F) (af.tw F) (bG.tw F)) (Eq.trans (aQ.eqX F (ap.tw F) (af.tw F) (bG.tw F) aa ab ah aL cj H) h)
theorem aQ.mk_T {F:Nat} {args:List AV} {H:Hp} {v:AV} {H':Hp} (h:aQ.mk (aQ.tw F) args H = some (v,H')):Go.AE.T Try.prog 72 args H v H':=by
 unfold aQ.mk at h
 split at h
 ·exact aQ.T h
 ·cases h
noncomputable def bz.twX (F:Nat) (hC:Sl→Int→Hp→OA) (hG:Sl→Int→Hp→OA) (hH:Int→Hp→OA) (hI:Sl→Int→Sl→Sl→Int→Hp→OA) (aa:Sl) (ab:Int) (ah:Int) (bb:Int) (H:Hp):OA:=(Hp.new H [(.sl aa),(.int .i64 ab)]).bind fun H5=>(Hp.ldSl H5 H.length 0).bind fun s6=>(Hp.ldI H5 .i64 H.length (0 + 1)).bind fun n7=>(hC s6 n7 H5).bind fun r8=>((r8.1).asTup 2).bind fun l9=>(l9[0]?).bind fun v10=>((v10).asAgg 2).bind fun l11=>(l11[0]?).bind fun v12=>((v12).asSl).bind fun s13=>(l11[1]?).bind fun v14=>((v14).asSl).bind fun s15=>(l9[1]?).bind fun v16=>((v16).asB).bind fun b17=>(Hp.new r8.2 [.sl ⟨none,0,.ex 0⟩,.sl ⟨none,0,.ex 0⟩]).bind fun H18=>(Hp.st H18 r8.2.length 0 (.sl s13)).bind fun H19=>(Hp.st H19 r8.2.length (0 + 1) (.sl s15)).bind fun H20=>(bif (!b17) then (some ((.tup [(.int .i64 0),(.int .i64 1)]),H20)) else ((Hp.ldSl H20 H.length 0).bind fun s21=>(hG s21 ah H20).bind fun r22=>((r22.1).asB).bind fun b23=>(bif (!b23) then (some ((.tup [(.int .i64 0),(.int .i64 4)]),r22.2)) else ((hH bb r22.2).bind fun r24=>((r24.1).asB).bind fun b25=>(bif (!b25) then (some ((.tup [(.int .i64 0),(.int .i64 2)]),r24.2)) else ((Hp.ldSl r24.2 H.length 0).bind fun s26=>(Hp.ldI r24.2 .i64 H.length (0 + 1)).bind fun n27=>(Hp.ldSl r24.2 r8.2.length 0).bind fun s28=>(Hp.ldSl r24.2 r8.2.length (0 + 1)).bind fun s29=>(hI s26 n27 s28 s29 bb r24.2).bind fun r30=>((r30.1).asSl).bind fun s31=>(Sl.idx s31 ah 1).bind fun p32=>(Hp.ldI r30.2 .i64 p32.1 p32.2).bind fun n33=>some ((.tup [(.int .i64 n33),(.int .i64 0)]),r30.2)))))))
noncomputable def bz.tw (F:Nat) (aa:Sl) (ab:Int) (ah:Int) (bb:Int) (H:Hp):OA:=bz.twX F (bn.tw F) (bE.tw F) (bF.tw F) (aQ.tw F) aa ab ah bb H
noncomputable def bz.code:Go.Code:=(Try.f25.body).getD .skip
noncomputable def bz.lh (F:Nat) (hC:Sl→Int→Hp→OA) (hG:Sl→Int→Hp→OA) (hH:Int→Hp→OA) (hI:Sl→Int→Sl→Sl→Int→Hp→OA) (p:Nat) (ks:List Nat) (n:Nat) (tm:Tm) (H:Hp):OA:=none
def bz.pn:Nat→List Nat:=fun i=>(([]:List (Nat×List Nat)).lookup i).getD []
def bz.tb:Nat→List (List Nat):=fun i=>(([]:List (Nat×List (List Nat))).lookup i).getD []
noncomputable def bz.mk (g:Sl→Int→Int→Int→Hp→OA) (args:List AV) (H:Hp):OA:=match args with
 | [(.agg [(.sl aa),(.int .i64 ab)]),(.int .i64 ah),(.int .i64 bb)]=>g aa ab ah bb H
 | _=>none
noncomputable def bz.cs (F:Nat) (hC:Sl→Int→Hp→OA) (hG:Sl→Int→Hp→OA) (hH:Int→Hp→OA) (hI:Sl→Int→Sl→Sl→Int→Hp→OA):List (FuncId×(List AV→Hp→OA)):=[(69,bn.mk hC),(70,bE.mk hG),(71,bF.mk hH),(72,aQ.mk hI)]
theorem bz.loops (F:Nat) (hC:Sl→Int→Hp→OA) (hG:Sl→Int→Hp→OA) (hH:Int→Hp→OA) (hI:Sl→Int→Sl→Sl→Int→Hp→OA):LoopsOk tabs (mkOrc (bz.cs F hC hG hH hI)) bz.pn (bz.lh F hC hG hH hI) F [] 1 bz.code (fun tm H=>aresults tabs.ty H tm Try.f25.results.toList fun v=>some (v,H)) (fun _ _ _=>none) (fun tm H=>aresults tabs.ty H tm Try.f25.results.toList fun v=>some (v,H)):=by
 exact loops_none (by kernel_rfl)
theorem bz.eqX (F:Nat) (hC:Sl→Int→Hp→OA) (hG:Sl→Int→Hp→OA) (hH:Int→Hp→OA) (hI:Sl→Int→Sl→Sl→Int→Hp→OA) (aa:Sl) (ab:Int) (ah:Int) (bb:Int) (H:Hp):aCode tabs (mkOrc (bz.cs F hC hG hH hI)) bz.pn (bz.lh F hC hG hH hI) F [] 1 bz.code (argTm [(.agg [(.sl aa),(.int .i64 ab)]),(.int .i64 ah),(.int .i64 bb)]) H (fun tm H=>aresults tabs.ty H tm Try.f25.results.toList fun v=>some (v,H)) (fun _ _ _=>none) (fun tm H=>aresults tabs.ty H tm Try.f25.results.toList fun v=>some (v,H)) = bz.twX F hC hG hH hI aa ab ah bb H:=by kernel_rfl
theorem bz.cs_ok (F:Nat):∀ p ∈ bz.cs F (bn.tw F) (bE.tw F) (bF.tw F) (aQ.tw F),∀ args H v H',p.2 args H = some (v,H')→Go.AE.T Try.prog p.1 args H v H':=by
 intro p hp
 simp only [bz.cs,List.mem_cons,List.not_mem_nil,or_false] at hp
 rcases hp with rfl | rfl | rfl | rfl
 ·exact fun args H v H' h=>bn.mk_T h
 ·exact fun args H v H' h=>bE.mk_T h
 ·exact fun args H v H' h=>bF.mk_T h
 ·exact fun args H v H' h=>aQ.mk_T h
theorem bz.ok:codeOk bz.pn Try.f25.ntmps bz.tb bz.code = true:=by kernel_rfl
theorem bz.T {F:Nat} {aa:Sl} {ab:Int} {ah:Int} {bb:Int} {H:Hp} {v:AV} {H':Hp} (h:bz.tw F aa ab ah bb H = some (v,H')):Go.AE.T Try.prog 25 [(.agg [(.sl aa),(.int .i64 ab)]),(.int .i64 ah),(.int .i64 bb)] H v H':=
 Go.AE.T.of (Y:=tabs) (C:=mkOrc (bz.cs F (bn.tw F) (bE.tw F) (bF.tw F) (aQ.tw F))) (PN:=bz.pn) (LH:=bz.lh F (bn.tw F) (bE.tw F) (bF.tw F) (aQ.tw F)) (F:=F) (TB:=bz.tb) (fn:=Try.f25) (code:=bz.code) mixed tabs_ok (mkOrc_ok (bz.cs_ok F)) Try.func25 (by kernel_rfl) (by kernel_rfl) bz.ok (Nat.le_of_ble_eq_true (by kernel_rfl)) (bz.loops F (bn.tw F) (bE.tw F) (bF.tw F) (aQ.tw F)) (Eq.trans (bz.eqX F (bn.tw F) (bE.tw F) (bF.tw F) (aQ.tw F) aa ab ah bb H) h)
theorem bz.mk_T {F:Nat} {args:List AV} {H:Hp} {v:AV} {H':Hp} (h:bz.mk (bz.tw F) args H = some (v,H')):Go.AE.T Try.prog 25 args H v H':=by
 unfold bz.mk at h
 split at h
 ·exact bz.T h
 ·cases h
noncomputable def bH.twX (F:Nat) (aa:Int) (ab:Int) (aA:Int) (aB:Int) (az:Int) (bc:Int) (fd:Int) (fe:Int) (ff:Int) (fg:Int) (H:Hp):OA:=(Hp.new H [(.int .i64 aa),(.int .i64 ab),(.int .i64 aA),(.int .i64 aB),(.int .i64 az)]).bind fun H11=>(Hp.new H11 [(.int .i64 bc),(.int .i64 fd),(.int .i64 fe),(.int .i64 ff),(.int .i64 fg)]).bind fun H12=>(Hp.ldI H12 .i64 H.length 0).bind fun n13=>(Hp.ldI H12 .i64 H11.length 0).bind fun n14=>(bif (n13 != n14) then (some ((.bool false),H12)) else ((Hp.ldI H12 .i64 H.length 1).bind fun n15=>(Hp.ldI H12 .i64 H11.length 1).bind fun n16=>(bif (n15 != n16) then (some ((.bool false),H12)) else ((Hp.ldI H12 .i64 H.length 2).bind fun n17=>(Hp.ldI H12 .i64 H11.length 2).bind fun n18=>(bif (n17 != n18) then (some ((.bool false),H12)) else ((Hp.ldI H12 .i64 H.length 3).bind fun n19=>(Hp.ldI H12 .i64 H11.length 3).bind fun n20=>(bif (n19 != n20) then (some ((.bool false),H12)) else ((Hp.ldI H12 .i64 H.length 4).bind fun n21=>(Hp.ldI H12 .i64 H11.length 4).bind fun n22=>(bif (n21 != n22) then (some ((.bool false),H12)) else (some ((.bool true),H12)))))))))))
noncomputable def bH.tw (F:Nat) (aa:Int) (ab:Int) (aA:Int) (aB:Int) (az:Int) (bc:Int) (fd:Int) (fe:Int) (ff:Int) (fg:Int) (H:Hp):OA:=bH.twX F aa ab aA aB az bc fd fe ff fg H
noncomputable def bH.code:Go.Code:=(Try.f121.body).getD .skip
noncomputable def bH.lh (F:Nat) (p:Nat) (ks:List Nat) (n:Nat) (tm:Tm) (H:Hp):OA:=none
def bH.pn:Nat→List Nat:=fun i=>(([]:List (Nat×List Nat)).lookup i).getD []
def bH.tb:Nat→List (List Nat):=fun i=>(([]:List (Nat×List (List Nat))).lookup i).getD []
noncomputable def bH.mk (g:Int→Int→Int→Int→Int→Int→Int→Int→Int→Int→Hp→OA) (args:List AV) (H:Hp):OA:=match args with
 | [(.agg [(.int .i64 aa),(.int .i64 ab),(.int .i64 aA),(.int .i64 aB),(.int .i64 az)]),(.agg [(.int .i64 bc),(.int .i64 fd),(.int .i64 fe),(.int .i64 ff),(.int .i64 fg)])]=>g aa ab aA aB az bc fd fe ff fg H
 | _=>none
noncomputable def bH.cs (F:Nat):List (FuncId×(List AV→Hp→OA)):=[]
theorem bH.loops (F:Nat):LoopsOk tabs (mkOrc (bH.cs F)) bH.pn (bH.lh F) F [] 1 bH.code (fun tm H=>aresults tabs.ty H tm Try.f121.results.toList fun v=>some (v,H)) (fun _ _ _=>none) (fun tm H=>aresults tabs.ty H tm Try.f121.results.toList fun v=>some (v,H)):=by
 exact loops_none (by kernel_rfl)
theorem bH.eqX (F:Nat) (aa:Int) (ab:Int) (aA:Int) (aB:Int) (az:Int) (bc:Int) (fd:Int) (fe:Int) (ff:Int) (fg:Int) (H:Hp):aCode tabs (mkOrc (bH.cs F)) bH.pn (bH.lh F) F [] 1 bH.code (argTm [(.agg [(.int .i64 aa),(.int .i64 ab),(.int .i64 aA),(.int .i64 aB),(.int .i64 az)]),(.agg [(.int .i64 bc),(.int .i64 fd),(.int .i64 fe),(.int .i64 ff),(.int .i64 fg)])]) H (fun tm H=>aresults tabs.ty H tm Try.f121.results.toList fun v=>some (v,H)) (fun _ _ _=>none) (fun tm H=>aresults tabs.ty H tm Try.f121.results.toList fun v=>some (v,H)) = bH.twX F aa ab aA aB az bc fd fe ff fg H:=by kernel_rfl
theorem bH.cs_ok (F:Nat):∀ p ∈ bH.cs F,∀ args H v H',p.2 args H = some (v,H')→Go.AE.T Try.prog p.1 args H v H':=by
 intro p hp
 exact absurd (show p ∈ [] from hp) List.not_mem_nil
theorem bH.ok:codeOk bH.pn Try.f121.ntmps bH.tb bH.code = true:=by kernel_rfl
theorem bH.T {F:Nat} {aa:Int} {ab:Int} {aA:Int} {aB:Int} {az:Int} {bc:Int} {fd:Int} {fe:Int} {ff:Int} {fg:Int} {H:Hp} {v:AV} {H':Hp} (h:bH.tw F aa ab aA aB az bc fd fe ff fg H = some (v,H')):Go.AE.T Try.prog 121 [(.agg [(.int .i64 aa),(.int .i64 ab),(.int .i64 aA),(.int .i64 aB),(.int .i64 az)]),(.agg [(.int .i64 bc),(.int .i64 fd),(.int .i64 fe),(.int .i64 ff),(.int .i64 fg)])] H v H':=
 Go.AE.T.of (Y:=tabs) (C:=mkOrc (bH.cs F)) (PN:=bH.pn) (LH:=bH.lh F) (F:=F) (TB:=bH.tb) (fn:=Try.f121) (code:=bH.code) mixed tabs_ok (mkOrc_ok (bH.cs_ok F)) Try.func121 (by kernel_rfl) (by kernel_rfl) bH.ok (Nat.le_of_ble_eq_true (by kernel_rfl)) (bH.loops F) (Eq.trans (bH.eqX F aa ab aA aB az bc fd fe ff fg H) h)
theorem bH.mk_T {F:Nat} {args:List AV} {H:Hp} {v:AV} {H':Hp} (h:bH.mk (bH.tw F) args H = some (v,H')):Go.AE.T Try.prog 121 args H v H':=by
 unfold bH.mk at h
 split at h
 ·exact bH.T h
 ·cases h
noncomputable def aU.l29 (F:Nat) (dS:Int→Int→Int→Int→Int→Int→Int→Int→Int→Int→Hp→OA) :Nat→Sl→Sl→Int→Hp→OA
 | 0,_,_,_,_=>none
 | es + 1,cI,hJ,dU,H8=>(bif (decide (dU < (cI.n:Int))) then ((Sl.idx cI dU 5).bind fun p23=>(Hp.ldI H8 .i64 p23.1 p23.2).bind fun n24=>(Hp.ldI H8 .i64 p23.1 (p23.2 + 1)).bind fun n25=>(Hp.ldI H8 .i64 p23.1 (p23.2 + 2)).bind fun n26=>(Hp.ldI H8 .i64 p23.1 (p23.2 + 3)).bind fun n27=>(Hp.ldI H8 .i64 p23.1 (p23.2 + 4)).bind fun n28=>(Sl.idx hJ dU 5).bind fun p29=>(Hp.ldI H8 .i64 p29.1 p29.2).bind fun n30=>(Hp.ldI H8 .i64 p29.1 (p29.2 + 1)).bind fun n31=>(Hp.ldI H8 .i64 p29.1 (p29.2 + 2)).bind fun n32=>(Hp.ldI H8 .i64 p29.1 (p29.2 + 3)).bind fun n33=>(Hp.ldI H8 .i64 p29.1 (p29.2 + 4)).bind fun n34=>(dS n24 n25 n26 n27 n28 n30 n31 n32 n33 n34 H8).bind fun r35=>((r35.1).asB).bind fun b36=>(bif (!b36) then (some ((.bool false),r35.2)) else (aU.l29 F dS es cI hJ (IntKind.i64.wrap (dU + 1)) r35.2))) else (some ((.bool true),H8)))
termination_by structural n=>n
noncomputable def aU.twX (F:Nat) (dS:Int→Int→Int→Int→Int→Int→Int→Int→Int→Int→Hp→OA) (aa:Sl) (ag:Sl) (H:Hp):OA:=(bif ((aa.n:Int) != (ag.n:Int)) then (some ((.bool false),H)) else (aU.l29 F dS F aa ag 0 H))
noncomputable def aU.tw (F:Nat) (aa:Sl) (ag:Sl) (H:Hp):OA:=aU.twX F (bH.tw F) aa ag H
noncomputable def aU.code:Go.Code:=(Try.f63.body).getD .skip
noncomputable def aU.lh29 (F:Nat) (dS:Int→Int→Int→Int→Int→Int→Int→Int→Int→Int→Hp→OA) (ks:List Nat) (n:Nat) (tm:Tm) (H:Hp):OA:=match ks,tm 0,tm 1,tm 5 with
 | [],(.sl cI),(.sl hJ),(.int .i64 dU)=>aU.l29 F dS n cI hJ dU H
 | _,_,_,_=>none
theorem aU.lh29_inv {F:Nat} {dS:Int→Int→Int→Int→Int→Int→Int→Int→Int→Int→Hp→OA} {ks:List Nat} {n:Nat} {tm:Tm} {H:Hp} {r:AV×Hp} (h:aU.lh29 F dS ks n tm H = some r):∃ cI:Sl,∃ hJ:Sl,∃ dU:Int,ks = []∧tm 0 = (.sl cI)∧tm 1 = (.sl hJ)∧tm 5 = (.int .i64 dU)∧aU.l29 F dS n cI hJ dU H = some r:=by
 unfold aU.lh29 at h
 split at h
 ·exact ⟨_,_,_,rfl,by assumption,by assumption,by assumption,h⟩
 ·cases h
noncomputable def aU.lh (F:Nat) (dS:Int→Int→Int→Int→Int→Int→Int→Int→Int→Int→Hp→OA) (p:Nat) (ks:List Nat) (n:Nat) (tm:Tm) (H:Hp):OA:=bif p.beq 29 then aU.lh29 F dS ks n tm H else (none)
def aU.pn:Nat→List Nat:=fun i=>(([(6,[8])]:List (Nat×List Nat)).lookup i).getD []
def aU.tb:Nat→List (List Nat):=fun i=>(([(6,[[],[],[0,1],[0,1,2],[],[],[4,5],[4,5,6],[0,1,2,3,4,5,6,7],[0,1,2,3,4,5,6,7,8]])]:List (Nat×List (List Nat))).lookup i).getD []
noncomputable def aU.mk (g:Sl→Sl→Hp→OA) (args:List AV) (H:Hp):OA:=match args with
 | [(.sl aa),(.sl ag)]=>g aa ag H
 | _=>none
noncomputable def aU.cs (F:Nat) (dS:Int→Int→Int→Int→Int→Int→Int→Int→Int→Int→Hp→OA):List (FuncId×(List AV→Hp→OA)):=[(121,bH.mk dS)]
theorem aU.loops (F:Nat) (dS:Int→Int→Int→Int→Int→Int→Int→Int→Int→Int→Hp→OA):LoopsOk tabs (mkOrc (aU.cs F dS)) aU.pn (aU.lh F dS) F [] 1 aU.code (fun tm H=>aresults tabs.ty H tm Try.f63.results.toList fun v=>some (v,H)) (fun _ _ _=>none) (fun tm H=>aresults tabs.ty H tm Try.f63.results.toList fun v=>some (v,H)):=by
 refine LoopsOk.seq ?_ ?_
 ·exact loops_none (by kernel_rfl)
 ·refine LoopsOk.seq ?_ ?_
  ·exact loops_none (by kernel_rfl)
  ·refine LoopsOk.seq ?_ ?_
   ·refine LoopsOk.seq ?_ ?_
    ·exact loops_none (by kernel_rfl)
    ·refine LoopsOk.block ?_
     refine LoopsOk.loop (fun tm H=>?_) (fun k29 tm H r h0=>?_) (fun k29=>?_)
     ·refine none_of fun r h0=>?_
      obtain ⟨cI,hJ,dU,hks,e0,e1,e5,h⟩:=aU.lh29_inv (show aU.lh29 F dS [] 0 tm H = some r from h0)
      cases h
     ·obtain ⟨cI,hJ,dU,hks,e0,e1,e5,h⟩:=aU.lh29_inv (show aU.lh29 F dS [] (k29 + 1) tm H = some r from h0)
      have q0:(Tm.put tm 0 (.sl cI)) = tm:=by exact Tm.put_same e0
      have q1:(Tm.put (Tm.put tm 0 (.sl cI)) 1 (.sl hJ)) = tm:=by rw [q0]; exact Tm.put_same e1
      have q2:(Tm.put (Tm.put (Tm.put tm 0 (.sl cI)) 1 (.sl hJ)) 5 (.int .i64 dU)) = tm:=by rw [q1]; exact Tm.put_same e5
      rw [← q2]
      exact Eq.trans (by kernel_rfl) h
     ·exact loops_none (by kernel_rfl)
   ·exact loops_none (by kernel_rfl)
theorem aU.eqX (F:Nat) (dS:Int→Int→Int→Int→Int→Int→Int→Int→Int→Int→Hp→OA) (aa:Sl) (ag:Sl) (H:Hp):aCode tabs (mkOrc (aU.cs F dS)) aU.pn (aU.lh F dS) F [] 1 aU.code (argTm [(.sl aa),(.sl ag)]) H (fun tm H=>aresults tabs.ty H tm Try.f63.results.toList fun v=>some (v,H)) (fun _ _ _=>none) (fun tm H=>aresults tabs.ty H tm Try.f63.results.toList fun v=>some (v,H)) = aU.twX F dS aa ag H:=by kernel_rfl
theorem aU.cs_ok (F:Nat):∀ p ∈ aU.cs F (bH.tw F),∀ args H v H',p.2 args H = some (v,H')→Go.AE.T Try.prog p.1 args H v H':=by
 intro p hp
 simp only [aU.cs,List.mem_cons,List.not_mem_nil,or_false] at hp
 subst hp
 exact fun args H v H' h=>bH.mk_T h
theorem aU.ok:codeOk aU.pn Try.f63.ntmps aU.tb aU.code = true:=by kernel_rfl
theorem aU.T {F:Nat} {aa:Sl} {ag:Sl} {H:Hp} {v:AV} {H':Hp} (h:aU.tw F aa ag H = some (v,H')):Go.AE.T Try.prog 63 [(.sl aa),(.sl ag)] H v H':=
 Go.AE.T.of (Y:=tabs) (C:=mkOrc (aU.cs F (bH.tw F))) (PN:=aU.pn) (LH:=aU.lh F (bH.tw F)) (F:=F) (TB:=aU.tb) (fn:=Try.f63) (code:=aU.code) mixed tabs_ok (mkOrc_ok (aU.cs_ok F)) Try.func63 (by kernel_rfl) (by kernel_rfl) aU.ok (Nat.le_of_ble_eq_true (by kernel_rfl)) (aU.loops F (bH.tw F)) (Eq.trans (aU.eqX F (bH.tw F) aa ag H) h)
theorem aU.mk_T {F:Nat} {args:List AV} {H:Hp} {v:AV} {H':Hp} (h:aU.mk (aU.tw F) args H = some (v,H')):Go.AE.T Try.prog 63 args H v H':=by
 unfold aU.mk at h
 split at h
 ·exact aU.T h
 ·cases h
noncomputable def bA.twX (F:Nat) (hK:Sl→Sl→Hp→OA) (aa:Sl) (ab:Int) (ah:Sl) (aL:Int) (H:Hp):OA:=(Hp.new H [(.sl aa),(.int .i64 ab)]).bind fun H5=>(Hp.new H5 [(.sl ah),(.int .i64 aL)]).bind fun H6=>(Hp.ldSl H6 H.length 0).bind fun s7=>(Hp.ldSl H6 H5.length 0).bind fun s8=>(hK s7 s8 H6).bind fun r9=>((r9.1).asB).bind fun b10=>(bif (!b10) then (some ((.bool false),r9.2)) else ((Hp.ldI r9.2 .i64 H.length 1).bind fun n11=>(Hp.ldI r9.2 .i64 H5.length 1).bind fun n12=>(bif (n11 != n12) then (some ((.bool false),r9.2)) else (some ((.bool true),r9.2)))))
noncomputable def bA.tw (F:Nat) (aa:Sl) (ab:Int) (ah:Sl) (aL:Int) (H:Hp):OA:=bA.twX F (aU.tw F) aa ab ah aL H
noncomputable def bA.code:Go.Code:=(Try.f20.body).getD .skip
noncomputable def bA.lh (F:Nat) (hK:Sl→Sl→Hp→OA) (p:Nat) (ks:List Nat) (n:Nat) (tm:Tm) (H:Hp):OA:=none
def bA.pn:Nat→List Nat:=fun i=>(([]:List (Nat×List Nat)).lookup i).getD []
def bA.tb:Nat→List (List Nat):=fun i=>(([]:List (Nat×List (List Nat))).lookup i).getD []
noncomputable def bA.mk (g:Sl→Int→Sl→Int→Hp→OA) (args:List AV) (H:Hp):OA:=match args with
 | [(.agg [(.sl aa),(.int .i64 ab)]),(.agg [(.sl ah),(.int .i64 aL)])]=>g aa ab ah aL H
 | _=>none
noncomputable def bA.cs (F:Nat) (hK:Sl→Sl→Hp→OA):List (FuncId×(List AV→Hp→OA)):=[(63,aU.mk hK)]
theorem bA.loops (F:Nat) (hK:Sl→Sl→Hp→OA):LoopsOk tabs (mkOrc (bA.cs F hK)) bA.pn (bA.lh F hK) F [] 1 bA.code (fun tm H=>aresults tabs.ty H tm Try.f20.results.toList fun v=>some (v,H)) (fun _ _ _=>none) (fun tm H=>aresults tabs.ty H tm Try.f20.results.toList fun v=>some (v,H)):=by
 exact loops_none (by kernel_rfl)
theorem bA.eqX (F:Nat) (hK:Sl→Sl→Hp→OA) (aa:Sl) (ab:Int) (ah:Sl) (aL:Int) (H:Hp):aCode tabs (mkOrc (bA.cs F hK)) bA.pn (bA.lh F hK) F [] 1 bA.code (argTm [(.agg [(.sl aa),(.int .i64 ab)]),(.agg [(.sl ah),(.int .i64 aL)])]) H (fun tm H=>aresults tabs.ty H tm Try.f20.results.toList fun v=>some (v,H)) (fun _ _ _=>none) (fun tm H=>aresults tabs.ty H tm Try.f20.results.toList fun v=>some (v,H)) = bA.twX F hK aa ab ah aL H:=by kernel_rfl
theorem bA.cs_ok (F:Nat):∀ p ∈ bA.cs F (aU.tw F),∀ args H v H',p.2 args H = some (v,H')→Go.AE.T Try.prog p.1 args H v H':=by
 intro p hp
 simp only [bA.cs,List.mem_cons,List.not_mem_nil,or_false] at hp
 subst hp
 exact fun args H v H' h=>aU.mk_T h
theorem bA.ok:codeOk bA.pn Try.f20.ntmps bA.tb bA.code = true:=by kernel_rfl
theorem bA.T {F:Nat} {aa:Sl} {ab:Int} {ah:Sl} {aL:Int} {H:Hp} {v:AV} {H':Hp} (h:bA.tw F aa ab ah aL H = some (v,H')):Go.AE.T Try.prog 20 [(.agg [(.sl aa),(.int .i64 ab)]),(.agg [(.sl ah),(.int .i64 aL)])] H v H':=
 Go.AE.T.of (Y:=tabs) (C:=mkOrc (bA.cs F (aU.tw F))) (PN:=bA.pn) (LH:=bA.lh F (aU.tw F)) (F:=F) (TB:=bA.tb) (fn:=Try.f20) (code:=bA.code) mixed tabs_ok (mkOrc_ok (bA.cs_ok F)) Try.func20 (by kernel_rfl) (by kernel_rfl) bA.ok (Nat.le_of_ble_eq_true (by kernel_rfl)) (bA.loops F (aU.tw F)) (Eq.trans (bA.eqX F (aU.tw F) aa ab ah aL H) h)
theorem bA.mk_T {F:Nat} {args:List AV} {H:Hp} {v:AV} {H':Hp} (h:bA.mk (bA.tw F) args H = some (v,H')):Go.AE.T Try.prog 20 args H v H':=by
 unfold bA.mk at h
 split at h
 ·exact bA.T h
 ·cases h
noncomputable def bL.twX (F:Nat) (hL:Sl→Int→Int→Hp→OA) (gd:Sl→Int→Hp→OA) (hM:Sl→Int→Int→Int→Hp→OA) (hO:Sl→Int→Int→Int→Hp→OA) (hP:Sl→Int→Sl→Int→Hp→OA) (aa:Sl) (ab:Int) (ah:Int) (bb:Int) (H:Hp):OA:=(Hp.new H [(.sl aa),(.int .i64 ab)]).bind fun H5=>(Hp.ldSl H5 H.length 0).bind fun s6=>(Hp.ldI H5 .i64 H.length (0 + 1)).bind fun n7=>(hL s6 n7 1048576 H5).bind fun r8=>((r8.1).asI .i64).bind fun n9=>(bif (decide (n9 < 0)) then (some ((.bool true),r8.2)) else ((Hp.ldSl r8.2 H.length 0).bind fun s10=>(Hp.ldI r8.2 .i64 H.length (0 + 1)).bind fun n11=>(gd s10 n11 r8.2).bind fun r12=>((r12.1).asAgg 2).bind fun l13=>(l13[0]?).bind fun v14=>((v14).asSl).bind fun s15=>(l13[1]?).bind fun v16=>((v16).asI .i64).bind fun n17=>(hM s15 n17 ah bb r12.2).bind fun r18=>((r18.1).asTup 2).bind fun l19=>(l19[0]?).bind fun v20=>((v20).asI .i64).bind fun n21=>(l19[1]?).bind fun v22=>((v22).asI .i64).bind fun n23=>(Hp.ldSl r18.2 H.length 0).bind fun s24=>(Hp.ldI r18.2 .i64 H.length (0 + 1)).bind fun n25=>(gd s24 n25 r18.2).bind fun r26=>((r26.1).asAgg 2).bind fun l27=>(l27[0]?).bind fun v28=>((v28).asSl).bind fun s29=>(l27[1]?).bind fun v30=>((v30).asI .i64).bind fun n31=>(Hp.new r26.2 [.sl ⟨none,0,.ex 0⟩,.int .i64 0]).bind fun H32=>(Hp.st H32 r26.2.length 0 (.sl s29)).bind fun H33=>(Hp.st H33 r26.2.length (0 + 1) (.int .i64 n31)).bind fun H34=>(Hp.ldSl H34 r26.2.length 0).bind fun s35=>(Hp.ldI H34 .i64 r26.2.length (0 + 1)).bind fun n36=>(hO s35 n36 ah bb H34).bind fun r37=>((r37.1).asTup 2).bind fun l38=>(l38[0]?).bind fun v39=>((v39).asI .i64).bind fun n40=>(l38[1]?).bind fun v41=>((v41).asI .i64).bind fun n42=>(bif (n40 != n21) then (some ((.bool false),r37.2)) else ((bif (n42 != n23) then (some ((.bool false),r37.2)) else ((Hp.ldSl r37.2 r26.2.length 0).bind fun s43=>(Hp.ldI r37.2 .i64 r26.2.length (0 + 1)).bind fun n44=>(Hp.ldSl r37.2 H.length 0).bind fun s45=>(Hp.ldI r37.2 .i64 H.length (0 + 1)).bind fun n46=>(gd s45 n46 r37.2).bind fun r47=>((r47.1).asAgg 2).bind fun l48=>(l48[0]?).bind fun v49=>((v49).asSl).bind fun s50=>(l48[1]?).bind fun v51=>((v51).asI .i64).bind fun n52=>(if Cons r37.2 r47.2 then ((hP s43 n44 s50 n52 r47.2).bind fun r53=>((r53.1).asB).bind fun b54=>(bif (!b54) then (some ((.bool false),r53.2)) else (some ((.bool true),r53.2)))) else none)))))))
noncomputable def bL.tw (F:Nat) (aa:Sl) (ab:Int) (ah:Int) (bb:Int) (H:Hp):OA:=bL.twX F (bs.tw F) (bq.tw F) (bw.tw F) (bz.tw F) (bA.tw F) aa ab ah bb H
noncomputable def bL.code:Go.Code:=(Try.f4.body).getD .skip
noncomputable def bL.lh (F:Nat) (hL:Sl→Int→Int→Hp→OA) (gd:Sl→Int→Hp→OA) (hM:Sl→Int→Int→Int→Hp→OA) (hO:Sl→Int→Int→Int→Hp→OA) (hP:Sl→Int→Sl→Int→Hp→OA) (p:Nat) (ks:List Nat) (n:Nat) (tm:Tm) (H:Hp):OA:=none
def bL.pn:Nat→List Nat:=fun i=>(([(10,[3])]:List (Nat×List Nat)).lookup i).getD []
def bL.tb:Nat→List (List Nat):=fun i=>(([(10,[[],[],[1],[0,1,2],[0,1,2,3]])]:List (Nat×List (List Nat))).lookup i).getD []
noncomputable def bL.mk (g:Sl→Int→Int→Int→Hp→OA) (args:List AV) (H:Hp):OA:=match args with
 | [(.agg [(.sl aa),(.int .i64 ab)]),(.int .i64 ah),(.int .i64 bb)]=>g aa ab ah bb H
 | _=>none
noncomputable def bL.cs (F:Nat) (hL:Sl→Int→Int→Hp→OA) (gd:Sl→Int→Hp→OA) (hM:Sl→Int→Int→Int→Hp→OA) (hO:Sl→Int→Int→Int→Hp→OA) (hP:Sl→Int→Sl→Int→Hp→OA):List (FuncId×(List AV→Hp→OA)):=[(15,bs.mk hL),(17,bq.mk gd),(24,bw.mk hM),(25,bz.mk hO),(20,bA.mk hP)]
theorem bL.loops (F:Nat) (hL:Sl→Int→Int→Hp→OA) (gd:Sl→Int→Hp→OA) (hM:Sl→Int→Int→Int→Hp→OA) (hO:Sl→Int→Int→Int→Hp→OA) (hP:Sl→Int→Sl→Int→Hp→OA):LoopsOk tabs (mkOrc (bL.cs F hL gd hM hO hP)) bL.pn (bL.lh F hL gd hM hO hP) F [] 1 bL.code (fun tm H=>aresults tabs.ty H tm Try.f4.results.toList fun v=>some (v,H)) (fun _ _ _=>none) (fun tm H=>aresults tabs.ty H tm Try.f4.results.toList fun v=>some (v,H)):=by
 exact loops_none (by kernel_rfl)
theorem bL.eqX (F:Nat) (hL:Sl→Int→Int→Hp→OA) (gd:Sl→Int→Hp→OA) (hM:Sl→Int→Int→Int→Hp→OA) (hO:Sl→Int→Int→Int→Hp→OA) (hP:Sl→Int→Sl→Int→Hp→OA) (aa:Sl) (ab:Int) (ah:Int) (bb:Int) (H:Hp):aCode tabs (mkOrc (bL.cs F hL gd hM hO hP)) bL.pn (bL.lh F hL gd hM hO hP) F [] 1 bL.code (argTm [(.agg [(.sl aa),(.int .i64 ab)]),(.int .i64 ah),(.int .i64 bb)]) H (fun tm H=>aresults tabs.ty H tm Try.f4.results.toList fun v=>some (v,H)) (fun _ _ _=>none) (fun tm H=>aresults tabs.ty H tm Try.f4.results.toList fun v=>some (v,H)) = bL.twX F hL gd hM hO hP aa ab ah bb H:=by kernel_rfl
theorem bL.cs_ok (F:Nat):∀ p ∈ bL.cs F (bs.tw F) (bq.tw F) (bw.tw F) (bz.tw F) (bA.tw F),∀ args H v H',p.2 args H = some (v,H')→Go.AE.T Try.prog p.1 args H v H':=by
 intro p hp
 simp only [bL.cs,List.mem_cons,List.not_mem_nil,or_false] at hp
 rcases hp with rfl | rfl | rfl | rfl | rfl
 ·exact fun args H v H' h=>bs.mk_T h
 ·exact fun args H v H' h=>bq.mk_T h
 ·exact fun args H v H' h=>bw.mk_T h
 ·exact fun args H v H' h=>bz.mk_T h
 ·exact fun args H v H' h=>bA.mk_T h
theorem bL.ok:codeOk bL.pn Try.f4.ntmps bL.tb bL.code = true:=by kernel_rfl
theorem bL.T {F:Nat} {aa:Sl} {ab:Int} {ah:Int} {bb:Int} {H:Hp} {v:AV} {H':Hp} (h:bL.tw F aa ab ah bb H = some (v,H')):Go.AE.T Try.prog 4 [(.agg [(.sl aa),(.int .i64 ab)]),(.int .i64 ah),(.int .i64 bb)] H v H':=
 Go.AE.T.of (Y:=tabs) (C:=mkOrc (bL.cs F (bs.tw F) (bq.tw F) (bw.tw F) (bz.tw F) (bA.tw F))) (PN:=bL.pn) (LH:=bL.lh F (bs.tw F) (bq.tw F) (bw.tw F) (bz.tw F) (bA.tw F)) (F:=F) (TB:=bL.tb) (fn:=Try.f4) (code:=bL.code) mixed tabs_ok (mkOrc_ok (bL.cs_ok F)) Try.func4 (by kernel_rfl) (by kernel_rfl) bL.ok (Nat.le_of_ble_eq_true (by kernel_rfl)) (bL.loops F (bs.tw F) (bq.tw F) (bw.tw F) (bz.tw F) (bA.tw F)) (Eq.trans (bL.eqX F (bs.tw F) (bq.tw F) (bw.tw F) (bz.tw F) (bA.tw F) aa ab ah bb H) h)
theorem bL.mk_T {F:Nat} {args:List AV} {H:Hp} {v:AV} {H':Hp} (h:bL.mk (bL.tw F) args H = some (v,H')):Go.AE.T Try.prog 4 args H v H':=by
 unfold bL.mk at h
 split at h
 ·exact bL.T h
 ·cases h
end Go.Proofs.Ythfinhmkgdmelaa.AE
