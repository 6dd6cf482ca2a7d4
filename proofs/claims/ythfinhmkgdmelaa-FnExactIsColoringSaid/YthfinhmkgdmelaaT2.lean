import Derived.Test.YthfinhmkgdmelaaT1
import Derived.Test.YthfinhmkgdmelaaTab1
import Derived.Test.YthfinhmkgdmelaaE2
set_option linter.unusedVariables false
set_option linter.unusedSimpArgs false
namespace Go.Proofs.Ythfinhmkgdmelaa.AE
open Go Go.AE Go.Proofs Go.RowKit Go.Maps
set_option linter.unusedVariables false
set_option maxHeartbeats 4000000
set_option maxRecDepth 100000
noncomputable def bG.mk (g:Int→Int→Hp→OA) (args:List AV) (H:Hp):OA:=match args with
 | [(.int .i64 aa),(.int .i64 ad)]=>g aa ad H
 | _=>none
noncomputable def bG.cs (F:Nat):List (FuncId×(List AV→Hp→OA)):=[]
theorem bG.loops (F:Nat):LoopsOk tabs (mkOrc (bG.cs F)) bG.pn (bG.lh F) F [] 1 bG.code (fun tm H=>aresults tabs.ty H tm Try.f133.results.toList fun v=>some (v,H)) (fun _ _ _=>none) (fun tm H=>aresults tabs.ty H tm Try.f133.results.toList fun v=>some (v,H)):=by
 exact loops_none (by kernel_rfl)
theorem bG.eqX (F:Nat) (aa:Int) (ad:Int) (H:Hp):aCode tabs (mkOrc (bG.cs F)) bG.pn (bG.lh F) F [] 1 bG.code (argTm [(.int .i64 aa),(.int .i64 ad)]) H (fun tm H=>aresults tabs.ty H tm Try.f133.results.toList fun v=>some (v,H)) (fun _ _ _=>none) (fun tm H=>aresults tabs.ty H tm Try.f133.results.toList fun v=>some (v,H)) = bG.twX F aa ad H:=by kernel_rfl
theorem bG.cs_ok (F:Nat):∀ p ∈ bG.cs F,∀ args H v H',p.2 args H = some (v,H')→Go.AE.T Try.prog p.1 args H v H':=by
 intro p hp
 exact absurd (show p ∈ [] from hp) List.not_mem_nil
theorem bG.ok:codeOk bG.pn Try.f133.ntmps bG.tb bG.code = true:=by kernel_rfl
theorem bG.T {F:Nat} {aa:Int} {ad:Int} {H:Hp} {v:AV} {H':Hp} (h:bG.tw F aa ad H = some (v,H')):Go.AE.T Try.prog 133 [(.int .i64 aa),(.int .i64 ad)] H v H':=
 Go.AE.T.of (Y:=tabs) (C:=mkOrc (bG.cs F)) (PN:=bG.pn) (LH:=bG.lh F) (F:=F) (TB:=bG.tb) (fn:=Try.f133) (code:=bG.code) mixed tabs_ok (mkOrc_ok (bG.cs_ok F)) Try.func133 (by kernel_rfl) (by kernel_rfl) bG.ok (Nat.le_of_ble_eq_true (by kernel_rfl)) (bG.loops F) (Eq.trans (bG.eqX F aa ad H) h)
theorem bG.mk_T {F:Nat} {args:List AV} {H:Hp} {v:AV} {H':Hp} (h:bG.mk (bG.tw F) args H = some (v,H')):Go.AE.T Try.prog 133 args H v H':=by
 unfold bG.mk at h
 split at h
 ·exact bG.T h
 ·cases h
noncomputable def bO.twX (F:Nat) (aa:Int) (ab:Int) (ah:Sl) (ar:Int) (bb:Int) (H:Hp):OA:=(Hp.new H [(.int .i64 aa),(.int .i64 ab),(.sl ah)]).bind fun H6=>(Hp.ldSl H6 H.length 2).bind fun s7=>(Hp.ldI H6 .i64 H.length 1).bind fun n8=>(Sl.idx s7 (IntKind.i64.wrap ((IntKind.i64.wrap (ar * n8)) + bb)) 1).bind fun p9=>some ((.ptr p9.1 p9.2),H6)
noncomputable def bO.tw (F:Nat) (aa:Int) (ab:Int) (ah:Sl) (ar:Int) (bb:Int) (H:Hp):OA:=bO.twX F aa ab ah ar bb H
noncomputable def bO.code:Go.Code:=(Try.f134.body).getD .skip
noncomputable def bO.lh (F:Nat) (p:Nat) (ks:List Nat) (n:Nat) (tm:Tm) (H:Hp):OA:=none
def bO.pn:Nat→List Nat:=fun i=>(([]:List (Nat×List Nat)).lookup i).getD []
def bO.tb:Nat→List (List Nat):=fun i=>(([]:List (Nat×List (List Nat))).lookup i).getD []
noncomputable def bO.mk (g:Int→Int→Sl→Int→Int→Hp→OA) (args:List AV) (H:Hp):OA:=match args with
 | [(.agg [(.int .i64 aa),(.int .i64 ab),(.sl ah)]),(.int .i64 ar),(.int .i64 bb)]=>g aa ab ah ar bb H
 | _=>none
noncomputable def bO.cs (F:Nat):List (FuncId×(List AV→Hp→OA)):=[]
theorem bO.loops (F:Nat):LoopsOk tabs (mkOrc (bO.cs F)) bO.pn (bO.lh F) F [] 1 bO.code (fun tm H=>aresults tabs.ty H tm Try.f134.results.toList fun v=>some (v,H)) (fun _ _ _=>none) (fun tm H=>aresults tabs.ty H tm Try.f134.results.toList fun v=>some (v,H)):=by
 exact loops_none (by kernel_rfl)
theorem bO.eqX (F:Nat) (aa:Int) (ab:Int) (ah:Sl) (ar:Int) (bb:Int) (H:Hp):aCode tabs (mkOrc (bO.cs F)) bO.pn (bO.lh F) F [] 1 bO.code (argTm [(.agg [(.int .i64 aa),(.int .i64 ab),(.sl ah)]),(.int .i64 ar),(.int .i64 bb)]) H (fun tm H=>aresults tabs.ty H tm Try.f134.results.toList fun v=>some (v,H)) (fun _ _ _=>none) (fun tm H=>aresults tabs.ty H tm Try.f134.results.toList fun v=>some (v,H)) = bO.twX F aa ab ah ar bb H:=by kernel_rfl
theorem bO.cs_ok (F:Nat):∀ p ∈ bO.cs F,∀ args H v H',p.2 args H = some (v,H')→Go.AE.T Try.prog p.1 args H v H':=by
 intro p hp
 exact absurd (show p ∈ [] from hp) List.not_mem_nil
theorem bO.ok:codeOk bO.pn Try.f134.ntmps bO.tb bO.code = true:=by kernel_rfl
theorem bO.T {F:Nat} {aa:Int} {ab:Int} {ah:Sl} {ar:Int} {bb:Int} {H:Hp} {v:AV} {H':Hp} (h:bO.tw F aa ab ah ar bb H = some (v,H')):Go.AE.T Try.prog 134 [(.agg [(.int .i64 aa),(.int .i64 ab),(.sl ah)]),(.int .i64 ar),(.int .i64 bb)] H v H':=
 Go.AE.T.of (Y:=tabs) (C:=mkOrc (bO.cs F)) (PN:=bO.pn) (LH:=bO.lh F) (F:=F) (TB:=bO.tb) (fn:=Try.f134) (code:=bO.code) mixed tabs_ok (mkOrc_ok (bO.cs_ok F)) Try.func134 (by kernel_rfl) (by kernel_rfl) bO.ok (Nat.le_of_ble_eq_true (by kernel_rfl)) (bO.loops F) (Eq.trans (bO.eqX F aa ab ah ar bb H) h)
theorem bO.mk_T {F:Nat} {args:List AV} {H:Hp} {v:AV} {H':Hp} (h:bO.mk (bO.tw F) args H = some (v,H')):Go.AE.T Try.prog 134 args H v H':=by
 unfold bO.mk at h
 split at h
 ·exact bO.T h
 ·cases h
noncomputable def aN.l61 (F:Nat) (el:Sl→Int→Hp→OA) (bc:Sl→Hp→OA) (eo:Int→Int→Hp→OA) (dH:Int→Int→Sl→Int→Int→Hp→OA) :Nat→Nat→Nat→Sl→Nat→Nat→Sl→Int→Int→Hp→OA
 | 0,_,_,_,_,_,_,_,_,_=>none
 | bj + 1,dq,eS,fU,cK,dI,gX,fj,df,H42=>(bif (decide (df < fj)) then ((Sl.idx gX df 5).bind fun p94=>(Hp.ldI H42 .i64 p94.1 p94.2).bind fun n95=>(Hp.ldI H42 .i64 p94.1 (p94.2 + 1)).bind fun n96=>(Hp.ldI H42 .i64 p94.1 (p94.2 + 2)).bind fun n97=>(Hp.ldI H42 .i64 p94.1 (p94.2 + 3)).bind fun n98=>(Hp.ldI H42 .i64 p94.1 (p94.2 + 4)).bind fun n99=>(Hp.new H42 [.int .i64 0,.int .i64 0,.int .i64 0,.int .i64 0,.int .i64 0]).bind fun H100=>(Hp.st H100 H42.length 0 (.int .i64 n95)).bind fun H101=>(Hp.st H101 H42.length (0 + 1) (.int .i64 n96)).bind fun H102=>(Hp.st H102 H42.length (0 + 1 + 1) (.int .i64 n97)).bind fun H103=>(Hp.st H103 H42.length (0 + 1 + 1 + 1) (.int .i64 n98)).bind fun H104=>(Hp.st H104 H42.length (0 + 1 + 1 + 1 + 1) (.int .i64 n99)).bind fun H105=>(Hp.ldI H105 .i64 cK dI).bind fun n106=>(Hp.ldI H105 .i64 cK (dI + 1)).bind fun n107=>(Hp.ldSl H105 cK (dI + 2)).bind fun s108=>(Hp.ldI H105 .i64 H42.length 1).bind fun n109=>(Sl.idx fU n109 1).bind fun p110=>(Hp.ldI H105 .i64 p110.1 p110.2).bind fun n111=>(dH n106 n107 s108 df n111 H105).bind fun r112=>((r112.1).asP).bind fun p113=>(Hp.ldI r112.2 .i64 p113.1 p113.2).bind fun n114=>(Hp.st r112.2 p113.1 p113.2 (.int .i64 (IntKind.i64.wrap (n114 + 2)))).bind fun H115=>(Hp.ldI H115 .i64 cK dI).bind fun n116=>(Hp.ldI H115 .i64 cK (dI + 1)).bind fun n117=>(Hp.ldSl H115 cK (dI + 2)).bind fun s118=>(Hp.ldI H115 .i64 H42.length 0).bind fun n119=>(Sl.idx fU n119 1).bind fun p120=>(Hp.ldI H115 .i64 p120.1 p120.2).bind fun n121=>(dH n116 n117 s118 df n121 H115).bind fun r122=>((r122.1).asP).bind fun p123=>(Hp.ldI r122.2 .i64 p123.1 p123.2).bind fun n124=>(Hp.st r122.2 p123.1 p123.2 (.int .i64 (IntKind.i64.wrap (n124 - 1)))).bind fun H125=>(Hp.ldI H125 .i64 cK dI).bind fun n126=>(Hp.ldI H125 .i64 cK (dI + 1)).bind fun n127=>(Hp.ldSl H125 cK (dI + 2)).bind fun s128=>(Hp.ldI H125 .i64 H42.length 2).bind fun n129=>(Sl.idx fU n129 1).bind fun p130=>(Hp.ldI H125 .i64 p130.1 p130.2).bind fun n131=>(dH n126 n127 s128 df n131 H125).bind fun r132=>((r132.1).asP).bind fun p133=>(Hp.ldI r132.2 .i64 p133.1 p133.2).bind fun n134=>(Hp.st r132.2 p133.1 p133.2 (.int .i64 (IntKind.i64.wrap (n134 - 1)))).bind fun H135=>aN.l61 F el bc eo dH bj dq eS fU cK dI gX fj (IntKind.i64.wrap (df + 1)) H135) else ((Hp.ldI H42 .i64 cK dI).bind fun n136=>(Hp.ldI H42 .i64 cK (dI + 1)).bind fun n137=>(Hp.ldSl H42 cK (dI + 2)).bind fun s138=>(Hp.st H42 dq eS (.int .i64 n136)).bind fun H139=>(Hp.st H139 dq (eS + 1) (.int .i64 n137)).bind fun H140=>(Hp.st H140 dq (eS + 1 + 1) (.sl s138)).bind fun H141=>(Hp.ldI H141 .i64 dq eS).bind fun n142=>(Hp.ldI H141 .i64 dq (eS + 1)).bind fun n143=>(Hp.ldSl H141 dq (eS + 2)).bind fun s144=>some ((.agg [(.int .i64 n142),(.int .i64 n143),(.sl s144)]),H141)))
termination_by structural n=>n
noncomputable def aN.twX (F:Nat) (el:Sl→Int→Hp→OA) (bc:Sl→Hp→OA) (eo:Int→Int→Hp→OA) (dH:Int→Int→Sl→Int→Int→Hp→OA) (aa:Sl) (ab:Int) (H:Hp):OA:=(Hp.new H [(.sl aa),(.int .i64 ab)]).bind fun H3=>(Hp.new H3 [.int .i64 0,.int .i64 0,.sl ⟨none,0,.ex 0⟩]).bind fun H4=>(Hp.ldSl H4 H.length 0).bind fun s5=>(Hp.ldI H4 .i64 H.length (0 + 1)).bind fun n6=>(el s5 n6 H4).bind fun r7=>((r7.1).asTup 2).bind fun l8=>(l8[0]?).bind fun v9=>((v9).asSl).bind fun s10=>(l8[1]?).bind fun v11=>((v11).asI .i64).bind fun n12=>(Hp.ldSl r7.2 H.length 0).bind fun s13=>(bc s13 r7.2).bind fun r14=>((r14.1).asI .i64).bind fun n15=>(eo n15 n12 r14.2).bind fun r16=>((r16.1).asAgg 3).bind fun l17=>(l17[0]?).bind fun v18=>((v18).asI .i64).bind fun n19=>(l17[1]?).bind fun v20=>((v20).asI .i64).bind fun n21=>(l17[2]?).bind fun v22=>((v22).asSl).bind fun s23=>(Hp.new r16.2 [.int .i64 0,.int .i64 0,.sl ⟨none,0,.ex 0⟩]).bind fun H24=>(Hp.st H24 r16.2.length 0 (.int .i64 n19)).bind fun H25=>(Hp.st H25 r16.2.length (0 + 1) (.int .i64 n21)).bind fun H26=>(Hp.st H26 r16.2.length (0 + 1 + 1) (.sl s23)).bind fun H27=>(Hp.ldSl H27 H.length 0).bind fun s28=>aN.l61 F el bc eo dH F H3.length 0 s10 r16.2.length 0 s28 (s28.n:Int) 0 H27
noncomputable def aN.tw (F:Nat) (aa:Sl) (ab:Int) (H:Hp):OA:=aN.twX F (aD.tw F) (aG.tw F) (bG.tw F) (bO.tw F) aa ab H
noncomputable def aN.code:Go.Code:=(Try.f82.body).getD .skip
noncomputable def aN.lh61 (F:Nat) (el:Sl→Int→Hp→OA) (bc:Sl→Hp→OA) (eo:Int→Int→Hp→OA) (dH:Int→Int→Sl→Int→Int→Hp→OA) (ks:List Nat) (n:Nat) (tm:Tm) (H:Hp):OA:=match ks,tm 2,tm 3,tm 5,tm 19,tm 20,tm 21 with
 | [],(.ptr dq eS),(.sl fU),(.ptr cK dI),(.sl gX),(.int .i64 fj),(.int .i64 df)=>aN.l61 F el bc eo dH n dq eS fU cK dI gX fj df H
 | _,_,_,_,_,_,_=>none
theorem aN.lh61_inv {F:Nat} {el:Sl→Int→Hp→OA} {bc:Sl→Hp→OA} {eo:Int→Int→Hp→OA} {dH:Int→Int→Sl→Int→Int→Hp→OA} {ks:List Nat} {n:Nat} {tm:Tm} {H:Hp} {r:AV×Hp} (h:aN.lh61 F el bc eo dH ks n tm H = some r):∃ dq:Nat,∃ eS:Nat,∃ fU:Sl,∃ cK:Nat,∃ dI:Nat,∃ gX:Sl,∃ fj:Int,∃ df:Int,ks = []∧tm 2 = (.ptr dq eS)∧tm 3 = (.sl fU)∧tm 5 = (.ptr cK dI)∧tm 19 = (.sl gX)∧tm 20 = (.int .i64 fj)∧tm 21 = (.int .i64 df)∧aN.l61 F el bc eo dH n dq eS fU cK dI gX fj df H = some r:=by
 unfold aN.lh61 at h
 split at h
 ·exact ⟨_,_,_,_,_,_,_,_,rfl,by assumption,by assumption,by assumption,by assumption,by assumption,by assumption,h⟩
 ·cases h
noncomputable def aN.lh (F:Nat) (el:Sl→Int→Hp→OA) (bc:Sl→Hp→OA) (eo:Int→Int→Hp→OA) (dH:Int→Int→Sl→Int→Int→Hp→OA) (p:Nat) (ks:List Nat) (n:Nat) (tm:Tm) (H:Hp):OA:=bif p.beq 61 then aN.lh61 F el bc eo dH ks n tm H else (none)
def aN.pn:Nat→List Nat:=fun i=>(([(6,[7,12]),(7,[7,12]),(8,[7,12])]:List (Nat×List Nat)).lookup i).getD []
def aN.tb:Nat→List (List Nat):=fun i=>(([(6,[[],[],[],[],[3],[2,3,4],[2,3,4,5],[0,1,2,3,4,5,6],[0,1,2,3,4,5,6,7],[0,1,2,3,4,5,6,7,8],[0,1,2,3,4,5,6,7,8,9],[0,1,2,3,4,5,6,7,8,9,10],[0,1,2,3,4,5,6,7,8,9,10,11]]),(7,[[],[],[],[],[3],[2,3,4],[2,3,4,5],[0,1,2,3,4,5,6],[0,1,2,3,4,5,6,7],[0,1,2,3,4,5,6,7,8],[0,1,2,3,4,5,6,7,8,9],[0,1,2,3,4,5,6,7,8,9,10],[0,1,2,3,4,5,6,7,8,9,10,11]]),(8,[[],[],[],[],[3],[2,3,4],[2,3,4,5],[0,1,2,3,4,5,6],[0,1,2,3,4,5,6,7],[0,1,2,3,4,5,6,7,8],[0,1,2,3,4,5,6,7,8,9],[0,1,2,3,4,5,6,7,8,9,10],[0,1,2,3,4,5,6,7,8,9,10,11]])]:List (Nat×List (List Nat))).lookup i).getD []
noncomputable def aN.mk (g:Sl→Int→Hp→OA) (args:List AV) (H:Hp):OA:=match args with
 | [(.agg [(.sl aa),(.int .i64 ab)])]=>g aa ab H
 | _=>none
noncomputable def aN.cs (F:Nat) (el:Sl→Int→Hp→OA) (bc:Sl→Hp→OA) (eo:Int→Int→Hp→OA) (dH:Int→Int→Sl→Int→Int→Hp→OA):List (FuncId×(List AV→Hp→OA)):=[(62,aD.mk el),(117,aG.mk bc),(133,bG.mk eo),(134,bO.mk dH)]
theorem aN.loops (F:Nat) (el:Sl→Int→Hp→OA) (bc:Sl→Hp→OA) (eo:Int→Int→Hp→OA) (dH:Int→Int→Sl→Int→Int→Hp→OA):LoopsOk tabs (mkOrc (aN.cs F el bc eo dH)) aN.pn (aN.lh F el bc eo dH) F [] 1 aN.code (fun tm H=>aresults tabs.ty H tm Try.f82.results.toList fun v=>some (v,H)) (fun _ _ _=>none) (fun tm H=>aresults tabs.ty H tm Try.f82.results.toList fun v=>some (v,H)):=by
 refine LoopsOk.seq ?_ ?_
 ·exact loops_none (by kernel_rfl)
 ·refine LoopsOk.seq ?_ ?_
  ·exact loops_none (by kernel_rfl)
  ·refine LoopsOk.seq ?_ ?_
   ·exact loops_none (by kernel_rfl)
   ·refine LoopsOk.seq ?_ ?_
    ·refine LoopsOk.seq ?_ ?_
     ·exact loops_none (by kernel_rfl)
     ·refine LoopsOk.block ?_
      refine LoopsOk.loop (fun tm H=>?_) (fun k61 tm H r h0=>?_) (fun k61=>?_)
      ·refine none_of fun r h0=>?_
       obtain ⟨dq,eS,fU,cK,dI,gX,fj,df,hks,e2,e3,e5,e19,e20,e21,h⟩:=aN.lh61_inv (show aN.lh61 F el bc eo dH [] 0 tm H = some r from h0)
       cases h
      ·obtain ⟨dq,eS,fU,cK,dI,gX,fj,df,hks,e2,e3,e5,e19,e20,e21,h⟩:=aN.lh61_inv (show aN.lh61 F el bc eo dH [] (k61 + 1) tm H = some r from h0)
       have q0:(Tm.put tm 2 (.ptr dq eS)) = tm:=by exact Tm.put_same e2
       have q1:(Tm.put (Tm.put tm 2 (.ptr dq eS)) 3 (.sl fU)) = tm:=by rw [q0]; exact Tm.put_same e3
       have q2:(Tm.put (Tm.put (Tm.put tm 2 (.ptr dq eS)) 3 (.sl fU)) 5 (.ptr cK dI)) = tm:=by rw [q1]; exact Tm.put_same e5
       have q3:(Tm.put (Tm.put (Tm.put (Tm.put tm 2 (.ptr dq eS)) 3 (.sl fU)) 5 (.ptr cK dI)) 19 (.sl gX)) = tm:=by rw [q2]; exact Tm.put_same e19
       have q4:(Tm.put (Tm.put (Tm.put (Tm.put (Tm.put tm 2 (.ptr dq eS)) 3 (.sl fU)) 5 (.ptr cK dI)) 19 (.sl gX)) 20 (.int .i64 fj)) = tm:=by rw [q3]; exact Tm.put_same e20
       have q5:(Tm.put (Tm.put (Tm.put (Tm.put (Tm.put (Tm.put tm 2 (.ptr dq eS)) 3 (.sl fU)) 5 (.ptr cK dI)) 19 (.sl gX)) 20 (.int .i64 fj)) 21 (.int .i64 df)) = tm:=by rw [q4]; exact Tm.put_same e21
       rw [← q5]
       exact Eq.trans (by kernel_rfl) h
      ·exact loops_none (by kernel_rfl)
    ·exact loops_none (by kernel_rfl)
theorem aN.eqX (F:Nat) (el:Sl→Int→Hp→OA) (bc:Sl→Hp→OA) (eo:Int→Int→Hp→OA) (dH:Int→Int→Sl→Int→Int→Hp→OA) (aa:Sl) (ab:Int) (H:Hp):aCode tabs (mkOrc (aN.cs F el bc eo dH)) aN.pn (aN.lh F el bc eo dH) F [] 1 aN.code (argTm [(.agg [(.sl aa),(.int .i64 ab)])]) H (fun tm H=>aresults tabs.ty H tm Try.f82.results.toList fun v=>some (v,H)) (fun _ _ _=>none) (fun tm H=>aresults tabs.ty H tm Try.f82.results.toList fun v=>some (v,H)) = aN.twX F el bc eo dH aa ab H:=by kernel_rfl
theorem aN.cs_ok (F:Nat):∀ p ∈ aN.cs F (aD.tw F) (aG.tw F) (bG.tw F) (bO.tw F),∀ args H v H',p.2 args H = some (v,H')→Go.AE.T Try.prog p.1 args H v H':=by
 intro p hp
 simp only [aN.cs,List.mem_cons,List.not_mem_nil,or_false] at hp
 rcases hp with rfl | rfl | rfl | rfl
 ·exact fun args H v H' h=>aD.mk_T h
 ·exact fun args H v H' h=>aG.mk_T h
 ·exact fun args H v H' h=>bG.mk_T h
 ·exact fun args H v H' h=>bO.mk_T h
theorem aN.ok:codeOk aN.pn Try.f82.ntmps aN.tb aN.code = true:=by kernel_rfl
theorem aN.T {F:Nat} {aa:Sl} {ab:Int} {H:Hp} {v:AV} {H':Hp} (h:aN.tw F aa ab H = some (v,H')):Go.AE.T Try.prog 82 [(.agg [(.sl aa),(.int .i64 ab)])] H v H':=
 Go.AE.T.of (Y:=tabs) (C:=mkOrc (aN.cs F (aD.tw F) (aG.tw F) (bG.tw F) (bO.tw F))) (PN:=aN.pn) (LH:=aN.lh F (aD.tw F) (aG.tw F) (bG.tw F) (bO.tw F)) (F:=F) (TB:=aN.tb) (fn:=Try.f82) (code:=aN.code) mixed tabs_ok (mkOrc_ok (aN.cs_ok F)) Try.func82 (by kernel_rfl) (by kernel_rfl) aN.ok (Nat.le_of_ble_eq_true (by kernel_rfl)) (aN.loops F (aD.tw F) (aG.tw F) (bG.tw F) (bO.tw F)) (Eq.trans (aN.eqX F (aD.tw F) (aG.tw F) (bG.tw F) (bO.tw F) aa ab H) h)
theorem aN.mk_T {F:Nat} {args:List AV} {H:Hp} {v:AV} {H':Hp} (h:aN.mk (aN.tw F) args H = some (v,H')):Go.AE.T Try.prog 82 args H v H':=by
 unfold aN.mk at h
 split at h
 ·exact aN.T h
 ·cases h
noncomputable def bH.twX (F:Nat) (aa:Sl) (H:Hp):OA:=some ((.int .i64 (aa.n:Int)),H)
noncomputable def bH.tw (F:Nat) (aa:Sl) (H:Hp):OA:=bH.twX F aa H
noncomputable def bH.code:Go.Code:=(Try.f83.body).getD .skip
noncomputable def bH.lh (F:Nat) (p:Nat) (ks:List Nat) (n:Nat) (tm:Tm) (H:Hp):OA:=none
def bH.pn:Nat→List Nat:=fun i=>(([]:List (Nat×List Nat)).lookup i).getD []
def bH.tb:Nat→List (List Nat):=fun i=>(([]:List (Nat×List (List Nat))).lookup i).getD []
noncomputable def bH.mk (g:Sl→Hp→OA) (args:List AV) (H:Hp):OA:=match args with
 | [(.sl aa)]=>g aa H
 | _=>none
noncomputable def bH.cs (F:Nat):List (FuncId×(List AV→Hp→OA)):=[]
theorem bH.loops (F:Nat):LoopsOk tabs (mkOrc (bH.cs F)) bH.pn (bH.lh F) F [] 1 bH.code (fun tm H=>aresults tabs.ty H tm Try.f83.results.toList fun v=>some (v,H)) (fun _ _ _=>none) (fun tm H=>aresults tabs.ty H tm Try.f83.results.toList fun v=>some (v,H)):=by
 exact loops_none (by kernel_rfl)
theorem bH.eqX (F:Nat) (aa:Sl) (H:Hp):aCode tabs (mkOrc (bH.cs F)) bH.pn (bH.lh F) F [] 1 bH.code (argTm [(.sl aa)]) H (fun tm H=>aresults tabs.ty H tm Try.f83.results.toList fun v=>some (v,H)) (fun _ _ _=>none) (fun tm H=>aresults tabs.ty H tm Try.f83.results.toList fun v=>some (v,H)) = bH.twX F aa H:=by kernel_rfl
theorem bH.cs_ok (F:Nat):∀ p ∈ bH.cs F,∀ args H v H',p.2 args H = some (v,H')→Go.AE.T Try.prog p.1 args H v H':=by
 intro p hp
 exact absurd (show p ∈ [] from hp) List.not_mem_nil
theorem bH.ok:codeOk bH.pn Try.f83.ntmps bH.tb bH.code = true:=by kernel_rfl
theorem bH.T {F:Nat} {aa:Sl} {H:Hp} {v:AV} {H':Hp} (h:bH.tw F aa H = some (v,H')):Go.AE.T Try.prog 83 [(.sl aa)] H v H':=
 Go.AE.T.of (Y:=tabs) (C:=mkOrc (bH.cs F)) (PN:=bH.pn) (LH:=bH.lh F) (F:=F) (TB:=bH.tb) (fn:=Try.f83) (code:=bH.code) mixed tabs_ok (mkOrc_ok (bH.cs_ok F)) Try.func83 (by kernel_rfl) (by kernel_rfl) bH.ok (Nat.le_of_ble_eq_true (by kernel_rfl)) (bH.loops F) (Eq.trans (bH.eqX F aa H) h)
theorem bH.mk_T {F:Nat} {args:List AV} {H:Hp} {v:AV} {H':Hp} (h:bH.mk (bH.tw F) args H = some (v,H')):Go.AE.T Try.prog 83 args H v H':=by
 unfold bH.mk at h
 split at h
 ·exact bH.T h
 ·cases h
noncomputable def bA.twX (F:Nat) (aa:Int) (ab:Int) (ah:Sl) (ar:Int) (H:Hp):OA:=(Hp.new H [(.int .i64 aa),(.int .i64 ab),(.sl ah)]).bind fun H5=>(Hp.ldSl H5 H.length 2).bind fun s6=>(Hp.ldI H5 .i64 H.length 1).bind fun n7=>(Hp.ldI H5 .i64 H.length 1).bind fun n8=>(Sl.cut s6 1 (IntKind.i64.wrap (ar * n7)) (IntKind.i64.wrap ((IntKind.i64.wrap (ar + 1)) * n8))).bind fun s9=>some ((.sl s9),H5)
noncomputable def bA.tw (F:Nat) (aa:Int) (ab:Int) (ah:Sl) (ar:Int) (H:Hp):OA:=bA.twX F aa ab ah ar H
noncomputable def bA.code:Go.Code:=(Try.f85.body).getD .skip
noncomputable def bA.lh (F:Nat) (p:Nat) (ks:List Nat) (n:Nat) (tm:Tm) (H:Hp):OA:=none
def bA.pn:Nat→List Nat:=fun i=>(([]:List (Nat×List Nat)).lookup i).getD []
def bA.tb:Nat→List (List Nat):=fun i=>(([]:List (Nat×List (List Nat))).lookup i).getD []
noncomputable def bA.mk (g:Int→Int→Sl→Int→Hp→OA) (args:List AV) (H:Hp):OA:=match args with
 | [(.agg [(.int .i64 aa),(.int .i64 ab),(.sl ah)]),(.int .i64 ar)]=>g aa ab ah ar H
 | _=>none
noncomputable def bA.cs (F:Nat):List (FuncId×(List AV→Hp→OA)):=[]
theorem bA.loops (F:Nat):LoopsOk tabs (mkOrc (bA.cs F)) bA.pn (bA.lh F) F [] 1 bA.code (fun tm H=>aresults tabs.ty H tm Try.f85.results.toList fun v=>some (v,H)) (fun _ _ _=>none) (fun tm H=>aresults tabs.ty H tm Try.f85.results.toList fun v=>some (v,H)):=by
 exact loops_none (by kernel_rfl)
theorem bA.eqX (F:Nat) (aa:Int) (ab:Int) (ah:Sl) (ar:Int) (H:Hp):aCode tabs (mkOrc (bA.cs F)) bA.pn (bA.lh F) F [] 1 bA.code (argTm [(.agg [(.int .i64 aa),(.int .i64 ab),(.sl ah)]),(.int .i64 ar)]) H (fun tm H=>aresults tabs.ty H tm Try.f85.results.toList fun v=>some (v,H)) (fun _ _ _=>none) (fun tm H=>aresults tabs.ty H tm Try.f85.results.toList fun v=>some (v,H)) = bA.twX F aa ab ah ar H:=by kernel_rfl
theorem bA.cs_ok (F:Nat):∀ p ∈ bA.cs F,∀ args H v H',p.2 args H = some (v,H')→Go.AE.T Try.prog p.1 args H v H':=by
 intro p hp
 exact absurd (show p ∈ [] from hp) List.not_mem_nil
theorem bA.ok:codeOk bA.pn Try.f85.ntmps bA.tb bA.code = true:=by kernel_rfl
theorem bA.T {F:Nat} {aa:Int} {ab:Int} {ah:Sl} {ar:Int} {H:Hp} {v:AV} {H':Hp} (h:bA.tw F aa ab ah ar H = some (v,H')):Go.AE.T Try.prog 85 [(.agg [(.int .i64 aa),(.int .i64 ab),(.sl ah)]),(.int .i64 ar)] H v H':=
 Go.AE.T.of (Y:=tabs) (C:=mkOrc (bA.cs F)) (PN:=bA.pn) (LH:=bA.lh F) (F:=F) (TB:=bA.tb) (fn:=Try.f85) (code:=bA.code) mixed tabs_ok (mkOrc_ok (bA.cs_ok F)) Try.func85 (by kernel_rfl) (by kernel_rfl) bA.ok (Nat.le_of_ble_eq_true (by kernel_rfl)) (bA.loops F) (Eq.trans (bA.eqX F aa ab ah ar H) h)
theorem bA.mk_T {F:Nat} {args:List AV} {H:Hp} {v:AV} {H':Hp} (h:bA.mk (bA.tw F) args H = some (v,H')):Go.AE.T Try.prog 85 args H v H':=by
 unfold bA.mk at h
 split at h
 ·exact bA.T h
 ·cases h
noncomputable def aR.l29 (F:Nat) :Nat→Sl→Int→Sl→Int→Int→Hp→OA
 | 0,_,_,_,_,_,_=>none
 | cZ + 1,ck,eF,ct,fk,ep,H10=>(bif (decide (ep < fk)) then ((Sl.idx ct ep 1).bind fun p15=>(Hp.ldI H10 .i64 p15.1 p15.2).bind fun n16=>(Sl.idx ck ep 1).bind fun p17=>(Hp.ldI H10 .i64 p17.1 p17.2).bind fun n18=>aR.l29 F cZ ck (IntKind.i64.wrap (eF + (IntKind.i64.wrap (n16 * n18)))) ct fk (IntKind.i64.wrap (ep + 1)) H10) else (some ((.int .i64 eF),H10)))
termination_by structural n=>n
noncomputable def aR.twX (F:Nat) (aa:Sl) (ad:Sl) (H:Hp):OA:=aR.l29 F F ad 0 aa (aa.n:Int) 0 H
noncomputable def aR.tw (F:Nat) (aa:Sl) (ad:Sl) (H:Hp):OA:=aR.twX F aa ad H
noncomputable def aR.code:Go.Code:=(Try.f84.body).getD .skip
noncomputable def aR.lh29 (F:Nat) (ks:List Nat) (n:Nat) (tm:Tm) (H:Hp):OA:=match ks,tm 1,tm 5,tm 8,tm 9,tm 10 with
 | [],(.sl ck),(.int .i64 eF),(.sl ct),(.int .i64 fk),(.int .i64 ep)=>aR.l29 F n ck eF ct fk ep H
 | _,_,_,_,_,_=>none
theorem aR.lh29_inv {F:Nat} {ks:List Nat} {n:Nat} {tm:Tm} {H:Hp} {r:AV×Hp} (h:aR.lh29 F ks n tm H = some r):∃ ck:Sl,∃ eF:Int,∃ ct:Sl,∃ fk:Int,∃ ep:Int,ks = []∧tm 1 = (.sl ck)∧tm 5 = (.int .i64 eF)∧tm 8 = (.sl ct)∧tm 9 = (.int .i64 fk)∧tm 10 = (.int .i64 ep)∧aR.l29 F n ck eF ct fk ep H = some r:=by
 unfold aR.lh29 at h
 split at h
 ·exact ⟨_,_,_,_,_,rfl,by assumption,by assumption,by assumption,by assumption,by assumption,h⟩
 ·cases h
noncomputable def aR.lh (F:Nat) (p:Nat) (ks:List Nat) (n:Nat) (tm:Tm) (H:Hp):OA:=bif p.beq 29 then aR.lh29 F ks n tm H else (none)
def aR.pn:Nat→List Nat:=fun i=>(([]:List (Nat×List Nat)).lookup i).getD []
def aR.tb:Nat→List (List Nat):=fun i=>(([]:List (Nat×List (List Nat))).lookup i).getD []
noncomputable def aR.mk (g:Sl→Sl→Hp→OA) (args:List AV) (H:Hp):OA:=match args with
 | [(.sl aa),(.sl ad)]=>g aa ad H
 | _=>none
noncomputable def aR.cs (F:Nat):List (FuncId×(List AV→Hp→OA)):=[]
theorem aR.loops (F:Nat):LoopsOk tabs (mkOrc (aR.cs F)) aR.pn (aR.lh F) F [] 1 aR.code (fun tm H=>aresults tabs.ty H tm Try.f84.results.toList fun v=>some (v,H)) (fun _ _ _=>none) (fun tm H=>aresults tabs.ty H tm Try.f84.results.toList fun v=>some (v,H)):=by
 refine LoopsOk.seq ?_ ?_
 ·exact loops_none (by kernel_rfl)
 ·refine LoopsOk.seq ?_ ?_
  ·exact loops_none (by kernel_rfl)
  ·refine LoopsOk.seq ?_ ?_
   ·refine LoopsOk.seq ?_ ?_
    ·exact loops_none (by kernel_rfl)
    ·refine LoopsOk.block ?_
     refine LoopsOk.loop (fun tm H=>?_) (fun k29 tm H r h0=>?_) (fun k29=>?_)
     ·refine none_of fun r h0=>?_
      obtain ⟨ck,eF,ct,fk,ep,hks,e1,e5,e8,e9,e10,h⟩:=aR.lh29_inv (show aR.lh29 F [] 0 tm H = some r from h0)
      cases h
     ·obtain ⟨ck,eF,ct,fk,ep,hks,e1,e5,e8,e9,e10,h⟩:=aR.lh29_inv (show aR.lh29 F [] (k29 + 1) tm H = some r from h0)
      have q0:(Tm.put tm 1 (.sl ck)) = tm:=by exact Tm.put_same e1
      have q1:(Tm.put (Tm.put tm 1 (.sl ck)) 5 (.int .i64 eF)) = tm:=by rw [q0]; exact Tm.put_same e5
      have q2:(Tm.put (Tm.put (Tm.put tm 1 (.sl ck)) 5 (.int .i64 eF)) 8 (.sl ct)) = tm:=by rw [q1]; exact Tm.put_same e8
      have q3:(Tm.put (Tm.put (Tm.put (Tm.put tm 1 (.sl ck)) 5 (.int .i64 eF)) 8 (.sl ct)) 9 (.int .i64 fk)) = tm:=by rw [q2]; exact Tm.put_same e9
      have q4:(Tm.put (Tm.put (Tm.put (Tm.put (Tm.put tm 1 (.sl ck)) 5 (.int .i64 eF)) 8 (.sl ct)) 9 (.int .i64 fk)) 10 (.int .i64 ep)) = tm:=by rw [q3]; exact Tm.put_same e10
      rw [← q4]
      exact Eq.trans (by kernel_rfl) h
     ·exact loops_none (by kernel_rfl)
   ·exact loops_none (by kernel_rfl)
theorem aR.eqX (F:Nat) (aa:Sl) (ad:Sl) (H:Hp):aCode tabs (mkOrc (aR.cs F)) aR.pn (aR.lh F) F [] 1 aR.code (argTm [(.sl aa),(.sl ad)]) H (fun tm H=>aresults tabs.ty H tm Try.f84.results.toList fun v=>some (v,H)) (fun _ _ _=>none) (fun tm H=>aresults tabs.ty H tm Try.f84.results.toList fun v=>some (v,H)) = aR.twX F aa ad H:=by kernel_rfl
theorem aR.cs_ok (F:Nat):∀ p ∈ aR.cs F,∀ args H v H',p.2 args H = some (v,H')→Go.AE.T Try.prog p.1 args H v H':=by
 intro p hp
 exact absurd (show p ∈ [] from hp) List.not_mem_nil
theorem aR.ok:codeOk aR.pn Try.f84.ntmps aR.tb aR.code = true:=by kernel_rfl
theorem aR.T {F:Nat} {aa:Sl} {ad:Sl} {H:Hp} {v:AV} {H':Hp} (h:aR.tw F aa ad H = some (v,H')):Go.AE.T Try.prog 84 [(.sl aa),(.sl ad)] H v H':=
 Go.AE.T.of (Y:=tabs) (C:=mkOrc (aR.cs F)) (PN:=aR.pn) (LH:=aR.lh F) (F:=F) (TB:=aR.tb) (fn:=Try.f84) (code:=aR.code) mixed tabs_ok (mkOrc_ok (aR.cs_ok F)) Try.func84 (by kernel_rfl) (by kernel_rfl) aR.ok (Nat.le_of_ble_eq_true (by kernel_rfl)) (aR.loops F) (Eq.trans (aR.eqX F aa ad H) h)
theorem aR.mk_T {F:Nat} {args:List AV} {H:Hp} {v:AV} {H':Hp} (h:aR.mk (aR.tw F) args H = some (v,H')):Go.AE.T Try.prog 84 args H v H':=by
 unfold aR.mk at h
 split at h
 ·exact aR.T h
 ·cases h
noncomputable def aS.l125 (F:Nat) (er:Sl→Int→Hp→OA) (es:Int→Hp→OA) (et:Sl→Nat→Nat→Hp→OA) (eu:Sl→Int→Hp→OA) (ev:Sl→Hp→OA) (ew:Int→Int→Sl→Int→Hp→OA) (ey:Sl→Sl→Hp→OA) :Nat→Sl→Nat→Nat→Nat→Nat→Int→Int→Hp→OA
 | 0,_,_,_,_,_,_,_,_=>none
 | Co + 1,gx,fC,gJ,fl,gy,fm,eT,H49=>(bif (decide (eT < fm)) then ((Hp.ldI H49 .i64 fl gy).bind fun n58=>(Hp.ldI H49 .i64 fl (gy + 1)).bind fun n59=>(Hp.ldSl H49 fl (gy + 2)).bind fun s60=>(ew n58 n59 s60 eT H49).bind fun r61=>((r61.1).asSl).bind fun s62=>(if Cons H49 r61.2 then ((ey s62 gx r61.2).bind fun r63=>((r63.1).asI .i64).bind fun n64=>(if Cons r61.2 r63.2 then ((Hp.ldI r63.2 .i64 fC gJ).bind fun n65=>(if n65 = 0 then none else ((bif ((Int.tmod n64 n65) != 0) then (some ((.bool false),r63.2)) else (aS.l125 F er es et eu ev ew ey Co gx fC gJ fl gy fm (IntKind.i64.wrap (eT + 1)) r63.2))))) else none)) else none)) else (some ((.bool true),H49)))
termination_by structural n=>n
noncomputable def aS.twX (F:Nat) (er:Sl→Int→Hp→OA) (es:Int→Hp→OA) (et:Sl→Nat→Nat→Hp→OA) (eu:Sl→Int→Hp→OA) (ev:Sl→Hp→OA) (ew:Int→Int→Sl→Int→Hp→OA) (ey:Sl→Sl→Hp→OA) (aa:Sl) (ab:Int) (af:Int) (bJ:Sl) (H:Hp):OA:=(Hp.new H [(.sl aa),(.int .i64 ab)]).bind fun H5=>(Hp.new H5 [(.int .i64 af)]).bind fun H6=>(Hp.ldSl H6 H.length 0).bind fun s7=>(Hp.ldI H6 .i64 H.length (0 + 1)).bind fun n8=>(er s7 n8 H6).bind fun r9=>((r9.1).asB).bind fun b10=>(bif (!b10) then (some ((.bool false),r9.2)) else ((Hp.ldI r9.2 .i64 H5.length 0).bind fun n11=>(es n11 r9.2).bind fun r12=>((r12.1).asB).bind fun b13=>(bif (!b13) then (some ((.bool false),r12.2)) else ((et bJ H5.length 0 r12.2).bind fun r14=>((r14.1).asB).bind fun b15=>(bif b15 then (some ((.bool false),r14.2)) else ((Hp.ldSl r14.2 H.length 0).bind fun s16=>(Hp.ldI r14.2 .i64 H.length (0 + 1)).bind fun n17=>(eu s16 n17 r14.2).bind fun r18=>((r18.1).asAgg 3).bind fun l19=>(l19[0]?).bind fun v20=>((v20).asI .i64).bind fun n21=>(l19[1]?).bind fun v22=>((v22).asI .i64).bind fun n23=>(l19[2]?).bind fun v24=>((v24).asSl).bind fun s25=>(Hp.new r18.2 [.int .i64 0,.int .i64 0,.sl ⟨none,0,.ex 0⟩]).bind fun H26=>(Hp.st H26 r18.2.length 0 (.int .i64 n21)).bind fun H27=>(Hp.st H27 r18.2.length (0 + 1) (.int .i64 n23)).bind fun H28=>(Hp.st H28 r18.2.length (0 + 1 + 1) (.sl s25)).bind fun H29=>(ev bJ H29).bind fun r30=>((r30.1).asI .i64).bind fun n31=>(if Cons H29 r30.2 then ((Hp.ldI r30.2 .i64 r18.2.length 1).bind fun n32=>(bif (n31 != n32) then (some ((.bool false),r30.2)) else ((Hp.ldI r30.2 .i64 r18.2.length 0).bind fun n33=>aS.l125 F er es et eu ev ew ey F bJ H5.length 0 r18.2.length 0 n33 0 r30.2))) else none)))))))
noncomputable def aS.tw (F:Nat) (aa:Sl) (ab:Int) (af:Int) (bJ:Sl) (H:Hp):OA:=aS.twX F (br.tw F) (bw.tw F) (bz.tw F) (aN.tw F) (bH.tw F) (bA.tw F) (aR.tw F) aa ab af bJ H
noncomputable def aS.code:Go.Code:=(Try.f32.body).getD .skip
noncomputable def aS.lh125 (F:Nat) (er:Sl→Int→Hp→OA) (es:Int→Hp→OA) (et:Sl→Nat→Nat→Hp→OA) (eu:Sl→Int→Hp→OA) (ev:Sl→Hp→OA) (ew:Int→Int→Sl→Int→Hp→OA) (ey:Sl→Sl→Hp→OA) (ks:List Nat) (n:Nat) (tm:Tm) (H:Hp):OA:=match ks,tm 2,tm 4,tm 7,tm 30,tm 31 with
 | [],(.sl gx),(.ptr fC gJ),(.ptr fl gy),(.int .i64 fm),(.int .i64 eT)=>aS.l125 F er es et eu ev ew ey n gx fC gJ fl gy fm eT H
 | _,_,_,_,_,_=>none
theorem aS.lh125_inv {F:Nat} {er:Sl→Int→Hp→OA} {es:Int→Hp→OA} {et:Sl→Nat→Nat→Hp→OA} {eu:Sl→Int→Hp→OA} {ev:Sl→Hp→OA} {ew:Int→Int→Sl→Int→Hp→OA} {ey:Sl→Sl→Hp→OA} {ks:List Nat} {n:Nat} {tm:Tm} {H:Hp} {r:AV×Hp} (h:aS.lh125 F er es et eu ev ew ey ks n tm H = some r):∃ gx:Sl,∃ fC:Nat,∃ gJ:Nat,∃ fl:Nat,∃ gy:Nat,∃ fm:Int,∃ eT:Int,ks = []∧tm 2 = (.sl gx)∧tm 4 = (.ptr fC gJ)∧tm 7 = (.ptr fl gy)∧tm 30 = (.int .i64 fm)∧tm 31 = (.int .i64 eT)∧aS.l125 F er es et eu ev ew ey n gx fC gJ fl gy fm eT H = some r:=by
 unfold aS.lh125 at h
 split at h
 ·exact ⟨_,_,_,_,_,_,_,rfl,by assumption,by assumption,by assumption,by assumption,by assumption,h⟩
 ·cases h
noncomputable def aS.lh (F:Nat) (er:Sl→Int→Hp→OA) (es:Int→Hp→OA) (et:Sl→Nat→Nat→Hp→OA) (eu:Sl→Int→Hp→OA) (ev:Sl→Hp→OA) (ew:Int→Int→Sl→Int→Hp→OA) (ey:Sl→Sl→Hp→OA) (p:Nat) (ks:List Nat) (n:Nat) (tm:Tm) (H:Hp):OA:=bif p.beq 125 then aS.lh125 F er es et eu ev ew ey ks n tm H else (none)
def aS.pn:Nat→List Nat:=fun i=>(([(4,[]),(9,[])]:List (Nat×List Nat)).lookup i).getD []
def aS.tb:Nat→List (List Nat):=fun i=>(([(4,[[],[0],[],[2],[0,1,2,3]]),(9,[[],[],[0,1],[],[0,1,2,3],[],[0,1,2,3,4,5],[0,1,2,3,4,5,6]])]:List (Nat×List (List Nat))).lookup i).getD []
noncomputable def aS.mk (g:Sl→Int→Int→Sl→Hp→OA) (args:List AV) (H:Hp):OA:=match args with
 | [(.agg [(.sl aa),(.int .i64 ab)]),(.int .i64 af),(.sl bJ)]=>g aa ab af bJ H
 | _=>none
noncomputable def aS.cs (F:Nat) (er:Sl→Int→Hp→OA) (es:Int→Hp→OA) (et:Sl→Nat→Nat→Hp→OA) (eu:Sl→Int→Hp→OA) (ev:Sl→Hp→OA) (ew:Int→Int→Sl→Int→Hp→OA) (ey:Sl→Sl→Hp→OA):List (FuncId×(List AV→Hp→OA)):=[(61,br.mk er),(78,bw.mk es),(79,bz.mk et),(82,aN.mk eu),(83,bH.mk ev),(85,bA.mk ew),(84,aR.mk ey)]
theorem aS.loops (F:Nat) (er:Sl→Int→Hp→OA) (es:Int→Hp→OA) (et:Sl→Nat→Nat→Hp→OA) (eu:Sl→Int→Hp→OA) (ev:Sl→Hp→OA) (ew:Int→Int→Sl→Int→Hp→OA) (ey:Sl→Sl→Hp→OA):LoopsOk tabs (mkOrc (aS.cs F er es et eu ev ew ey)) aS.pn (aS.lh F er es et eu ev ew ey) F [] 1 aS.code (fun tm H=>aresults tabs.ty H tm Try.f32.results.toList fun v=>some (v,H)) (fun _ _ _=>none) (fun tm H=>aresults tabs.ty H tm Try.f32.results.toList fun v=>some (v,H)):=by
 refine LoopsOk.seq ?_ ?_
 ·exact loops_none (by kernel_rfl)
 ·refine LoopsOk.seq ?_ ?_
  ·exact loops_none (by kernel_rfl)
  ·refine LoopsOk.seq ?_ ?_
   ·exact loops_none (by kernel_rfl)
   ·refine LoopsOk.seq ?_ ?_
    ·exact loops_none (by kernel_rfl)
    ·refine LoopsOk.seq ?_ ?_
     ·refine LoopsOk.seq ?_ ?_
      ·exact loops_none (by kernel_rfl)
      ·refine LoopsOk.block ?_
       refine LoopsOk.loop (fun tm H=>?_) (fun k125 tm H r h0=>?_) (fun k125=>?_)
       ·refine none_of fun r h0=>?_
        obtain ⟨gx,fC,gJ,fl,gy,fm,eT,hks,e2,e4,e7,e30,e31,h⟩:=aS.lh125_inv (show aS.lh125 F er es et eu ev ew ey [] 0 tm H = some r from h0)
        cases h
       ·obtain ⟨gx,fC,gJ,fl,gy,fm,eT,hks,e2,e4,e7,e30,e31,h⟩:=aS.lh125_inv (show aS.lh125 F er es et eu ev ew ey [] (k125 + 1) tm H = some r from h0)
        have q0:(Tm.put tm 2 (.sl gx)) = tm:=by exact Tm.put_same e2
        have q1:(Tm.put (Tm.put tm 2 (.sl gx)) 4 (.ptr fC gJ)) = tm:=by rw [q0]; exact Tm.put_same e4
        have q2:(Tm.put (Tm.put (Tm.put tm 2 (.sl gx)) 4 (.ptr fC gJ)) 7 (.ptr fl gy)) = tm:=by rw [q1]; exact Tm.put_same e7
        have q3:(Tm.put (Tm.put (Tm.put (Tm.put tm 2 (.sl gx)) 4 (.ptr fC gJ)) 7 (.ptr fl gy)) 30 (.int .i64 fm)) = tm:=by rw [q2]; exact Tm.put_same e30
        have q4:(Tm.put (Tm.put (Tm.put (Tm.put (Tm.put tm 2 (.sl gx)) 4 (.ptr fC gJ)) 7 (.ptr fl gy)) 30 (.int .i64 fm)) 31 (.int .i64 eT)) = tm:=by rw [q3]; exact Tm.put_same e31
        rw [← q4]
        exact Eq.trans (by kernel_rfl) h
       ·exact loops_none (by kernel_rfl)
     ·exact loops_none (by kernel_rfl)
theorem aS.eqX (F:Nat) (er:Sl→Int→Hp→OA) (es:Int→Hp→OA) (et:Sl→Nat→Nat→Hp→OA) (eu:Sl→Int→Hp→OA) (ev:Sl→Hp→OA) (ew:Int→Int→Sl→Int→Hp→OA) (ey:Sl→Sl→Hp→OA) (aa:Sl) (ab:Int) (af:Int) (bJ:Sl) (H:Hp):aCode tabs (mkOrc (aS.cs F er es et eu ev ew ey)) aS.pn (aS.lh F er es et eu ev ew ey) F [] 1 aS.code (argTm [(.agg [(.sl aa),(.int .i64 ab)]),(.int .i64 af),(.sl bJ)]) H (fun tm H=>aresults tabs.ty H tm Try.f32.results.toList fun v=>some (v,H)) (fun _ _ _=>none) (fun tm H=>aresults tabs.ty H tm Try.f32.results.toList fun v=>some (v,H)) = aS.twX F er es et eu ev ew ey aa ab af bJ H:=by kernel_rfl
theorem aS.cs_ok (F:Nat):∀ p ∈ aS.cs F (br.tw F) (bw.tw F) (bz.tw F) (aN.tw F) (bH.tw F) (bA.tw F) (aR.tw F),∀ args H v H',p.2 args H = some (v,H')→Go.AE.T Try.prog p.1 args H v H':=by
 intro p hp
 simp only [aS.cs,List.mem_cons,List.not_mem_nil,or_false] at hp
 rcases hp with rfl | rfl | rfl | rfl | rfl | rfl | rfl
 ·exact fun args H v H' h=>br.mk_T h
 ·exact fun args H v H' h=>bw.mk_T h
 ·exact fun args H v H' h=>bz.mk_T h
 ·exact fun args H v H' h=>aN.mk_T h
 ·exact fun args H v H' h=>bH.mk_T h
 ·exact fun args H v H' h=>bA.mk_T h
 ·exact fun args H v H' h=>aR.mk_T h
theorem aS.ok:codeOk aS.pn Try.f32.ntmps aS.tb aS.code = true:=by kernel_rfl
theorem aS.T {F:Nat} {aa:Sl} {ab:Int} {af:Int} {bJ:Sl} {H:Hp} {v:AV} {H':Hp} (h:aS.tw F aa ab af bJ H = some (v,H')):Go.AE.T Try.prog 32 [(.agg [(.sl aa),(.int .i64 ab)]),(.int .i64 af),(.sl bJ)] H v H':=
 Go.AE.T.of (Y:=tabs) (C:=mkOrc (aS.cs F (br.tw F) (bw.tw F) (bz.tw F) (aN.tw F) (bH.tw F) (bA.tw F) (aR.tw F))) (PN:=aS.pn) (LH:=aS.lh F (br.tw F) (bw.tw F) (bz.tw F) (aN.tw F) (bH.tw F) (bA.tw F) (aR.tw F)) (F:=F) (TB:=aS.tb) (fn:=Try.f32) (code:=aS.code) mixed tabs_ok (mkOrc_ok (aS.cs_ok F)) Try.func32 (by kernel_rfl) (by kernel_rfl) aS.ok (Nat.le_of_ble_eq_true (by kernel_rfl)) (aS.loops F (br.tw F) (bw.tw F) (bz.tw F) (aN.tw F) (bH.tw F) (bA.tw F) (aR.tw F)) (Eq.trans (aS.eqX F (br.tw F) (bw.tw F) (bz.tw F) (aN.tw F) (bH.tw F) (bA.tw F) (aR.tw F) aa ab af bJ H) h)
theorem aS.mk_T {F:Nat} {args:List AV} {H:Hp} {v:AV} {H':Hp} (h:aS.mk (aS.tw F) args H = some (v,H')):Go.AE.T Try.prog 32 args H v H':=by
 unfold aS.mk at h
 split at h
 ·exact aS.T h
 ·cases h
noncomputable def bI.twX (F:Nat) (aa:Int) (ab:Int) (ah:Int) (az:Int) (ax:Int) (bd:Int) (fK:Int) (fL:Int) (fM:Int) (fN:Int) (H:Hp):OA:=(Hp.new H [(.int .i64 aa),(.int .i64 ab),(.int .i64 ah),(.int .i64 az),(.int .i64 ax)]).bind fun H11=>(Hp.new H11 [(.int .i64 bd),(.int .i64 fK),(.int .i64 fL),(.int .i64 fM),(.int .i64 fN)]).bind fun H12=>(Hp.ldI H12 .i64 H.length 0).bind fun n13=>(Hp.ldI H12 .i64 H11.length 0).bind fun n14=>(bif (n13 != n14) then (some ((.bool false),H12)) else ((Hp.ldI H12 .i64 H.length 1).bind fun n15=>(Hp.ldI H12 .i64 H11.length 1).bind fun n16=>(bif (n15 != n16) then (some ((.bool false),H12)) else ((Hp.ldI H12 .i64 H.length 2).bind fun n17=>(Hp.ldI H12 .i64 H11.length 2).bind fun n18=>(bif (n17 != n18) then (some ((.bool false),H12)) else ((Hp.ldI H12 .i64 H.length 3).bind fun n19=>(Hp.ldI H12 .i64 H11.length 3).bind fun n20=>(bif (n19 != n20) then (some ((.bool false),H12)) else ((Hp.ldI H12 .i64 H.length 4).bind fun n21=>(Hp.ldI H12 .i64 H11.length 4).bind fun n22=>(bif (n21 != n22) then (some ((.bool false),H12)) else (some ((.bool true),H12)))))))))))
noncomputable def bI.tw (F:Nat) (aa:Int) (ab:Int) (ah:Int) (az:Int) (ax:Int) (bd:Int) (fK:Int) (fL:Int) (fM:Int) (fN:Int) (H:Hp):OA:=bI.twX F aa ab ah az ax bd fK fL fM fN H
noncomputable def bI.code:Go.Code:=(Try.f121.body).getD .skip
noncomputable def bI.lh (F:Nat) (p:Nat) (ks:List Nat) (n:Nat) (tm:Tm) (H:Hp):OA:=none
def bI.pn:Nat→List Nat:=fun i=>(([]:List (Nat×List Nat)).lookup i).getD []
def bI.tb:Nat→List (List Nat):=fun i=>(([]:List (Nat×List (List Nat))).lookup i).getD []
noncomputable def bI.mk (g:Int→Int→Int→Int→Int→Int→Int→Int→Int→Int→Hp→OA) (args:List AV) (H:Hp):OA:=match args with
 | [(.agg [(.int .i64 aa),(.int .i64 ab),(.int .i64 ah),(.int .i64 az),(.int .i64 ax)]),(.agg [(.int .i64 bd),(.int .i64 fK),(.int .i64 fL),(.int .i64 fM),(.int .i64 fN)])]=>g aa ab ah az ax bd fK fL fM fN H
 | _=>none
noncomputable def bI.cs (F:Nat):List (FuncId×(List AV→Hp→OA)):=[]
theorem bI.loops (F:Nat):LoopsOk tabs (mkOrc (bI.cs F)) bI.pn (bI.lh F) F [] 1 bI.code (fun tm H=>aresults tabs.ty H tm Try.f121.results.toList fun v=>some (v,H)) (fun _ _ _=>none) (fun tm H=>aresults tabs.ty H tm Try.f121.results.toList fun v=>some (v,H)):=by
 exact loops_none (by kernel_rfl)
theorem bI.eqX (F:Nat) (aa:Int) (ab:Int) (ah:Int) (az:Int) (ax:Int) (bd:Int) (fK:Int) (fL:Int) (fM:Int) (fN:Int) (H:Hp):aCode tabs (mkOrc (bI.cs F)) bI.pn (bI.lh F) F [] 1 bI.code (argTm [(.agg [(.int .i64 aa),(.int .i64 ab),(.int .i64 ah),(.int .i64 az),(.int .i64 ax)]),(.agg [(.int .i64 bd),(.int .i64 fK),(.int .i64 fL),(.int .i64 fM),(.int .i64 fN)])]) H (fun tm H=>aresults tabs.ty H tm Try.f121.results.toList fun v=>some (v,H)) (fun _ _ _=>none) (fun tm H=>aresults tabs.ty H tm Try.f121.results.toList fun v=>some (v,H)) = bI.twX F aa ab ah az ax bd fK fL fM fN H:=by kernel_rfl
theorem bI.cs_ok (F:Nat):∀ p ∈ bI.cs F,∀ args H v H',p.2 args H = some (v,H')→Go.AE.T Try.prog p.1 args H v H':=by
 intro p hp
 exact absurd (show p ∈ [] from hp) List.not_mem_nil
theorem bI.ok:codeOk bI.pn Try.f121.ntmps bI.tb bI.code = true:=by kernel_rfl
theorem bI.T {F:Nat} {aa:Int} {ab:Int} {ah:Int} {az:Int} {ax:Int} {bd:Int} {fK:Int} {fL:Int} {fM:Int} {fN:Int} {H:Hp} {v:AV} {H':Hp} (h:bI.tw F aa ab ah az ax bd fK fL fM fN H = some (v,H')):Go.AE.T Try.prog 121 [(.agg [(.int .i64 aa),(.int .i64 ab),(.int .i64 ah),(.int .i64 az),(.int .i64 ax)]),(.agg [(.int .i64 bd),(.int .i64 fK),(.int .i64 fL),(.int .i64 fM),(.int .i64 fN)])] H v H':=
 Go.AE.T.of (Y:=tabs) (C:=mkOrc (bI.cs F)) (PN:=bI.pn) (LH:=bI.lh F) (F:=F) (TB:=bI.tb) (fn:=Try.f121) (code:=bI.code) mixed tabs_ok (mkOrc_ok (bI.cs_ok F)) Try.func121 (by kernel_rfl) (by kernel_rfl) bI.ok (Nat.le_of_ble_eq_true (by kernel_rfl)) (bI.loops F) (Eq.trans (bI.eqX F aa ab ah az ax bd fK fL fM fN H) h)
theorem bI.mk_T {F:Nat} {args:List AV} {H:Hp} {v:AV} {H':Hp} (h:bI.mk (bI.tw F) args H = some (v,H')):Go.AE.T Try.prog 121 args H v H':=by
 unfold bI.mk at h
 split at h
 ·exact bI.T h
 ·cases h
noncomputable def aW.l29 (F:Nat) (ez:Int→Int→Int→Int→Int→Int→Int→Int→Int→Int→Hp→OA) :Nat→Sl→Sl→Int→Hp→OA
 | 0,_,_,_,_=>none
 | cZ + 1,bM,ck,ca,H8=>(bif (decide (ca < (bM.n:Int))) then ((Sl.idx bM ca 5).bind fun p23=>(Hp.ldI H8 .i64 p23.1 p23.2).bind fun n24=>(Hp.ldI H8 .i64 p23.1 (p23.2 + 1)).bind fun n25=>(Hp.ldI H8 .i64 p23.1 (p23.2 + 2)).bind fun n26=>(Hp.ldI H8 .i64 p23.1 (p23.2 + 3)).bind fun n27=>(Hp.ldI H8 .i64 p23.1 (p23.2 + 4)).bind fun n28=>(Sl.idx ck ca 5).bind fun p29=>(Hp.ldI H8 .i64 p29.1 p29.2).bind fun n30=>(Hp.ldI H8 .i64 p29.1 (p29.2 + 1)).bind fun n31=>(Hp.ldI H8 .i64 p29.1 (p29.2 + 2)).bind fun n32=>(Hp.ldI H8 .i64 p29.1 (p29.2 + 3)).bind fun n33=>(Hp.ldI H8 .i64 p29.1 (p29.2 + 4)).bind fun n34=>(ez n24 n25 n26 n27 n28 n30 n31 n32 n33 n34 H8).bind fun r35=>((r35.1).asB).bind fun b36=>(bif (!b36) then (some ((.bool false),r35.2)) else (aW.l29 F ez cZ bM ck (IntKind.i64.wrap (ca + 1)) r35.2))) else (some ((.bool true),H8)))
termination_by structural n=>n
noncomputable def aW.twX (F:Nat) (ez:Int→Int→Int→Int→Int→Int→Int→Int→Int→Int→Hp→OA) (aa:Sl) (ad:Sl) (H:Hp):OA:=(bif ((aa.n:Int) != (ad.n:Int)) then (some ((.bool false),H)) else (aW.l29 F ez F aa ad 0 H))
noncomputable def aW.tw (F:Nat) (aa:Sl) (ad:Sl) (H:Hp):OA:=aW.twX F (bI.tw F) aa ad H
noncomputable def aW.code:Go.Code:=(Try.f63.body).getD .skip
noncomputable def aW.lh29 (F:Nat) (ez:Int→Int→Int→Int→Int→Int→Int→Int→Int→Int→Hp→OA) (ks:List Nat) (n:Nat) (tm:Tm) (H:Hp):OA:=match ks,tm 0,tm 1,tm 5 with
 | [],(.sl bM),(.sl ck),(.int .i64 ca)=>aW.l29 F ez n bM ck ca H
 | _,_,_,_=>none
theorem aW.lh29_inv {F:Nat} {ez:Int→Int→Int→Int→Int→Int→Int→Int→Int→Int→Hp→OA} {ks:List Nat} {n:Nat} {tm:Tm} {H:Hp} {r:AV×Hp} (h:aW.lh29 F ez ks n tm H = some r):∃ bM:Sl,∃ ck:Sl,∃ ca:Int,ks = []∧tm 0 = (.sl bM)∧tm 1 = (.sl ck)∧tm 5 = (.int .i64 ca)∧aW.l29 F ez n bM ck ca H = some r:=by
 unfold aW.lh29 at h
 split at h
 ·exact ⟨_,_,_,rfl,by assumption,by assumption,by assumption,h⟩
 ·cases h
noncomputable def aW.lh (F:Nat) (ez:Int→Int→Int→Int→Int→Int→Int→Int→Int→Int→Hp→OA) (p:Nat) (ks:List Nat) (n:Nat) (tm:Tm) (H:Hp):OA:=bif p.beq 29 then aW.lh29 F ez ks n tm H else (none)
def aW.pn:Nat→List Nat:=fun i=>(([(6,[8])]:List (Nat×List Nat)).lookup i).getD []
def aW.tb:Nat→List (List Nat):=fun i=>(([(6,[[],[],[0,1],[0,1,2],[],[],[4,5],[4,5,6],[0,1,2,3,4,5,6,7],[0,1,2,3,4,5,6,7,8]])]:List (Nat×List (List Nat))).lookup i).getD []
noncomputable def aW.mk (g:Sl→Sl→Hp→OA) (args:List AV) (H:Hp):OA:=match args with
 | [(.sl aa),(.sl ad)]=>g aa ad H
 | _=>none
noncomputable def aW.cs (F:Nat) (ez:Int→Int→Int→Int→Int→Int→Int→Int→Int→Int→Hp→OA):List (FuncId×(List AV→Hp→OA)):=[(121,bI.mk ez)]
theorem aW.loops (F:Nat) (ez:Int→Int→Int→Int→Int→Int→Int→Int→Int→Int→Hp→OA):LoopsOk tabs (mkOrc (aW.cs F ez)) aW.pn (aW.lh F ez) F [] 1 aW.code (fun tm H=>aresults tabs.ty H tm Try.f63.results.toList fun v=>some (v,H)) (fun _ _ _=>none) (fun tm H=>aresults tabs.ty H tm Try.f63.results.toList fun v=>some (v,H)):=by
 refine LoopsOk.seq ?_ ?_
 ·exact loops_none (by kernel_rfl)
 ·refine LoopsOk.seq ?_ ?_
  ·exact loops_none (by kernel_rfl)
  ·refine LoopsOk.seq ?_ ?_
   ·refine LoopsOk.seq ?_ ?_
    ·exact loops_none (by kernel_rfl)
    ·refine LoopsOk.block ?_
     refine LoopsOk.loop (fun tm H=>?_) (fun k29 tm H r h0=>?_) (fun k29=>?_)
     ·refine none_of fun r h0=>?_
      obtain ⟨bM,ck,ca,hks,e0,e1,e5,h⟩:=aW.lh29_inv (show aW.lh29 F ez [] 0 tm H = some r from h0)
      cases h
     ·obtain ⟨bM,ck,ca,hks,e0,e1,e5,h⟩:=aW.lh29_inv (show aW.lh29 F ez [] (k29 + 1) tm H = some r from h0)
      have q0:(Tm.put tm 0 (.sl bM)) = tm:=by exact Tm.put_same e0
      have q1:(Tm.put (Tm.put tm 0 (.sl bM)) 1 (.sl ck)) = tm:=by rw [q0]; exact Tm.put_same e1
      have q2:(Tm.put (Tm.put (Tm.put tm 0 (.sl bM)) 1 (.sl ck)) 5 (.int .i64 ca)) = tm:=by rw [q1]; exact Tm.put_same e5
      rw [← q2]
      exact Eq.trans (by kernel_rfl) h
     ·exact loops_none (by kernel_rfl)
   ·exact loops_none (by kernel_rfl)
theorem aW.eqX (F:Nat) (ez:Int→Int→Int→Int→Int→Int→Int→Int→Int→Int→Hp→OA) (aa:Sl) (ad:Sl) (H:Hp):aCode tabs (mkOrc (aW.cs F ez)) aW.pn (aW.lh F ez) F [] 1 aW.code (argTm [(.sl aa),(.sl ad)]) H (fun tm H=>aresults tabs.ty H tm Try.f63.results.toList fun v=>some (v,H)) (fun _ _ _=>none) (fun tm H=>aresults tabs.ty H tm Try.f63.results.toList fun v=>some (v,H)) = aW.twX F ez aa ad H:=by kernel_rfl
theorem aW.cs_ok (F:Nat):∀ p ∈ aW.cs F (bI.tw F),∀ args H v H',p.2 args H = some (v,H')→Go.AE.T Try.prog p.1 args H v H':=by
 intro p hp
 simp only [aW.cs,List.mem_cons,List.not_mem_nil,or_false] at hp
 subst hp
 exact fun args H v H' h=>bI.mk_T h
theorem aW.ok:codeOk aW.pn Try.f63.ntmps aW.tb aW.code = true:=by kernel_rfl
theorem aW.T {F:Nat} {aa:Sl} {ad:Sl} {H:Hp} {v:AV} {H':Hp} (h:aW.tw F aa ad H = some (v,H')):Go.AE.T Try.prog 63 [(.sl aa),(.sl ad)] H v H':=
 Go.AE.T.of (Y:=tabs) (C:=mkOrc (aW.cs F (bI.tw F))) (PN:=aW.pn) (LH:=aW.lh F (bI.tw F)) (F:=F) (TB:=aW.tb) (fn:=Try.f63) (code:=aW.code) mixed tabs_ok (mkOrc_ok (aW.cs_ok F)) Try.func63 (by kernel_rfl) (by kernel_rfl) aW.ok (Nat.le_of_ble_eq_true (by kernel_rfl)) (aW.loops F (bI.tw F)) (Eq.trans (aW.eqX F (bI.tw F) aa ad H) h)
theorem aW.mk_T {F:Nat} {args:List AV} {H:Hp} {v:AV} {H':Hp} (h:aW.mk (aW.tw F) args H = some (v,H')):Go.AE.T Try.prog 63 args H v H':=by
 unfold aW.mk at h
 split at h
 ·exact aW.T h
 ·cases h
noncomputable def bB.twX (F:Nat) (ib:Sl→Sl→Hp→OA) (aa:Sl) (ab:Int) (af:Sl) (ar:Int) (H:Hp):OA:=(Hp.new H [(.sl aa),(.int .i64 ab)]).bind fun H5=>(Hp.new H5 [(.sl af),(.int .i64 ar)]).bind fun H6=>(Hp.ldSl H6 H.length 0).bind fun s7=>(Hp.ldSl H6 H5.length 0).bind fun s8=>(ib s7 s8 H6).bind fun r9=>((r9.1).asB).bind fun b10=>(bif (!b10) then (some ((.bool false),r9.2)) else ((Hp.ldI r9.2 .i64 H.length 1).bind fun n11=>(Hp.ldI r9.2 .i64 H5.length 1).bind fun n12=>(bif (n11 != n12) then (some ((.bool false),r9.2)) else (some ((.bool true),r9.2)))))
noncomputable def bB.tw (F:Nat) (aa:Sl) (ab:Int) (af:Sl) (ar:Int) (H:Hp):OA:=bB.twX F (aW.tw F) aa ab af ar H
noncomputable def bB.code:Go.Code:=(Try.f20.body).getD .skip
noncomputable def bB.lh (F:Nat) (ib:Sl→Sl→Hp→OA) (p:Nat) (ks:List Nat) (n:Nat) (tm:Tm) (H:Hp):OA:=none
def bB.pn:Nat→List Nat:=fun i=>(([]:List (Nat×List Nat)).lookup i).getD []
def bB.tb:Nat→List (List Nat):=fun i=>(([]:List (Nat×List (List Nat))).lookup i).getD []
noncomputable def bB.mk (g:Sl→Int→Sl→Int→Hp→OA) (args:List AV) (H:Hp):OA:=match args with
 | [(.agg [(.sl aa),(.int .i64 ab)]),(.agg [(.sl af),(.int .i64 ar)])]=>g aa ab af ar H
 | _=>none
noncomputable def bB.cs (F:Nat) (ib:Sl→Sl→Hp→OA):List (FuncId×(List AV→Hp→OA)):=[(63,aW.mk ib)]
theorem bB.loops (F:Nat) (ib:Sl→Sl→Hp→OA):LoopsOk tabs (mkOrc (bB.cs F ib)) bB.pn (bB.lh F ib) F [] 1 bB.code (fun tm H=>aresults tabs.ty H tm Try.f20.results.toList fun v=>some (v,H)) (fun _ _ _=>none) (fun tm H=>aresults tabs.ty H tm Try.f20.results.toList fun v=>some (v,H)):=by
 exact loops_none (by kernel_rfl)
theorem bB.eqX (F:Nat) (ib:Sl→Sl→Hp→OA) (aa:Sl) (ab:Int) (af:Sl) (ar:Int) (H:Hp):aCode tabs (mkOrc (bB.cs F ib)) bB.pn (bB.lh F ib) F [] 1 bB.code (argTm [(.agg [(.sl aa),(.int .i64 ab)]),(.agg [(.sl af),(.int .i64 ar)])]) H (fun tm H=>aresults tabs.ty H tm Try.f20.results.toList fun v=>some (v,H)) (fun _ _ _=>none) (fun tm H=>aresults tabs.ty H tm Try.f20.results.toList fun v=>some (v,H)) = bB.twX F ib aa ab af ar H:=by kernel_rfl
theorem bB.cs_ok (F:Nat):∀ p ∈ bB.cs F (aW.tw F),∀ args H v H',p.2 args H = some (v,H')→Go.AE.T Try.prog p.1 args H v H':=by
 intro p hp
 simp only [bB.cs,List.mem_cons,List.not_mem_nil,or_false] at hp
 subst hp
 exact fun args H v H' h=>aW.mk_T h
theorem bB.ok:codeOk bB.pn Try.f20.ntmps bB.tb bB.code = true:=by kernel_rfl
theorem bB.T {F:Nat} {aa:Sl} {ab:Int} {af:Sl} {ar:Int} {H:Hp} {v:AV} {H':Hp} (h:bB.tw F aa ab af ar H = some (v,H')):Go.AE.T Try.prog 20 [(.agg [(.sl aa),(.int .i64 ab)]),(.agg [(.sl af),(.int .i64 ar)])] H v H':=
 Go.AE.T.of (Y:=tabs) (C:=mkOrc (bB.cs F (aW.tw F))) (PN:=bB.pn) (LH:=bB.lh F (aW.tw F)) (F:=F) (TB:=bB.tb) (fn:=Try.f20) (code:=bB.code) mixed tabs_ok (mkOrc_ok (bB.cs_ok F)) Try.func20 (by kernel_rfl) (by kernel_rfl) bB.ok (Nat.le_of_ble_eq_true (by kernel_rfl)) (bB.loops F (aW.tw F)) (Eq.trans (bB.eqX F (aW.tw F) aa ab af ar H) h)
theorem bB.mk_T {F:Nat} {args:List AV} {H:Hp} {v:AV} {H':Hp} (h:bB.mk (bB.tw F) args H = some (v,H')):Go.AE.T Try.prog 20 args H v H':=by
 unfold bB.mk at h
 split at h
 ·exact bB.T h
 ·cases h
noncomputable def aX.l29 (F:Nat) :Nat→Sl→Sl→Int→Hp→OA
 | 0,_,_,_,_=>none
 | cZ + 1,bM,ck,ca,H8=>(bif (decide (ca < (bM.n:Int))) then ((Sl.idx bM ca 1).bind fun p13=>(Hp.ldI H8 .i64 p13.1 p13.2).bind fun n14=>(Sl.idx ck ca 1).bind fun p15=>(Hp.ldI H8 .i64 p15.1 p15.2).bind fun n16=>(bif (n14 != n16) then (some ((.bool false),H8)) else (aX.l29 F cZ bM ck (IntKind.i64.wrap (ca + 1)) H8))) else (some ((.bool true),H8)))
termination_by structural n=>n
noncomputable def aX.twX (F:Nat) (aa:Sl) (ad:Sl) (H:Hp):OA:=(bif ((aa.n:Int) != (ad.n:Int)) then (some ((.bool false),H)) else (aX.l29 F F aa ad 0 H))
noncomputable def aX.tw (F:Nat) (aa:Sl) (ad:Sl) (H:Hp):OA:=aX.twX F aa ad H
noncomputable def aX.code:Go.Code:=(Try.f19.body).getD .skip
noncomputable def aX.lh29 (F:Nat) (ks:List Nat) (n:Nat) (tm:Tm) (H:Hp):OA:=match ks,tm 0,tm 1,tm 5 with
 | [],(.sl bM),(.sl ck),(.int .i64 ca)=>aX.l29 F n bM ck ca H
 | _,_,_,_=>none
theorem aX.lh29_inv {F:Nat} {ks:List Nat} {n:Nat} {tm:Tm} {H:Hp} {r:AV×Hp} (h:aX.lh29 F ks n tm H = some r):∃ bM:Sl,∃ ck:Sl,∃ ca:Int,ks = []∧tm 0 = (.sl bM)∧tm 1 = (.sl ck)∧tm 5 = (.int .i64 ca)∧aX.l29 F n bM ck ca H = some r:=by
 unfold aX.lh29 at h
 split at h
 ·exact ⟨_,_,_,rfl,by assumption,by assumption,by assumption,h⟩
 ·cases h
noncomputable def aX.lh (F:Nat) (p:Nat) (ks:List Nat) (n:Nat) (tm:Tm) (H:Hp):OA:=bif p.beq 29 then aX.lh29 F ks n tm H else (none)
def aX.pn:Nat→List Nat:=fun i=>(([(6,[])]:List (Nat×List Nat)).lookup i).getD []
def aX.tb:Nat→List (List Nat):=fun i=>(([(6,[[],[],[0,1],[0,1,2],[],[],[4,5],[4,5,6],[0,1,2,3,4,5,6,7]])]:List (Nat×List (List Nat))).lookup i).getD []
noncomputable def aX.mk (g:Sl→Sl→Hp→OA) (args:List AV) (H:Hp):OA:=match args with
 | [(.sl aa),(.sl ad)]=>g aa ad H
 | _=>none
noncomputable def aX.cs (F:Nat):List (FuncId×(List AV→Hp→OA)):=[]
theorem aX.loops (F:Nat):LoopsOk tabs (mkOrc (aX.cs F)) aX.pn (aX.lh F) F [] 1 aX.code (fun tm H=>aresults tabs.ty H tm Try.f19.results.toList fun v=>some (v,H)) (fun _ _ _=>none) (fun tm H=>aresults tabs.ty H tm Try.f19.results.toList fun v=>some (v,H)):=by
 refine LoopsOk.seq ?_ ?_
 ·exact loops_none (by kernel_rfl)
 ·refine LoopsOk.seq ?_ ?_
  ·exact loops_none (by kernel_rfl)
  ·refine LoopsOk.seq ?_ ?_
   ·refine LoopsOk.seq ?_ ?_
    ·exact loops_none (by kernel_rfl)
    ·refine LoopsOk.block ?_
     refine LoopsOk.loop (fun tm H=>?_) (fun k29 tm H r h0=>?_) (fun k29=>?_)
     ·refine none_of fun r h0=>?_
      obtain ⟨bM,ck,ca,hks,e0,e1,e5,h⟩:=aX.lh29_inv (show aX.lh29 F [] 0 tm H = some r from h0)
      cases h
     ·obtain ⟨bM,ck,ca,hks,e0,e1,e5,h⟩:=aX.lh29_inv (show aX.lh29 F [] (k29 + 1) tm H = some r from h0)
      have q0:(Tm.put tm 0 (.sl bM)) = tm:=by exact Tm.put_same e0
      have q1:(Tm.put (Tm.put tm 0 (.sl bM)) 1 (.sl ck)) = tm:=by rw [q0]; exact Tm.put_same e1
      have q2:(Tm.put (Tm.put (Tm.put tm 0 (.sl bM)) 1 (.sl ck)) 5 (.int .i64 ca)) = tm:=by rw [q1]; exact Tm.put_same e5
      rw [← q2]
      exact Eq.trans (by kernel_rfl) h
     ·exact loops_none (by kernel_rfl)
   ·exact loops_none (by kernel_rfl)
theorem aX.eqX (F:Nat) (aa:Sl) (ad:Sl) (H:Hp):aCode tabs (mkOrc (aX.cs F)) aX.pn (aX.lh F) F [] 1 aX.code (argTm [(.sl aa),(.sl ad)]) H (fun tm H=>aresults tabs.ty H tm Try.f19.results.toList fun v=>some (v,H)) (fun _ _ _=>none) (fun tm H=>aresults tabs.ty H tm Try.f19.results.toList fun v=>some (v,H)) = aX.twX F aa ad H:=by kernel_rfl
theorem aX.cs_ok (F:Nat):∀ p ∈ aX.cs F,∀ args H v H',p.2 args H = some (v,H')→Go.AE.T Try.prog p.1 args H v H':=by
 intro p hp
 exact absurd (show p ∈ [] from hp) List.not_mem_nil
theorem aX.ok:codeOk aX.pn Try.f19.ntmps aX.tb aX.code = true:=by kernel_rfl
theorem aX.T {F:Nat} {aa:Sl} {ad:Sl} {H:Hp} {v:AV} {H':Hp} (h:aX.tw F aa ad H = some (v,H')):Go.AE.T Try.prog 19 [(.sl aa),(.sl ad)] H v H':=
 Go.AE.T.of (Y:=tabs) (C:=mkOrc (aX.cs F)) (PN:=aX.pn) (LH:=aX.lh F) (F:=F) (TB:=aX.tb) (fn:=Try.f19) (code:=aX.code) mixed tabs_ok (mkOrc_ok (aX.cs_ok F)) Try.func19 (by kernel_rfl) (by kernel_rfl) aX.ok (Nat.le_of_ble_eq_true (by kernel_rfl)) (aX.loops F) (Eq.trans (aX.eqX F aa ad H) h)
theorem aX.mk_T {F:Nat} {args:List AV} {H:Hp} {v:AV} {H':Hp} (h:aX.mk (aX.tw F) args H = some (v,H')):Go.AE.T Try.prog 19 args H v H':=by
 unfold aX.mk at h
 split at h
 ·exact aX.T h
 ·cases h
noncomputable def bP.twX (F:Nat) (ic:Sl→Int→Int→Hp→OA) (gK:Sl→Int→Hp→OA) (gL:Sl→Hp→OA) (ie:Sl→Int→Int→Sl→Hp→OA) (ig:Sl→Int→Int→Sl→Hp→OA) (ii:Sl→Int→Sl→Int→Hp→OA) (ij:Sl→Sl→Hp→OA) (aa:Sl) (ab:Int) (af:Int) (bJ:Sl) (H:Hp):OA:=(Hp.new H [(.sl aa),(.int .i64 ab)]).bind fun H5=>(bif (decide ((bJ.n:Int) > 1048576)) then (some ((.bool true),H5)) else ((Hp.ldSl H5 H.length 0).bind fun s6=>(Hp.ldI H5 .i64 H.length (0 + 1)).bind fun n7=>(ic s6 n7 1048576 H5).bind fun r8=>((r8.1).asI .i64).bind fun n9=>(bif (decide (n9 < 0)) then (some ((.bool true),r8.2)) else ((Hp.ldSl r8.2 H.length 0).bind fun s10=>(Hp.ldI r8.2 .i64 H.length (0 + 1)).bind fun n11=>(gK s10 n11 r8.2).bind fun r12=>((r12.1).asAgg 2).bind fun l13=>(l13[0]?).bind fun v14=>((v14).asSl).bind fun s15=>(l13[1]?).bind fun v16=>((v16).asI .i64).bind fun n17=>(gL bJ r12.2).bind fun r18=>((r18.1).asSl).bind fun s19=>(ie s15 n17 af s19 r18.2).bind fun r20=>((r20.1).asB).bind fun b21=>(Hp.ldSl r20.2 H.length 0).bind fun s22=>(Hp.ldI r20.2 .i64 H.length (0 + 1)).bind fun n23=>(gK s22 n23 r20.2).bind fun r24=>((r24.1).asAgg 2).bind fun l25=>(l25[0]?).bind fun v26=>((v26).asSl).bind fun s27=>(l25[1]?).bind fun v28=>((v28).asI .i64).bind fun n29=>(Hp.new r24.2 [.sl ⟨none,0,.ex 0⟩,.int .i64 0]).bind fun H30=>(Hp.st H30 r24.2.length 0 (.sl s27)).bind fun H31=>(Hp.st H31 r24.2.length (0 + 1) (.int .i64 n29)).bind fun H32=>(gL bJ H32).bind fun r33=>((r33.1).asSl).bind fun s34=>(Hp.ldSl r33.2 r24.2.length 0).bind fun s35=>(Hp.ldI r33.2 .i64 r24.2.length (0 + 1)).bind fun n36=>(ig s35 n36 af s34 r33.2).bind fun r37=>((r37.1).asB).bind fun b38=>(bif (!(b38 == b21)) then (some ((.bool false),r37.2)) else ((Hp.ldSl r37.2 r24.2.length 0).bind fun s39=>(Hp.ldI r37.2 .i64 r24.2.length (0 + 1)).bind fun n40=>(Hp.ldSl r37.2 H.length 0).bind fun s41=>(Hp.ldI r37.2 .i64 H.length (0 + 1)).bind fun n42=>(gK s41 n42 r37.2).bind fun r43=>((r43.1).asAgg 2).bind fun l44=>(l44[0]?).bind fun v45=>((v45).asSl).bind fun s46=>(l44[1]?).bind fun v47=>((v47).asI .i64).bind fun n48=>(if Cons r37.2 r43.2 then ((ii s39 n40 s46 n48 r43.2).bind fun r49=>((r49.1).asB).bind fun b50=>(bif (!b50) then (some ((.bool false),r49.2)) else ((gL bJ r49.2).bind fun r51=>((r51.1).asSl).bind fun s52=>(ij s34 s52 r51.2).bind fun r53=>((r53.1).asB).bind fun b54=>(bif (!b54) then (some ((.bool false),r53.2)) else (some ((.bool true),r53.2)))))) else none)))))))
noncomputable def bP.tw (F:Nat) (aa:Sl) (ab:Int) (af:Int) (bJ:Sl) (H:Hp):OA:=bP.twX F (bs.tw F) (bp.tw F) (aI.tw F) (aB.tw F) (aS.tw F) (bB.tw F) (aX.tw F) aa ab af bJ H
noncomputable def bP.code:Go.Code:=(Try.f7.body).getD .skip
noncomputable def bP.lh (F:Nat) (ic:Sl→Int→Int→Hp→OA) (gK:Sl→Int→Hp→OA) (gL:Sl→Hp→OA) (ie:Sl→Int→Int→Sl→Hp→OA) (ig:Sl→Int→Int→Sl→Hp→OA) (ii:Sl→Int→Sl→Int→Hp→OA) (ij:Sl→Sl→Hp→OA) (p:Nat) (ks:List Nat) (n:Nat) (tm:Tm) (H:Hp):OA:=none
def bP.pn:Nat→List Nat:=fun i=>(([(13,[3])]:List (Nat×List Nat)).lookup i).getD []
def bP.tb:Nat→List (List Nat):=fun i=>(([(13,[[],[],[1],[0,1,2],[0,1,2,3]])]:List (Nat×List (List Nat))).lookup i).getD []
noncomputable def bP.mk (g:Sl→Int→Int→Sl→Hp→OA) (args:List AV) (H:Hp):OA:=match args with
 | [(.agg [(.sl aa),(.int .i64 ab)]),(.int .i64 af),(.sl bJ)]=>g aa ab af bJ H
 | _=>none
noncomputable def bP.cs (F:Nat) (ic:Sl→Int→Int→Hp→OA) (gK:Sl→Int→Hp→OA) (gL:Sl→Hp→OA) (ie:Sl→Int→Int→Sl→Hp→OA) (ig:Sl→Int→Int→Sl→Hp→OA) (ii:Sl→Int→Sl→Int→Hp→OA) (ij:Sl→Sl→Hp→OA):List (FuncId×(List AV→Hp→OA)):=[(15,bs.mk ic),(17,bp.mk gK),(31,aI.mk gL),(30,aB.mk ie),(32,aS.mk ig),(20,bB.mk ii),(19,aX.mk ij)]
theorem bP.loops (F:Nat) (ic:Sl→Int→Int→Hp→OA) (gK:Sl→Int→Hp→OA) (gL:Sl→Hp→OA) (ie:Sl→Int→Int→Sl→Hp→OA) (ig:Sl→Int→Int→Sl→Hp→OA) (ii:Sl→Int→Sl→Int→Hp→OA) (ij:Sl→Sl→Hp→OA):LoopsOk tabs (mkOrc (bP.cs F ic gK gL ie ig ii ij)) bP.pn (bP.lh F ic gK gL ie ig ii ij) F [] 1 bP.code (fun tm H=>aresults tabs.ty H tm Try.f7.results.toList fun v=>some (v,H)) (fun _ _ _=>none) (fun tm H=>aresults tabs.ty H tm Try.f7.results.toList fun v=>some (v,H)):=by
 exact loops_none (by kernel_rfl)
theorem bP.eqX (F:Nat) (ic:Sl→Int→Int→Hp→OA) (gK:Sl→Int→Hp→OA) (gL:Sl→Hp→OA) (ie:Sl→Int→Int→Sl→Hp→OA) (ig:Sl→Int→Int→Sl→Hp→OA) (ii:Sl→Int→Sl→Int→Hp→OA) (ij:Sl→Sl→Hp→OA) (aa:Sl) (ab:Int) (af:Int) (bJ:Sl) (H:Hp):aCode tabs (mkOrc (bP.cs F ic gK gL ie ig ii ij)) bP.pn (bP.lh F ic gK gL ie ig ii ij) F [] 1 bP.code (argTm [(.agg [(.sl aa),(.int .i64 ab)]),(.int .i64 af),(.sl bJ)]) H (fun tm H=>aresults tabs.ty H tm Try.f7.results.toList fun v=>some (v,H)) (fun _ _ _=>none) (fun tm H=>aresults tabs.ty H tm Try.f7.results.toList fun v=>some (v,H)) = bP.twX F ic gK gL ie ig ii ij aa ab af bJ H:=by kernel_rfl
theorem bP.cs_ok (F:Nat):∀ p ∈ bP.cs F (bs.tw F) (bp.tw F) (aI.tw F) (aB.tw F) (aS.tw F) (bB.tw F) (aX.tw F),∀ args H v H',p.2 args H = some (v,H')→Go.AE.T Try.prog p.1 args H v H':=by
 intro p hp
 simp only [bP.cs,List.mem_cons,List.not_mem_nil,or_false] at hp
 rcases hp with rfl | rfl | rfl | rfl | rfl | rfl | rfl
 ·exact fun args H v H' h=>bs.mk_T h
 ·exact fun args H v H' h=>bp.mk_T h
 ·exact fun args H v H' h=>aI.mk_T h
 ·exact fun args H v H' h=>aB.mk_T h
 ·exact fun args H v H' h=>aS.mk_T h
 ·exact fun args H v H' h=>bB.mk_T h
 ·exact fun args H v H' h=>aX.mk_T h
theorem bP.ok:codeOk bP.pn Try.f7.ntmps bP.tb bP.code = true:=by kernel_rfl
theorem bP.T {F:Nat} {aa:Sl} {ab:Int} {af:Int} {bJ:Sl} {H:Hp} {v:AV} {H':Hp} (h:bP.tw F aa ab af bJ H = some (v,H')):Go.AE.T Try.prog 7 [(.agg [(.sl aa),(.int .i64 ab)]),(.int .i64 af),(.sl bJ)] H v H':=
 Go.AE.T.of (Y:=tabs) (C:=mkOrc (bP.cs F (bs.tw F) (bp.tw F) (aI.tw F) (aB.tw F) (aS.tw F) (bB.tw F) (aX.tw F))) (PN:=bP.pn) (LH:=bP.lh F (bs.tw F) (bp.tw F) (aI.tw F) (aB.tw F) (aS.tw F) (bB.tw F) (aX.tw F)) (F:=F) (TB:=bP.tb) (fn:=Try.f7) (code:=bP.code) mixed tabs_ok (mkOrc_ok (bP.cs_ok F)) Try.func7 (by kernel_rfl) (by kernel_rfl) bP.ok (Nat.le_of_ble_eq_true (by kernel_rfl)) (bP.loops F (bs.tw F) (bp.tw F) (aI.tw F) (aB.tw F) (aS.tw F) (bB.tw F) (aX.tw F)) (Eq.trans (bP.eqX F (bs.tw F) (bp.tw F) (aI.tw F) (aB.tw F) (aS.tw F) (bB.tw F) (aX.tw F) aa ab af bJ H) h)
theorem bP.mk_T {F:Nat} {args:List AV} {H:Hp} {v:AV} {H':Hp} (h:bP.mk (bP.tw F) args H = some (v,H')):Go.AE.T Try.prog 7 args H v H':=by
 unfold bP.mk at h
 split at h
 ·exact bP.T h
 ·cases h
end Go.Proofs.Ythfinhmkgdmelaa.AE
