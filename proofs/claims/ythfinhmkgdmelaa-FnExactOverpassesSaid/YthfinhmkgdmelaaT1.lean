import Derived.Test.YthfinhmkgdmelaaTab1
import Derived.Test.YthfinhmkgdmelaaE2
set_option linter.unusedVariables false
set_option linter.unusedSimpArgs false
namespace Go.Proofs.Ythfinhmkgdmelaa.AE
open Go Go.AE Go.Proofs Go.RowKit Go.Maps
set_option linter.unusedVariables false
set_option maxHeartbeats 4000000
set_option maxRecDepth 100000
noncomputable def bs.twX (F:Nat) (aa:Sl) (ae:Int) (H:Hp):OA:=(bif (decide ((IntKind.i64.wrap (ae - (aa.n:Int))) < 0)) then (some ((.int .i64 (-1)),H)) else (some ((.int .i64 (IntKind.i64.wrap (ae - (aa.n:Int)))),H)))
noncomputable def bs.tw (F:Nat) (aa:Sl) (ae:Int) (H:Hp):OA:=bs.twX F aa ae H
noncomputable def bs.code:Go.Code:=(Try.f58.body).getD .skip
noncomputable def bs.lh (F:Nat) (p:Nat) (ks:List Nat) (n:Nat) (tm:Tm) (H:Hp):OA:=none
def bs.pn:Nat→List Nat:=fun i=>(([]:List (Nat×List Nat)).lookup i).getD []
def bs.tb:Nat→List (List Nat):=fun i=>(([]:List (Nat×List (List Nat))).lookup i).getD []
noncomputable def bs.mk (g:Sl→Int→Hp→OA) (args:List AV) (H:Hp):OA:=match args with
 | [(.sl aa),(.int .i64 ae)]=>g aa ae H
 | _=>none
noncomputable def bs.cs (F:Nat):List (FuncId×(List AV→Hp→OA)):=[]
theorem bs.loops (F:Nat):LoopsOk tabs (mkOrc (bs.cs F)) bs.pn (bs.lh F) F [] 1 bs.code (fun tm H=>aresults tabs.ty H tm Try.f58.results.toList fun v=>some (v,H)) (fun _ _ _=>none) (fun tm H=>aresults tabs.ty H tm Try.f58.results.toList fun v=>some (v,H)):=by
 exact loops_none (by kernel_rfl)
theorem bs.eqX (F:Nat) (aa:Sl) (ae:Int) (H:Hp):aCode tabs (mkOrc (bs.cs F)) bs.pn (bs.lh F) F [] 1 bs.code (argTm [(.sl aa),(.int .i64 ae)]) H (fun tm H=>aresults tabs.ty H tm Try.f58.results.toList fun v=>some (v,H)) (fun _ _ _=>none) (fun tm H=>aresults tabs.ty H tm Try.f58.results.toList fun v=>some (v,H)) = bs.twX F aa ae H:=by kernel_rfl
theorem bs.cs_ok (F:Nat):∀ p ∈ bs.cs F,∀ args H v H',p.2 args H = some (v,H')→Go.AE.T Try.prog p.1 args H v H':=by
 intro p hp
 exact absurd (show p ∈ [] from hp) List.not_mem_nil
theorem bs.ok:codeOk bs.pn Try.f58.ntmps bs.tb bs.code = true:=by kernel_rfl
theorem bs.T {F:Nat} {aa:Sl} {ae:Int} {H:Hp} {v:AV} {H':Hp} (h:bs.tw F aa ae H = some (v,H')):Go.AE.T Try.prog 58 [(.sl aa),(.int .i64 ae)] H v H':=
 Go.AE.T.of (Y:=tabs) (C:=mkOrc (bs.cs F)) (PN:=bs.pn) (LH:=bs.lh F) (F:=F) (TB:=bs.tb) (fn:=Try.f58) (code:=bs.code) mixed tabs_ok (mkOrc_ok (bs.cs_ok F)) Try.func58 (by kernel_rfl) (by kernel_rfl) bs.ok (Nat.le_of_ble_eq_true (by kernel_rfl)) (bs.loops F) (Eq.trans (bs.eqX F aa ae H) h)
theorem bs.mk_T {F:Nat} {args:List AV} {H:Hp} {v:AV} {H':Hp} (h:bs.mk (bs.tw F) args H = some (v,H')):Go.AE.T Try.prog 58 args H v H':=by
 unfold bs.mk at h
 split at h
 ·exact bs.T h
 ·cases h
noncomputable def bl.twX (F:Nat) (fL:Sl→Int→Hp→OA) (aa:Sl) (ab:Int) (ar:Int) (H:Hp):OA:=(Hp.new H [(.sl aa),(.int .i64 ab)]).bind fun H4=>(Hp.ldSl H4 H.length 0).bind fun s5=>(fL s5 ar H4).bind fun r6=>((r6.1).asI .i64).bind fun n7=>(bif (decide (n7 < 0)) then (some ((.int .i64 (-1)),r6.2)) else (some ((.int .i64 n7),r6.2)))
noncomputable def bl.tw (F:Nat) (aa:Sl) (ab:Int) (ar:Int) (H:Hp):OA:=bl.twX F (bs.tw F) aa ab ar H
noncomputable def bl.code:Go.Code:=(Try.f15.body).getD .skip
noncomputable def bl.lh (F:Nat) (fL:Sl→Int→Hp→OA) (p:Nat) (ks:List Nat) (n:Nat) (tm:Tm) (H:Hp):OA:=none
def bl.pn:Nat→List Nat:=fun i=>(([]:List (Nat×List Nat)).lookup i).getD []
def bl.tb:Nat→List (List Nat):=fun i=>(([]:List (Nat×List (List Nat))).lookup i).getD []
noncomputable def bl.mk (g:Sl→Int→Int→Hp→OA) (args:List AV) (H:Hp):OA:=match args with
 | [(.agg [(.sl aa),(.int .i64 ab)]),(.int .i64 ar)]=>g aa ab ar H
 | _=>none
noncomputable def bl.cs (F:Nat) (fL:Sl→Int→Hp→OA):List (FuncId×(List AV→Hp→OA)):=[(58,bs.mk fL)]
theorem bl.loops (F:Nat) (fL:Sl→Int→Hp→OA):LoopsOk tabs (mkOrc (bl.cs F fL)) bl.pn (bl.lh F fL) F [] 1 bl.code (fun tm H=>aresults tabs.ty H tm Try.f15.results.toList fun v=>some (v,H)) (fun _ _ _=>none) (fun tm H=>aresults tabs.ty H tm Try.f15.results.toList fun v=>some (v,H)):=by
 exact loops_none (by kernel_rfl)
theorem bl.eqX (F:Nat) (fL:Sl→Int→Hp→OA) (aa:Sl) (ab:Int) (ar:Int) (H:Hp):aCode tabs (mkOrc (bl.cs F fL)) bl.pn (bl.lh F fL) F [] 1 bl.code (argTm [(.agg [(.sl aa),(.int .i64 ab)]),(.int .i64 ar)]) H (fun tm H=>aresults tabs.ty H tm Try.f15.results.toList fun v=>some (v,H)) (fun _ _ _=>none) (fun tm H=>aresults tabs.ty H tm Try.f15.results.toList fun v=>some (v,H)) = bl.twX F fL aa ab ar H:=by kernel_rfl
theorem bl.cs_ok (F:Nat):∀ p ∈ bl.cs F (bs.tw F),∀ args H v H',p.2 args H = some (v,H')→Go.AE.T Try.prog p.1 args H v H':=by
 intro p hp
 simp only [bl.cs,List.mem_cons,List.not_mem_nil,or_false] at hp
 subst hp
 exact fun args H v H' h=>bs.mk_T h
theorem bl.ok:codeOk bl.pn Try.f15.ntmps bl.tb bl.code = true:=by kernel_rfl
theorem bl.T {F:Nat} {aa:Sl} {ab:Int} {ar:Int} {H:Hp} {v:AV} {H':Hp} (h:bl.tw F aa ab ar H = some (v,H')):Go.AE.T Try.prog 15 [(.agg [(.sl aa),(.int .i64 ab)]),(.int .i64 ar)] H v H':=
 Go.AE.T.of (Y:=tabs) (C:=mkOrc (bl.cs F (bs.tw F))) (PN:=bl.pn) (LH:=bl.lh F (bs.tw F)) (F:=F) (TB:=bl.tb) (fn:=Try.f15) (code:=bl.code) mixed tabs_ok (mkOrc_ok (bl.cs_ok F)) Try.func15 (by kernel_rfl) (by kernel_rfl) bl.ok (Nat.le_of_ble_eq_true (by kernel_rfl)) (bl.loops F (bs.tw F)) (Eq.trans (bl.eqX F (bs.tw F) aa ab ar H) h)
theorem bl.mk_T {F:Nat} {args:List AV} {H:Hp} {v:AV} {H':Hp} (h:bl.mk (bl.tw F) args H = some (v,H')):Go.AE.T Try.prog 15 args H v H':=by
 unfold bl.mk at h
 split at h
 ·exact bl.T h
 ·cases h
noncomputable def bt.twX (F:Nat) (aa:Int) (ab:Int) (aw:Int) (ax:Int) (au:Int) (H:Hp):OA:=(Hp.new H [(.int .i64 aa),(.int .i64 ab),(.int .i64 aw),(.int .i64 ax),(.int .i64 au)]).bind fun H6=>(Hp.new H6 [.int .i64 0,.int .i64 0,.int .i64 0,.int .i64 0,.int .i64 0]).bind fun H7=>(Hp.new H7 [.int .i64 0,.int .i64 0,.int .i64 0,.int .i64 0,.int .i64 0]).bind fun H8=>(Hp.ldI H8 .i64 H.length 0).bind fun n9=>(Hp.st H8 H7.length 0 (.int .i64 n9)).bind fun H10=>(Hp.ldI H10 .i64 H.length 1).bind fun n11=>(Hp.st H10 H7.length 1 (.int .i64 n11)).bind fun H12=>(Hp.ldI H12 .i64 H.length 2).bind fun n13=>(Hp.st H12 H7.length 2 (.int .i64 n13)).bind fun H14=>(Hp.ldI H14 .i64 H.length 3).bind fun n15=>(Hp.st H14 H7.length 3 (.int .i64 n15)).bind fun H16=>(Hp.ldI H16 .i64 H.length 4).bind fun n17=>(Hp.st H16 H7.length 4 (.int .i64 n17)).bind fun H18=>(Hp.ldI H18 .i64 H7.length 0).bind fun n19=>(Hp.ldI H18 .i64 H7.length (0 + 1)).bind fun n20=>(Hp.ldI H18 .i64 H7.length (0 + 2)).bind fun n21=>(Hp.ldI H18 .i64 H7.length (0 + 3)).bind fun n22=>(Hp.ldI H18 .i64 H7.length (0 + 4)).bind fun n23=>(Hp.st H18 H6.length 0 (.int .i64 n19)).bind fun H24=>(Hp.st H24 H6.length (0 + 1) (.int .i64 n20)).bind fun H25=>(Hp.st H25 H6.length (0 + 1 + 1) (.int .i64 n21)).bind fun H26=>(Hp.st H26 H6.length (0 + 1 + 1 + 1) (.int .i64 n22)).bind fun H27=>(Hp.st H27 H6.length (0 + 1 + 1 + 1 + 1) (.int .i64 n23)).bind fun H28=>(Hp.ldI H28 .i64 H6.length 0).bind fun n29=>(Hp.ldI H28 .i64 H6.length (0 + 1)).bind fun n30=>(Hp.ldI H28 .i64 H6.length (0 + 2)).bind fun n31=>(Hp.ldI H28 .i64 H6.length (0 + 3)).bind fun n32=>(Hp.ldI H28 .i64 H6.length (0 + 4)).bind fun n33=>some ((.agg [(.int .i64 n29),(.int .i64 n30),(.int .i64 n31),(.int .i64 n32),(.int .i64 n33)]),H28)
noncomputable def bt.tw (F:Nat) (aa:Int) (ab:Int) (aw:Int) (ax:Int) (au:Int) (H:Hp):OA:=bt.twX F aa ab aw ax au H
noncomputable def bt.code:Go.Code:=(Try.f115.body).getD .skip
noncomputable def bt.lh (F:Nat) (p:Nat) (ks:List Nat) (n:Nat) (tm:Tm) (H:Hp):OA:=none
def bt.pn:Nat→List Nat:=fun i=>(([]:List (Nat×List Nat)).lookup i).getD []
def bt.tb:Nat→List (List Nat):=fun i=>(([]:List (Nat×List (List Nat))).lookup i).getD []
noncomputable def bt.mk (g:Int→Int→Int→Int→Int→Hp→OA) (args:List AV) (H:Hp):OA:=match args with
 | [(.agg [(.int .i64 aa),(.int .i64 ab),(.int .i64 aw),(.int .i64 ax),(.int .i64 au)])]=>g aa ab aw ax au H
 | _=>none
noncomputable def bt.cs (F:Nat):List (FuncId×(List AV→Hp→OA)):=[]
theorem bt.loops (F:Nat):LoopsOk tabs (mkOrc (bt.cs F)) bt.pn (bt.lh F) F [] 1 bt.code (fun tm H=>aresults tabs.ty H tm Try.f115.results.toList fun v=>some (v,H)) (fun _ _ _=>none) (fun tm H=>aresults tabs.ty H tm Try.f115.results.toList fun v=>some (v,H)):=by
 exact loops_none (by kernel_rfl)
theorem bt.eqX (F:Nat) (aa:Int) (ab:Int) (aw:Int) (ax:Int) (au:Int) (H:Hp):aCode tabs (mkOrc (bt.cs F)) bt.pn (bt.lh F) F [] 1 bt.code (argTm [(.agg [(.int .i64 aa),(.int .i64 ab),(.int .i64 aw),(.int .i64 ax),(.int .i64 au)])]) H (fun tm H=>aresults tabs.ty H tm Try.f115.results.toList fun v=>some (v,H)) (fun _ _ _=>none) (fun tm H=>aresults tabs.ty H tm Try.f115.results.toList fun v=>some (v,H)) = bt.twX F aa ab aw ax au H:=by kernel_rfl
theorem bt.cs_ok (F:Nat):∀ p ∈ bt.cs F,∀ args H v H',p.2 args H = some (v,H')→Go.AE.T Try.prog p.1 args H v H':=by
 intro p hp
 exact absurd (show p ∈ [] from hp) List.not_mem_nil
theorem bt.ok:codeOk bt.pn Try.f115.ntmps bt.tb bt.code = true:=by kernel_rfl
theorem bt.T {F:Nat} {aa:Int} {ab:Int} {aw:Int} {ax:Int} {au:Int} {H:Hp} {v:AV} {H':Hp} (h:bt.tw F aa ab aw ax au H = some (v,H')):Go.AE.T Try.prog 115 [(.agg [(.int .i64 aa),(.int .i64 ab),(.int .i64 aw),(.int .i64 ax),(.int .i64 au)])] H v H':=
 Go.AE.T.of (Y:=tabs) (C:=mkOrc (bt.cs F)) (PN:=bt.pn) (LH:=bt.lh F) (F:=F) (TB:=bt.tb) (fn:=Try.f115) (code:=bt.code) mixed tabs_ok (mkOrc_ok (bt.cs_ok F)) Try.func115 (by kernel_rfl) (by kernel_rfl) bt.ok (Nat.le_of_ble_eq_true (by kernel_rfl)) (bt.loops F) (Eq.trans (bt.eqX F aa ab aw ax au H) h)
theorem bt.mk_T {F:Nat} {args:List AV} {H:Hp} {v:AV} {H':Hp} (h:bt.mk (bt.tw F) args H = some (v,H')):Go.AE.T Try.prog 115 args H v H':=by
 unfold bt.mk at h
 split at h
 ·exact bt.T h
 ·cases h
noncomputable def aJ.l29 (F:Nat) (dc:Int→Int→Int→Int→Int→Hp→OA) :Nat→Sl→Sl→Int→Hp→OA
 | 0,_,_,_,_=>none
 | eN + 1,aT,fy,dd,H7=>(bif (decide (dd < (aT.n:Int))) then ((Sl.idx aT dd 5).bind fun p32=>(Hp.ldI H7 .i64 p32.1 p32.2).bind fun n33=>(Hp.ldI H7 .i64 p32.1 (p32.2 + 1)).bind fun n34=>(Hp.ldI H7 .i64 p32.1 (p32.2 + 2)).bind fun n35=>(Hp.ldI H7 .i64 p32.1 (p32.2 + 3)).bind fun n36=>(Hp.ldI H7 .i64 p32.1 (p32.2 + 4)).bind fun n37=>(dc n33 n34 n35 n36 n37 H7).bind fun r38=>((r38.1).asAgg 5).bind fun l39=>(l39[0]?).bind fun v40=>((v40).asI .i64).bind fun n41=>(l39[1]?).bind fun v42=>((v42).asI .i64).bind fun n43=>(l39[2]?).bind fun v44=>((v44).asI .i64).bind fun n45=>(l39[3]?).bind fun v46=>((v46).asI .i64).bind fun n47=>(l39[4]?).bind fun v48=>((v48).asI .i64).bind fun n49=>(Sl.idx fy dd 5).bind fun p50=>(Hp.st r38.2 p50.1 p50.2 (.int .i64 n41)).bind fun H51=>(Hp.st H51 p50.1 (p50.2 + 1) (.int .i64 n43)).bind fun H52=>(Hp.st H52 p50.1 (p50.2 + 1 + 1) (.int .i64 n45)).bind fun H53=>(Hp.st H53 p50.1 (p50.2 + 1 + 1 + 1) (.int .i64 n47)).bind fun H54=>(Hp.st H54 p50.1 (p50.2 + 1 + 1 + 1 + 1) (.int .i64 n49)).bind fun H55=>aJ.l29 F dc eN aT fy (IntKind.i64.wrap (dd + 1)) H55) else (some ((.sl fy),H7)))
termination_by structural n=>n
noncomputable def aJ.twX (F:Nat) (dc:Int→Int→Int→Int→Int→Hp→OA) (aa:Sl) (H:Hp):OA:=(Hp.mk H [.int .i64 0,.int .i64 0,.int .i64 0,.int .i64 0,.int .i64 0] 40 (aa.n:Int) (aa.n:Int)).bind fun m2=>aJ.l29 F dc F aa m2.1 0 m2.2
noncomputable def aJ.tw (F:Nat) (aa:Sl) (H:Hp):OA:=aJ.twX F (bt.tw F) aa H
noncomputable def aJ.code:Go.Code:=(Try.f60.body).getD .skip
noncomputable def aJ.lh29 (F:Nat) (dc:Int→Int→Int→Int→Int→Hp→OA) (ks:List Nat) (n:Nat) (tm:Tm) (H:Hp):OA:=match ks,tm 0,tm 3,tm 4 with
 | [],(.sl aT),(.sl fy),(.int .i64 dd)=>aJ.l29 F dc n aT fy dd H
 | _,_,_,_=>none
theorem aJ.lh29_inv {F:Nat} {dc:Int→Int→Int→Int→Int→Hp→OA} {ks:List Nat} {n:Nat} {tm:Tm} {H:Hp} {r:AV×Hp} (h:aJ.lh29 F dc ks n tm H = some r):∃ aT:Sl,∃ fy:Sl,∃ dd:Int,ks = []∧tm 0 = (.sl aT)∧tm 3 = (.sl fy)∧tm 4 = (.int .i64 dd)∧aJ.l29 F dc n aT fy dd H = some r:=by
 unfold aJ.lh29 at h
 split at h
 ·exact ⟨_,_,_,rfl,by assumption,by assumption,by assumption,h⟩
 ·cases h
noncomputable def aJ.lh (F:Nat) (dc:Int→Int→Int→Int→Int→Hp→OA) (p:Nat) (ks:List Nat) (n:Nat) (tm:Tm) (H:Hp):OA:=bif p.beq 29 then aJ.lh29 F dc ks n tm H else (none)
def aJ.pn:Nat→List Nat:=fun i=>(([]:List (Nat×List Nat)).lookup i).getD []
def aJ.tb:Nat→List (List Nat):=fun i=>(([]:List (Nat×List (List Nat))).lookup i).getD []
noncomputable def aJ.mk (g:Sl→Hp→OA) (args:List AV) (H:Hp):OA:=match args with
 | [(.sl aa)]=>g aa H
 | _=>none
noncomputable def aJ.cs (F:Nat) (dc:Int→Int→Int→Int→Int→Hp→OA):List (FuncId×(List AV→Hp→OA)):=[(115,bt.mk dc)]
theorem aJ.loops (F:Nat) (dc:Int→Int→Int→Int→Int→Hp→OA):LoopsOk tabs (mkOrc (aJ.cs F dc)) aJ.pn (aJ.lh F dc) F [] 1 aJ.code (fun tm H=>aresults tabs.ty H tm Try.f60.results.toList fun v=>some (v,H)) (fun _ _ _=>none) (fun tm H=>aresults tabs.ty H tm Try.f60.results.toList fun v=>some (v,H)):=by
 refine LoopsOk.seq ?_ ?_
 ·exact loops_none (by kernel_rfl)
 ·refine LoopsOk.seq ?_ ?_
  ·exact loops_none (by kernel_rfl)
  ·refine LoopsOk.seq ?_ ?_
   ·refine LoopsOk.seq ?_ ?_
    ·exact loops_none (by kernel_rfl)
    ·refine LoopsOk.block ?_
     refine LoopsOk.loop (fun tm H=>?_) (fun k29 tm H r h0=>?_) (fun k29=>?_)
     ·refine none_of fun r h0=>?_
      obtain ⟨aT,fy,dd,hks,e0,e3,e4,h⟩:=aJ.lh29_inv (show aJ.lh29 F dc [] 0 tm H = some r from h0)
      cases h
     ·obtain ⟨aT,fy,dd,hks,e0,e3,e4,h⟩:=aJ.lh29_inv (show aJ.lh29 F dc [] (k29 + 1) tm H = some r from h0)
      have q0:(Tm.put tm 0 (.sl aT)) = tm:=by exact Tm.put_same e0
      have q1:(Tm.put (Tm.put tm 0 (.sl aT)) 3 (.sl fy)) = tm:=by rw [q0]; exact Tm.put_same e3
      have q2:(Tm.put (Tm.put (Tm.put tm 0 (.sl aT)) 3 (.sl fy)) 4 (.int .i64 dd)) = tm:=by rw [q1]; exact Tm.put_same e4
      rw [← q2]
      exact Eq.trans (by kernel_rfl) h
     ·exact loops_none (by kernel_rfl)
   ·exact loops_none (by kernel_rfl)
theorem aJ.eqX (F:Nat) (dc:Int→Int→Int→Int→Int→Hp→OA) (aa:Sl) (H:Hp):aCode tabs (mkOrc (aJ.cs F dc)) aJ.pn (aJ.lh F dc) F [] 1 aJ.code (argTm [(.sl aa)]) H (fun tm H=>aresults tabs.ty H tm Try.f60.results.toList fun v=>some (v,H)) (fun _ _ _=>none) (fun tm H=>aresults tabs.ty H tm Try.f60.results.toList fun v=>some (v,H)) = aJ.twX F dc aa H:=by kernel_rfl
theorem aJ.cs_ok (F:Nat):∀ p ∈ aJ.cs F (bt.tw F),∀ args H v H',p.2 args H = some (v,H')→Go.AE.T Try.prog p.1 args H v H':=by
 intro p hp
 simp only [aJ.cs,List.mem_cons,List.not_mem_nil,or_false] at hp
 subst hp
 exact fun args H v H' h=>bt.mk_T h
theorem aJ.ok:codeOk aJ.pn Try.f60.ntmps aJ.tb aJ.code = true:=by kernel_rfl
theorem aJ.T {F:Nat} {aa:Sl} {H:Hp} {v:AV} {H':Hp} (h:aJ.tw F aa H = some (v,H')):Go.AE.T Try.prog 60 [(.sl aa)] H v H':=
 Go.AE.T.of (Y:=tabs) (C:=mkOrc (aJ.cs F (bt.tw F))) (PN:=aJ.pn) (LH:=aJ.lh F (bt.tw F)) (F:=F) (TB:=aJ.tb) (fn:=Try.f60) (code:=aJ.code) mixed tabs_ok (mkOrc_ok (aJ.cs_ok F)) Try.func60 (by kernel_rfl) (by kernel_rfl) aJ.ok (Nat.le_of_ble_eq_true (by kernel_rfl)) (aJ.loops F (bt.tw F)) (Eq.trans (aJ.eqX F (bt.tw F) aa H) h)
theorem aJ.mk_T {F:Nat} {args:List AV} {H:Hp} {v:AV} {H':Hp} (h:aJ.mk (aJ.tw F) args H = some (v,H')):Go.AE.T Try.prog 60 args H v H':=by
 unfold aJ.mk at h
 split at h
 ·exact aJ.T h
 ·cases h
noncomputable def bd.twX (F:Nat) (fM:Sl→Hp→OA) (aa:Sl) (ab:Int) (H:Hp):OA:=(Hp.new H [(.sl aa),(.int .i64 ab)]).bind fun H3=>(Hp.new H3 [.sl ⟨none,0,.ex 0⟩,.int .i64 0]).bind fun H4=>(Hp.new H4 [.sl ⟨none,0,.ex 0⟩,.int .i64 0]).bind fun H5=>(Hp.ldSl H5 H.length 0).bind fun s6=>(fM s6 H5).bind fun r7=>((r7.1).asSl).bind fun s8=>(Hp.st r7.2 H4.length 0 (.sl s8)).bind fun H9=>(Hp.ldI H9 .i64 H.length 1).bind fun n10=>(Hp.st H9 H4.length 1 (.int .i64 n10)).bind fun H11=>(Hp.ldSl H11 H4.length 0).bind fun s12=>(Hp.ldI H11 .i64 H4.length (0 + 1)).bind fun n13=>(Hp.st H11 H3.length 0 (.sl s12)).bind fun H14=>(Hp.st H14 H3.length (0 + 1) (.int .i64 n13)).bind fun H15=>(Hp.ldSl H15 H3.length 0).bind fun s16=>(Hp.ldI H15 .i64 H3.length (0 + 1)).bind fun n17=>some ((.agg [(.sl s16),(.int .i64 n17)]),H15)
noncomputable def bd.tw (F:Nat) (aa:Sl) (ab:Int) (H:Hp):OA:=bd.twX F (aJ.tw F) aa ab H
noncomputable def bd.code:Go.Code:=(Try.f17.body).getD .skip
noncomputable def bd.lh (F:Nat) (fM:Sl→Hp→OA) (p:Nat) (ks:List Nat) (n:Nat) (tm:Tm) (H:Hp):OA:=none
def bd.pn:Nat→List Nat:=fun i=>(([]:List (Nat×List Nat)).lookup i).getD []
def bd.tb:Nat→List (List Nat):=fun i=>(([]:List (Nat×List (List Nat))).lookup i).getD []
noncomputable def bd.mk (g:Sl→Int→Hp→OA) (args:List AV) (H:Hp):OA:=match args with
 | [(.agg [(.sl aa),(.int .i64 ab)])]=>g aa ab H
 | _=>none
noncomputable def bd.cs (F:Nat) (fM:Sl→Hp→OA):List (FuncId×(List AV→Hp→OA)):=[(60,aJ.mk fM)]
theorem bd.loops (F:Nat) (fM:Sl→Hp→OA):LoopsOk tabs (mkOrc (bd.cs F fM)) bd.pn (bd.lh F fM) F [] 1 bd.code (fun tm H=>aresults tabs.ty H tm Try.f17.results.toList fun v=>some (v,H)) (fun _ _ _=>none) (fun tm H=>aresults tabs.ty H tm Try.f17.results.toList fun v=>some (v,H)):=by
 exact loops_none (by kernel_rfl)
theorem bd.eqX (F:Nat) (fM:Sl→Hp→OA) (aa:Sl) (ab:Int) (H:Hp):aCode tabs (mkOrc (bd.cs F fM)) bd.pn (bd.lh F fM) F [] 1 bd.code (argTm [(.agg [(.sl aa),(.int .i64 ab)])]) H (fun tm H=>aresults tabs.ty H tm Try.f17.results.toList fun v=>some (v,H)) (fun _ _ _=>none) (fun tm H=>aresults tabs.ty H tm Try.f17.results.toList fun v=>some (v,H)) = bd.twX F fM aa ab H:=by kernel_rfl
theorem bd.cs_ok (F:Nat):∀ p ∈ bd.cs F (aJ.tw F),∀ args H v H',p.2 args H = some (v,H')→Go.AE.T Try.prog p.1 args H v H':=by
 intro p hp
 simp only [bd.cs,List.mem_cons,List.not_mem_nil,or_false] at hp
 subst hp
 exact fun args H v H' h=>aJ.mk_T h
theorem bd.ok:codeOk bd.pn Try.f17.ntmps bd.tb bd.code = true:=by kernel_rfl
theorem bd.T {F:Nat} {aa:Sl} {ab:Int} {H:Hp} {v:AV} {H':Hp} (h:bd.tw F aa ab H = some (v,H')):Go.AE.T Try.prog 17 [(.agg [(.sl aa),(.int .i64 ab)])] H v H':=
 Go.AE.T.of (Y:=tabs) (C:=mkOrc (bd.cs F (aJ.tw F))) (PN:=bd.pn) (LH:=bd.lh F (aJ.tw F)) (F:=F) (TB:=bd.tb) (fn:=Try.f17) (code:=bd.code) mixed tabs_ok (mkOrc_ok (bd.cs_ok F)) Try.func17 (by kernel_rfl) (by kernel_rfl) bd.ok (Nat.le_of_ble_eq_true (by kernel_rfl)) (bd.loops F (aJ.tw F)) (Eq.trans (bd.eqX F (aJ.tw F) aa ab H) h)
theorem bd.mk_T {F:Nat} {args:List AV} {H:Hp} {v:AV} {H':Hp} (h:bd.mk (bd.tw F) args H = some (v,H')):Go.AE.T Try.prog 17 args H v H':=by
 unfold bd.mk at h
 split at h
 ·exact bd.T h
 ·cases h
noncomputable def aY.twX (F:Nat) (aa:Int) (ae:Int) (bC:Int) (H:Hp):OA:=(bif (decide (aa ≥ ae)) then (some ((.bool (decide (aa ≤ bC))),H)) else (some ((.bool false),H)))
noncomputable def aY.tw (F:Nat) (aa:Int) (ae:Int) (bC:Int) (H:Hp):OA:=aY.twX F aa ae bC H
noncomputable def aY.code:Go.Code:=(Try.f65.body).getD .skip
noncomputable def aY.lh (F:Nat) (p:Nat) (ks:List Nat) (n:Nat) (tm:Tm) (H:Hp):OA:=none
def aY.pn:Nat→List Nat:=fun i=>(([]:List (Nat×List Nat)).lookup i).getD []
def aY.tb:Nat→List (List Nat):=fun i=>(([]:List (Nat×List (List Nat))).lookup i).getD []
noncomputable def aY.mk (g:Int→Int→Int→Hp→OA) (args:List AV) (H:Hp):OA:=match args with
 | [(.int .i64 aa),(.int .i64 ae),(.int .i64 bC)]=>g aa ae bC H
 | _=>none
noncomputable def aY.cs (F:Nat):List (FuncId×(List AV→Hp→OA)):=[]
theorem aY.loops (F:Nat):LoopsOk tabs (mkOrc (aY.cs F)) aY.pn (aY.lh F) F [] 1 aY.code (fun tm H=>aresults tabs.ty H tm Try.f65.results.toList fun v=>some (v,H)) (fun _ _ _=>none) (fun tm H=>aresults tabs.ty H tm Try.f65.results.toList fun v=>some (v,H)):=by
 exact loops_none (by kernel_rfl)
theorem aY.eqX (F:Nat) (aa:Int) (ae:Int) (bC:Int) (H:Hp):aCode tabs (mkOrc (aY.cs F)) aY.pn (aY.lh F) F [] 1 aY.code (argTm [(.int .i64 aa),(.int .i64 ae),(.int .i64 bC)]) H (fun tm H=>aresults tabs.ty H tm Try.f65.results.toList fun v=>some (v,H)) (fun _ _ _=>none) (fun tm H=>aresults tabs.ty H tm Try.f65.results.toList fun v=>some (v,H)) = aY.twX F aa ae bC H:=by kernel_rfl
theorem aY.cs_ok (F:Nat):∀ p ∈ aY.cs F,∀ args H v H',p.2 args H = some (v,H')→Go.AE.T Try.prog p.1 args H v H':=by
 intro p hp
 exact absurd (show p ∈ [] from hp) List.not_mem_nil
theorem aY.ok:codeOk aY.pn Try.f65.ntmps aY.tb aY.code = true:=by kernel_rfl
theorem aY.T {F:Nat} {aa:Int} {ae:Int} {bC:Int} {H:Hp} {v:AV} {H':Hp} (h:aY.tw F aa ae bC H = some (v,H')):Go.AE.T Try.prog 65 [(.int .i64 aa),(.int .i64 ae),(.int .i64 bC)] H v H':=
 Go.AE.T.of (Y:=tabs) (C:=mkOrc (aY.cs F)) (PN:=aY.pn) (LH:=aY.lh F) (F:=F) (TB:=aY.tb) (fn:=Try.f65) (code:=aY.code) mixed tabs_ok (mkOrc_ok (aY.cs_ok F)) Try.func65 (by kernel_rfl) (by kernel_rfl) aY.ok (Nat.le_of_ble_eq_true (by kernel_rfl)) (aY.loops F) (Eq.trans (aY.eqX F aa ae bC H) h)
theorem aY.mk_T {F:Nat} {args:List AV} {H:Hp} {v:AV} {H':Hp} (h:aY.mk (aY.tw F) args H = some (v,H')):Go.AE.T Try.prog 65 args H v H':=by
 unfold aY.mk at h
 split at h
 ·exact aY.T h
 ·cases h
noncomputable def aR.twX (F:Nat) (aa:Int) (ab:Int) (aw:Int) (ax:Int) (au:Int) (aU:Int) (H:Hp):OA:=(Hp.new H [(.int .i64 aa),(.int .i64 ab),(.int .i64 aw),(.int .i64 ax),(.int .i64 au)]).bind fun H7=>(Hp.ldI H7 .i64 H.length 0).bind fun n8=>(Hp.ldI H7 .i64 H.length 1).bind fun n9=>(Hp.ldI H7 .i64 H.length 2).bind fun n10=>(Hp.ldI H7 .i64 H.length 3).bind fun n11=>(Hp.new H7 [(.int .i64 n8),(.int .i64 n9),(.int .i64 n10),(.int .i64 n11)]).bind fun H12=>(Sl.idx (⟨some (H7.length,0),4,.ex 4⟩:Sl) aU 1).bind fun p13=>(Hp.ldI H12 .i64 p13.1 p13.2).bind fun n14=>some ((.int .i64 n14),H12)
noncomputable def aR.tw (F:Nat) (aa:Int) (ab:Int) (aw:Int) (ax:Int) (au:Int) (aU:Int) (H:Hp):OA:=aR.twX F aa ab aw ax au aU H
noncomputable def aR.code:Go.Code:=(Try.f140.body).getD .skip
noncomputable def aR.lh (F:Nat) (p:Nat) (ks:List Nat) (n:Nat) (tm:Tm) (H:Hp):OA:=none
def aR.pn:Nat→List Nat:=fun i=>(([]:List (Nat×List Nat)).lookup i).getD []
def aR.tb:Nat→List (List Nat):=fun i=>(([]:List (Nat×List (List Nat))).lookup i).getD []
noncomputable def aR.mk (g:Int→Int→Int→Int→Int→Int→Hp→OA) (args:List AV) (H:Hp):OA:=match args with
 | [(.agg [(.int .i64 aa),(.int .i64 ab),(.int .i64 aw),(.int .i64 ax),(.int .i64 au)]),(.int .i64 aU)]=>g aa ab aw ax au aU H
 | _=>none
noncomputable def aR.cs (F:Nat):List (FuncId×(List AV→Hp→OA)):=[]
theorem aR.loops (F:Nat):LoopsOk tabs (mkOrc (aR.cs F)) aR.pn (aR.lh F) F [] 1 aR.code (fun tm H=>aresults tabs.ty H tm Try.f140.results.toList fun v=>some (v,H)) (fun _ _ _=>none) (fun tm H=>aresults tabs.ty H tm Try.f140.results.toList fun v=>some (v,H)):=by
 exact loops_none (by kernel_rfl)
theorem aR.eqX (F:Nat) (aa:Int) (ab:Int) (aw:Int) (ax:Int) (au:Int) (aU:Int) (H:Hp):aCode tabs (mkOrc (aR.cs F)) aR.pn (aR.lh F) F [] 1 aR.code (argTm [(.agg [(.int .i64 aa),(.int .i64 ab),(.int .i64 aw),(.int .i64 ax),(.int .i64 au)]),(.int .i64 aU)]) H (fun tm H=>aresults tabs.ty H tm Try.f140.results.toList fun v=>some (v,H)) (fun _ _ _=>none) (fun tm H=>aresults tabs.ty H tm Try.f140.results.toList fun v=>some (v,H)) = aR.twX F aa ab aw ax au aU H:=by kernel_rfl
theorem aR.cs_ok (F:Nat):∀ p ∈ aR.cs F,∀ args H v H',p.2 args H = some (v,H')→Go.AE.T Try.prog p.1 args H v H':=by
 intro p hp
 exact absurd (show p ∈ [] from hp) List.not_mem_nil
theorem aR.ok:codeOk aR.pn Try.f140.ntmps aR.tb aR.code = true:=by kernel_rfl
theorem aR.T {F:Nat} {aa:Int} {ab:Int} {aw:Int} {ax:Int} {au:Int} {aU:Int} {H:Hp} {v:AV} {H':Hp} (h:aR.tw F aa ab aw ax au aU H = some (v,H')):Go.AE.T Try.prog 140 [(.agg [(.int .i64 aa),(.int .i64 ab),(.int .i64 aw),(.int .i64 ax),(.int .i64 au)]),(.int .i64 aU)] H v H':=
 Go.AE.T.of (Y:=tabs) (C:=mkOrc (aR.cs F)) (PN:=aR.pn) (LH:=aR.lh F) (F:=F) (TB:=aR.tb) (fn:=Try.f140) (code:=aR.code) mixed tabs_ok (mkOrc_ok (aR.cs_ok F)) Try.func140 (by kernel_rfl) (by kernel_rfl) aR.ok (Nat.le_of_ble_eq_true (by kernel_rfl)) (aR.loops F) (Eq.trans (aR.eqX F aa ab aw ax au aU H) h)
theorem aR.mk_T {F:Nat} {args:List AV} {H:Hp} {v:AV} {H':Hp} (h:aR.mk (aR.tw F) args H = some (v,H')):Go.AE.T Try.prog 140 args H v H':=by
 unfold aR.mk at h
 split at h
 ·exact aR.T h
 ·cases h
noncomputable def aS.twX (F:Nat) (aa:Int) (ab:Int) (aw:Int) (ax:Int) (au:Int) (aU:Int) (H:Hp):OA:=(Hp.new H [(.int .i64 aa),(.int .i64 ab),(.int .i64 aw),(.int .i64 ax),(.int .i64 au)]).bind fun H7=>(bif (aU == 0) then (some ((.bool true),H7)) else ((bif (aU == 3) then ((Hp.ldI H7 .i64 H.length 4).bind fun n8=>(bif (n8 == 1) then (some ((.bool true),H7)) else ((bif (aU == 1) then ((Hp.ldI H7 .i64 H.length 4).bind fun n9=>some ((.bool (n9 == (-1))),H7)) else (some ((.bool false),H7)))))) else ((bif (aU == 1) then ((Hp.ldI H7 .i64 H.length 4).bind fun n10=>some ((.bool (n10 == (-1))),H7)) else (some ((.bool false),H7)))))))
noncomputable def aS.tw (F:Nat) (aa:Int) (ab:Int) (aw:Int) (ax:Int) (au:Int) (aU:Int) (H:Hp):OA:=aS.twX F aa ab aw ax au aU H
noncomputable def aS.code:Go.Code:=(Try.f141.body).getD .skip
noncomputable def aS.lh (F:Nat) (p:Nat) (ks:List Nat) (n:Nat) (tm:Tm) (H:Hp):OA:=none
def aS.pn:Nat→List Nat:=fun i=>(([]:List (Nat×List Nat)).lookup i).getD []
def aS.tb:Nat→List (List Nat):=fun i=>(([]:List (Nat×List (List Nat))).lookup i).getD []
noncomputable def aS.mk (g:Int→Int→Int→Int→Int→Int→Hp→OA) (args:List AV) (H:Hp):OA:=match args with
 | [(.agg [(.int .i64 aa),(.int .i64 ab),(.int .i64 aw),(.int .i64 ax),(.int .i64 au)]),(.int .i64 aU)]=>g aa ab aw ax au aU H
 | _=>none
noncomputable def aS.cs (F:Nat):List (FuncId×(List AV→Hp→OA)):=[]
theorem aS.loops (F:Nat):LoopsOk tabs (mkOrc (aS.cs F)) aS.pn (aS.lh F) F [] 1 aS.code (fun tm H=>aresults tabs.ty H tm Try.f141.results.toList fun v=>some (v,H)) (fun _ _ _=>none) (fun tm H=>aresults tabs.ty H tm Try.f141.results.toList fun v=>some (v,H)):=by
 exact loops_none (by kernel_rfl)
theorem aS.eqX (F:Nat) (aa:Int) (ab:Int) (aw:Int) (ax:Int) (au:Int) (aU:Int) (H:Hp):aCode tabs (mkOrc (aS.cs F)) aS.pn (aS.lh F) F [] 1 aS.code (argTm [(.agg [(.int .i64 aa),(.int .i64 ab),(.int .i64 aw),(.int .i64 ax),(.int .i64 au)]),(.int .i64 aU)]) H (fun tm H=>aresults tabs.ty H tm Try.f141.results.toList fun v=>some (v,H)) (fun _ _ _=>none) (fun tm H=>aresults tabs.ty H tm Try.f141.results.toList fun v=>some (v,H)) = aS.twX F aa ab aw ax au aU H:=by kernel_rfl
theorem aS.cs_ok (F:Nat):∀ p ∈ aS.cs F,∀ args H v H',p.2 args H = some (v,H')→Go.AE.T Try.prog p.1 args H v H':=by
 intro p hp
 exact absurd (show p ∈ [] from hp) List.not_mem_nil
theorem aS.ok:codeOk aS.pn Try.f141.ntmps aS.tb aS.code = true:=by kernel_rfl
theorem aS.T {F:Nat} {aa:Int} {ab:Int} {aw:Int} {ax:Int} {au:Int} {aU:Int} {H:Hp} {v:AV} {H':Hp} (h:aS.tw F aa ab aw ax au aU H = some (v,H')):Go.AE.T Try.prog 141 [(.agg [(.int .i64 aa),(.int .i64 ab),(.int .i64 aw),(.int .i64 ax),(.int .i64 au)]),(.int .i64 aU)] H v H':=
 Go.AE.T.of (Y:=tabs) (C:=mkOrc (aS.cs F)) (PN:=aS.pn) (LH:=aS.lh F) (F:=F) (TB:=aS.tb) (fn:=Try.f141) (code:=aS.code) mixed tabs_ok (mkOrc_ok (aS.cs_ok F)) Try.func141 (by kernel_rfl) (by kernel_rfl) aS.ok (Nat.le_of_ble_eq_true (by kernel_rfl)) (aS.loops F) (Eq.trans (aS.eqX F aa ab aw ax au aU H) h)
theorem aS.mk_T {F:Nat} {args:List AV} {H:Hp} {v:AV} {H':Hp} (h:aS.mk (aS.tw F) args H = some (v,H')):Go.AE.T Try.prog 141 args H v H':=by
 unfold aS.mk at h
 split at h
 ·exact aS.T h
 ·cases h
noncomputable def ak.l3927 (F:Nat) (aK:Int→Int→Int→Int→Int→Int→Hp→OA) (bD:Int→Int→Int→Hp→OA) (aL:Int→Int→Int→Int→Int→Int→Hp→OA) (C61_:Nat→Nat→Int→Sl→Sl→Int→Hp→OA):Nat→Nat→Nat→Int→Sl→Sl→Int→Nat→Nat→Int→Hp→OA
 | 0,_,_,_,_,_,_,_,_,_,_=>none
 | rx + 1,de,es,cq,et,eF,bY,cv,dx,cH,H126=>(bif (decide (cH < 4)) then ((Hp.ldI H126 .i64 cv dx).bind fun n151=>(Hp.ldI H126 .i64 cv (dx + 1)).bind fun n152=>(Hp.ldI H126 .i64 cv (dx + 2)).bind fun n153=>(Hp.ldI H126 .i64 cv (dx + 3)).bind fun n154=>(Hp.ldI H126 .i64 cv (dx + 4)).bind fun n155=>(aK n151 n152 n153 n154 n155 cH H126).bind fun r156=>((r156.1).asI .i64).bind fun n157=>(bD n157 0 (IntKind.i64.wrap (cq - 1)) r156.2).bind fun r158=>((r158.1).asB).bind fun b159=>(bif (!b159) then (some ((.bool false),r158.2)) else ((Hp.ldI r158.2 .i64 cv dx).bind fun n160=>(Hp.ldI r158.2 .i64 cv (dx + 1)).bind fun n161=>(Hp.ldI r158.2 .i64 cv (dx + 2)).bind fun n162=>(Hp.ldI r158.2 .i64 cv (dx + 3)).bind fun n163=>(Hp.ldI r158.2 .i64 cv (dx + 4)).bind fun n164=>(aL n160 n161 n162 n163 n164 cH r158.2).bind fun r165=>((r165.1).asB).bind fun b166=>(bif b166 then ((Sl.idx et n157 1).bind fun p167=>(Hp.ldB r165.2 p167.1 p167.2).bind fun b168=>(bif b168 then (some ((.bool false),r165.2)) else ((Sl.idx et n157 1).bind fun p169=>(Hp.st r165.2 p169.1 p169.2 (.bool true)).bind fun H170=>ak.l3927 F aK bD aL C61_ rx de es cq et eF bY cv dx (IntKind.i64.wrap (cH + 1)) H170))) else ((Sl.idx eF n157 1).bind fun p171=>(Hp.ldB r165.2 p171.1 p171.2).bind fun b172=>(bif b172 then (some ((.bool false),r165.2)) else ((Sl.idx eF n157 1).bind fun p173=>(Hp.st r165.2 p173.1 p173.2 (.bool true)).bind fun H174=>ak.l3927 F aK bD aL C61_ rx de es cq et eF bY cv dx (IntKind.i64.wrap (cH + 1)) H174))))))) else (C61_ de es cq et eF (IntKind.i64.wrap (bY + 1)) H126))
termination_by structural n=>n
noncomputable def ak.l61 (F:Nat) (aK:Int→Int→Int→Int→Int→Int→Hp→OA) (bD:Int→Int→Int→Hp→OA) (aL:Int→Int→Int→Int→Int→Int→Hp→OA) :Nat→Nat→Nat→Int→Sl→Sl→Int→Hp→OA
 | 0,_,_,_,_,_,_,_=>none
 | bj + 1,bO,cc,bW,cw,bU,df,H16=>(Hp.ldSl H16 bO cc).bind fun s96=>(bif (decide (df < (s96.n:Int))) then ((Hp.ldSl H16 bO cc).bind fun s97=>(Sl.idx s97 df 5).bind fun p98=>(Hp.ldI H16 .i64 p98.1 p98.2).bind fun n99=>(Hp.ldI H16 .i64 p98.1 (p98.2 + 1)).bind fun n100=>(Hp.ldI H16 .i64 p98.1 (p98.2 + 2)).bind fun n101=>(Hp.ldI H16 .i64 p98.1 (p98.2 + 3)).bind fun n102=>(Hp.ldI H16 .i64 p98.1 (p98.2 + 4)).bind fun n103=>(Hp.new H16 [.int .i64 0,.int .i64 0,.int .i64 0,.int .i64 0,.int .i64 0]).bind fun H104=>(Hp.st H104 H16.length 0 (.int .i64 n99)).bind fun H105=>(Hp.st H105 H16.length (0 + 1) (.int .i64 n100)).bind fun H106=>(Hp.st H106 H16.length (0 + 1 + 1) (.int .i64 n101)).bind fun H107=>(Hp.st H107 H16.length (0 + 1 + 1 + 1) (.int .i64 n102)).bind fun H108=>(Hp.st H108 H16.length (0 + 1 + 1 + 1 + 1) (.int .i64 n103)).bind fun H109=>(Hp.ldI H109 .i64 H16.length 4).bind fun n110=>(bif (n110 != 1) then ((Hp.ldI H109 .i64 H16.length 4).bind fun n111=>(bif (n111 != (-1)) then (some ((.bool false),H109)) else (ak.l3927 F aK bD aL (ak.l61 F aK bD aL bj) F bO cc bW cw bU df H16.length 0 0 H109))) else (ak.l3927 F aK bD aL (ak.l61 F aK bD aL bj) F bO cc bW cw bU df H16.length 0 0 H109))) else (some ((.bool true),H16)))
termination_by structural n=>n
noncomputable def ak.twX (F:Nat) (aK:Int→Int→Int→Int→Int→Int→Hp→OA) (bD:Int→Int→Int→Hp→OA) (aL:Int→Int→Int→Int→Int→Int→Hp→OA) (aa:Sl) (ab:Int) (H:Hp):OA:=(Hp.new H [(.sl aa),(.int .i64 ab)]).bind fun H3=>(Hp.ldSl H3 H.length 0).bind fun s4=>(Hp.mk H3 [.bool false] 1 (IntKind.i64.wrap (2 * (s4.n:Int))) (IntKind.i64.wrap (2 * (s4.n:Int)))).bind fun m5=>(Hp.mk m5.2 [.bool false] 1 (IntKind.i64.wrap (2 * (s4.n:Int))) (IntKind.i64.wrap (2 * (s4.n:Int)))).bind fun m6=>ak.l61 F aK bD aL F H.length 0 (IntKind.i64.wrap (2 * (s4.n:Int))) m5.1 m6.1 0 m6.2
noncomputable def ak.tw (F:Nat) (aa:Sl) (ab:Int) (H:Hp):OA:=ak.twX F (aR.tw F) (aY.tw F) (aS.tw F) aa ab H
noncomputable def ak.code:Go.Code:=(Try.f104.body).getD .skip
noncomputable def ak.lh61 (F:Nat) (aK:Int→Int→Int→Int→Int→Int→Hp→OA) (bD:Int→Int→Int→Hp→OA) (aL:Int→Int→Int→Int→Int→Int→Hp→OA) (ks:List Nat) (n:Nat) (tm:Tm) (H:Hp):OA:=match ks,tm 1,tm 3,tm 4,tm 5,tm 6 with
 | [],(.ptr bO cc),(.int .i64 bW),(.sl cw),(.sl bU),(.int .i64 df)=>ak.l61 F aK bD aL n bO cc bW cw bU df H
 | _,_,_,_,_,_=>none
theorem ak.lh61_inv {F:Nat} {aK:Int→Int→Int→Int→Int→Int→Hp→OA} {bD:Int→Int→Int→Hp→OA} {aL:Int→Int→Int→Int→Int→Int→Hp→OA} {ks:List Nat} {n:Nat} {tm:Tm} {H:Hp} {r:AV×Hp} (h:ak.lh61 F aK bD aL ks n tm H = some r):∃ bO:Nat,∃ cc:Nat,∃ bW:Int,∃ cw:Sl,∃ bU:Sl,∃ df:Int,ks = []∧tm 1 = (.ptr bO cc)∧tm 3 = (.int .i64 bW)∧tm 4 = (.sl cw)∧tm 5 = (.sl bU)∧tm 6 = (.int .i64 df)∧ak.l61 F aK bD aL n bO cc bW cw bU df H = some r:=by
 unfold ak.lh61 at h
 split at h
 ·exact ⟨_,_,_,_,_,_,rfl,by assumption,by assumption,by assumption,by assumption,by assumption,h⟩
 ·cases h
noncomputable def ak.lh3927 (F:Nat) (aK:Int→Int→Int→Int→Int→Int→Hp→OA) (bD:Int→Int→Int→Hp→OA) (aL:Int→Int→Int→Int→Int→Int→Hp→OA) (ks:List Nat) (n:Nat) (tm:Tm) (H:Hp):OA:=match ks,tm 1,tm 3,tm 4,tm 5,tm 6,tm 7,tm 8 with
 | [bj],(.ptr de es),(.int .i64 cq),(.sl et),(.sl eF),(.int .i64 bY),(.ptr cv dx),(.int .i64 cH)=>ak.l3927 F aK bD aL (ak.l61 F aK bD aL bj) n de es cq et eF bY cv dx cH H
 | _,_,_,_,_,_,_,_=>none
theorem ak.lh3927_inv {F:Nat} {aK:Int→Int→Int→Int→Int→Int→Hp→OA} {bD:Int→Int→Int→Hp→OA} {aL:Int→Int→Int→Int→Int→Int→Hp→OA} {ks:List Nat} {n:Nat} {tm:Tm} {H:Hp} {r:AV×Hp} (h:ak.lh3927 F aK bD aL ks n tm H = some r):∃ bj:Nat,∃ de:Nat,∃ es:Nat,∃ cq:Int,∃ et:Sl,∃ eF:Sl,∃ bY:Int,∃ cv:Nat,∃ dx:Nat,∃ cH:Int,ks = [bj]∧tm 1 = (.ptr de es)∧tm 3 = (.int .i64 cq)∧tm 4 = (.sl et)∧tm 5 = (.sl eF)∧tm 6 = (.int .i64 bY)∧tm 7 = (.ptr cv dx)∧tm 8 = (.int .i64 cH)∧ak.l3927 F aK bD aL (ak.l61 F aK bD aL bj) n de es cq et eF bY cv dx cH H = some r:=by
 unfold ak.lh3927 at h
 split at h
 ·exact ⟨_,_,_,_,_,_,_,_,_,_,rfl,by assumption,by assumption,by assumption,by assumption,by assumption,by assumption,by assumption,h⟩
 ·cases h
noncomputable def ak.lh (F:Nat) (aK:Int→Int→Int→Int→Int→Int→Hp→OA) (bD:Int→Int→Int→Hp→OA) (aL:Int→Int→Int→Int→Int→Int→Hp→OA) (p:Nat) (ks:List Nat) (n:Nat) (tm:Tm) (H:Hp):OA:=bif p.beq 3927 then ak.lh3927 F aK bD aL ks n tm H else (bif p.beq 61 then ak.lh61 F aK bD aL ks n tm H else (none))
def ak.pn:Nat→List Nat:=fun i=>(([(2,[])]:List (Nat×List Nat)).lookup i).getD []
def ak.tb:Nat→List (List Nat):=fun i=>(([(2,[[],[0],[],[2],[0,1],[0,1,2,3,4]])]:List (Nat×List (List Nat))).lookup i).getD []
noncomputable def ak.mk (g:Sl→Int→Hp→OA) (args:List AV) (H:Hp):OA:=match args with
 | [(.agg [(.sl aa),(.int .i64 ab)])]=>g aa ab H
 | _=>none
noncomputable def ak.cs (F:Nat) (aK:Int→Int→Int→Int→Int→Int→Hp→OA) (bD:Int→Int→Int→Hp→OA) (aL:Int→Int→Int→Int→Int→Int→Hp→OA):List (FuncId×(List AV→Hp→OA)):=[(140,aR.mk aK),(65,aY.mk bD),(141,aS.mk aL)]
theorem ak.loops (F:Nat) (aK:Int→Int→Int→Int→Int→Int→Hp→OA) (bD:Int→Int→Int→Hp→OA) (aL:Int→Int→Int→Int→Int→Int→Hp→OA):LoopsOk tabs (mkOrc (ak.cs F aK bD aL)) ak.pn (ak.lh F aK bD aL) F [] 1 ak.code (fun tm H=>aresults tabs.ty H tm Try.f104.results.toList fun v=>some (v,H)) (fun _ _ _=>none) (fun tm H=>aresults tabs.ty H tm Try.f104.results.toList fun v=>some (v,H)):=by
 refine LoopsOk.seq ?_ ?_
 ·exact loops_none (by kernel_rfl)
 ·refine LoopsOk.seq ?_ ?_
  ·exact loops_none (by kernel_rfl)
  ·refine LoopsOk.seq ?_ ?_
   ·exact loops_none (by kernel_rfl)
   ·refine LoopsOk.seq ?_ ?_
    ·refine LoopsOk.seq ?_ ?_
     ·exact loops_none (by kernel_rfl)
     ·refine LoopsOk.block ?_
      refine LoopsOk.loop (fun tm H=>?_) (fun k61 tm H r h0=>?_) (fun k61=>?_)
      ·refine none_of fun r h0=>?_
       obtain ⟨bO,cc,bW,cw,bU,df,hks,e1,e3,e4,e5,e6,h⟩:=ak.lh61_inv (show ak.lh61 F aK bD aL [] 0 tm H = some r from h0)
       cases h
      ·obtain ⟨bO,cc,bW,cw,bU,df,hks,e1,e3,e4,e5,e6,h⟩:=ak.lh61_inv (show ak.lh61 F aK bD aL [] (k61 + 1) tm H = some r from h0)
       have q0:(Tm.put tm 1 (.ptr bO cc)) = tm:=by exact Tm.put_same e1
       have q1:(Tm.put (Tm.put tm 1 (.ptr bO cc)) 3 (.int .i64 bW)) = tm:=by rw [q0]; exact Tm.put_same e3
       have q2:(Tm.put (Tm.put (Tm.put tm 1 (.ptr bO cc)) 3 (.int .i64 bW)) 4 (.sl cw)) = tm:=by rw [q1]; exact Tm.put_same e4
       have q3:(Tm.put (Tm.put (Tm.put (Tm.put tm 1 (.ptr bO cc)) 3 (.int .i64 bW)) 4 (.sl cw)) 5 (.sl bU)) = tm:=by rw [q2]; exact Tm.put_same e5
       have q4:(Tm.put (Tm.put (Tm.put (Tm.put (Tm.put tm 1 (.ptr bO cc)) 3 (.int .i64 bW)) 4 (.sl cw)) 5 (.sl bU)) 6 (.int .i64 df)) = tm:=by rw [q3]; exact Tm.put_same e6
       rw [← q4]
       exact Eq.trans (by kernel_rfl) h
      ·refine LoopsOk.seq ?_ ?_
       ·exact loops_none (by kernel_rfl)
       ·refine LoopsOk.seq ?_ ?_
        ·refine LoopsOk.block ?_
         refine LoopsOk.seq ?_ ?_
         ·exact loops_none (by kernel_rfl)
         ·refine LoopsOk.seq ?_ ?_
          ·exact loops_none (by kernel_rfl)
          ·refine LoopsOk.seq ?_ ?_
           ·exact loops_none (by kernel_rfl)
           ·refine LoopsOk.block ?_
            refine LoopsOk.loop (fun tm H=>?_) (fun k3927 tm H r h0=>?_) (fun k3927=>?_)
            ·refine none_of fun r h0=>?_
             obtain ⟨bj,de,es,cq,et,eF,bY,cv,dx,cH,hks,e1,e3,e4,e5,e6,e7,e8,h⟩:=ak.lh3927_inv (show ak.lh3927 F aK bD aL [k61] 0 tm H = some r from h0)
             cases h
            ·obtain ⟨bj,de,es,cq,et,eF,bY,cv,dx,cH,hks,e1,e3,e4,e5,e6,e7,e8,h⟩:=ak.lh3927_inv (show ak.lh3927 F aK bD aL [k61] (k3927 + 1) tm H = some r from h0)
             obtain rfl:bj = k61:=by simpa [eq_comm] using hks
             have q0:(Tm.put tm 1 (.ptr de es)) = tm:=by exact Tm.put_same e1
             have q1:(Tm.put (Tm.put tm 1 (.ptr de es)) 3 (.int .i64 cq)) = tm:=by rw [q0]; exact Tm.put_same e3
             have q2:(Tm.put (Tm.put (Tm.put tm 1 (.ptr de es)) 3 (.int .i64 cq)) 4 (.sl et)) = tm:=by rw [q1]; exact Tm.put_same e4
             have q3:(Tm.put (Tm.put (Tm.put (Tm.put tm 1 (.ptr de es)) 3 (.int .i64 cq)) 4 (.sl et)) 5 (.sl eF)) = tm:=by rw [q2]; exact Tm.put_same e5
             have q4:(Tm.put (Tm.put (Tm.put (Tm.put (Tm.put tm 1 (.ptr de es)) 3 (.int .i64 cq)) 4 (.sl et)) 5 (.sl eF)) 6 (.int .i64 bY)) = tm:=by rw [q3]; exact Tm.put_same e6
             have q5:(Tm.put (Tm.put (Tm.put (Tm.put (Tm.put (Tm.put tm 1 (.ptr de es)) 3 (.int .i64 cq)) 4 (.sl et)) 5 (.sl eF)) 6 (.int .i64 bY)) 7 (.ptr cv dx)) = tm:=by rw [q4]; exact Tm.put_same e7
             have q6:(Tm.put (Tm.put (Tm.put (Tm.put (Tm.put (Tm.put (Tm.put tm 1 (.ptr de es)) 3 (.int .i64 cq)) 4 (.sl et)) 5 (.sl eF)) 6 (.int .i64 bY)) 7 (.ptr cv dx)) 8 (.int .i64 cH)) = tm:=by rw [q5]; exact Tm.put_same e8
             rw [← q6]
             exact Eq.trans (by kernel_rfl) h
            ·exact loops_none (by kernel_rfl)
        ·exact loops_none (by kernel_rfl)
    ·exact loops_none (by kernel_rfl)
theorem ak.eqX (F:Nat) (aK:Int→Int→Int→Int→Int→Int→Hp→OA) (bD:Int→Int→Int→Hp→OA) (aL:Int→Int→Int→Int→Int→Int→Hp→OA) (aa:Sl) (ab:Int) (H:Hp):aCode tabs (mkOrc (ak.cs F aK bD aL)) ak.pn (ak.lh F aK bD aL) F [] 1 ak.code (argTm [(.agg [(.sl aa),(.int .i64 ab)])]) H (fun tm H=>aresults tabs.ty H tm Try.f104.results.toList fun v=>some (v,H)) (fun _ _ _=>none) (fun tm H=>aresults tabs.ty H tm Try.f104.results.toList fun v=>some (v,H)) = ak.twX F aK bD aL aa ab H:=by kernel_rfl
theorem ak.cs_ok (F:Nat):∀ p ∈ ak.cs F (aR.tw F) (aY.tw F) (aS.tw F),∀ args H v H',p.2 args H = some (v,H')→Go.AE.T Try.prog p.1 args H v H':=by
 intro p hp
 simp only [ak.cs,List.mem_cons,List.not_mem_nil,or_false] at hp
 rcases hp with rfl | rfl | rfl
 ·exact fun args H v H' h=>aR.mk_T h
 ·exact fun args H v H' h=>aY.mk_T h
 ·exact fun args H v H' h=>aS.mk_T h
theorem ak.ok:codeOk ak.pn Try.f104.ntmps ak.tb ak.code = true:=by kernel_rfl
theorem ak.T {F:Nat} {aa:Sl} {ab:Int} {H:Hp} {v:AV} {H':Hp} (h:ak.tw F aa ab H = some (v,H')):Go.AE.T Try.prog 104 [(.agg [(.sl aa),(.int .i64 ab)])] H v H':=
 Go.AE.T.of (Y:=tabs) (C:=mkOrc (ak.cs F (aR.tw F) (aY.tw F) (aS.tw F))) (PN:=ak.pn) (LH:=ak.lh F (aR.tw F) (aY.tw F) (aS.tw F)) (F:=F) (TB:=ak.tb) (fn:=Try.f104) (code:=ak.code) mixed tabs_ok (mkOrc_ok (ak.cs_ok F)) Try.func104 (by kernel_rfl) (by kernel_rfl) ak.ok (Nat.le_of_ble_eq_true (by kernel_rfl)) (ak.loops F (aR.tw F) (aY.tw F) (aS.tw F)) (Eq.trans (ak.eqX F (aR.tw F) (aY.tw F) (aS.tw F) aa ab H) h)
theorem ak.mk_T {F:Nat} {args:List AV} {H:Hp} {v:AV} {H':Hp} (h:ak.mk (ak.tw F) args H = some (v,H')):Go.AE.T Try.prog 104 args H v H':=by
 unfold ak.mk at h
 split at h
 ·exact ak.T h
 ·cases h
noncomputable def ah.j3 (F:Nat) (aK:Int→Int→Int→Int→Int→Int→Hp→OA) (aL:Int→Int→Int→Int→Int→Int→Hp→OA) (C13_:Int→Bool→Nat→Nat→Int→Hp→OA) (g_:Int) (iD:Bool) (iE:Nat) (ww:Nat) (iF:Int) (H147:Hp):OA:=C13_ g_ iD iE ww (IntKind.i64.wrap (iF + 1)) H147
noncomputable def ah.j4 (F:Nat) (aK:Int→Int→Int→Int→Int→Int→Hp→OA) (aL:Int→Int→Int→Int→Int→Int→Hp→OA) (C13_:Int→Bool→Nat→Nat→Int→Hp→OA) (iG:Int) (iH:Bool) (lU:Nat) (wx:Nat) (iI:Int) (H134:Hp):OA:=ah.j3 F aK aL C13_ iG iH lU wx iI H134
noncomputable def ah.l213 (F:Nat) (aK:Int→Int→Int→Int→Int→Int→Hp→OA) (aL:Int→Int→Int→Int→Int→Int→Hp→OA) (C13_:Int→Bool→Nat→Nat→Int→Hp→OA):Nat→Int→Bool→Nat→Nat→Int→Int→Hp→OA
 | 0,_,_,_,_,_,_,_=>none
 | ry + 1,cz,cE,dC,eO,cr,cA,H103=>(bif (decide (cA < 4)) then ((Hp.ldSl H103 dC eO).bind fun s148=>(Sl.idx s148 cr 5).bind fun p149=>(Hp.ldI H103 .i64 p149.1 p149.2).bind fun n150=>(Hp.ldI H103 .i64 p149.1 (p149.2 + 1)).bind fun n151=>(Hp.ldI H103 .i64 p149.1 (p149.2 + 2)).bind fun n152=>(Hp.ldI H103 .i64 p149.1 (p149.2 + 3)).bind fun n153=>(Hp.ldI H103 .i64 p149.1 (p149.2 + 4)).bind fun n154=>(aK n150 n151 n152 n153 n154 cA H103).bind fun r155=>((r155.1).asI .i64).bind fun n156=>(bif (n156 == cz) then ((Hp.ldSl r155.2 dC eO).bind fun s157=>(Sl.idx s157 cr 5).bind fun p158=>(Hp.ldI r155.2 .i64 p158.1 p158.2).bind fun n159=>(Hp.ldI r155.2 .i64 p158.1 (p158.2 + 1)).bind fun n160=>(Hp.ldI r155.2 .i64 p158.1 (p158.2 + 2)).bind fun n161=>(Hp.ldI r155.2 .i64 p158.1 (p158.2 + 3)).bind fun n162=>(Hp.ldI r155.2 .i64 p158.1 (p158.2 + 4)).bind fun n163=>(aL n159 n160 n161 n162 n163 cA r155.2).bind fun r164=>((r164.1).asB).bind fun b165=>(bif (b165 == cE) then (some ((.tup [(.int .i64 cr),(.int .i64 cA)]),r164.2)) else (ah.l213 F aK aL C13_ ry cz cE dC eO cr (IntKind.i64.wrap (cA + 1)) r164.2))) else (ah.l213 F aK aL C13_ ry cz cE dC eO cr (IntKind.i64.wrap (cA + 1)) r155.2))) else (ah.j4 F aK aL C13_ cz cE dC eO cr H103))
termination_by structural n=>n
noncomputable def ah.l13 (F:Nat) (aK:Int→Int→Int→Int→Int→Int→Hp→OA) (aL:Int→Int→Int→Int→Int→Int→Hp→OA) :Nat→Int→Bool→Nat→Nat→Int→Hp→OA
 | 0,_,_,_,_,_,_=>none
 | eu + 1,bG,ed,cf,b_,ee,H15=>(Hp.ldSl H15 cf b_).bind fun s91=>(bif (decide (ee < (s91.n:Int))) then (ah.l213 F aK aL (ah.l13 F aK aL eu) F bG ed cf b_ ee 0 H15) else (some ((.tup [(.int .i64 (-1)),(.int .i64 (-1))]),H15)))
termination_by structural n=>n
noncomputable def ah.twX (F:Nat) (aK:Int→Int→Int→Int→Int→Int→Hp→OA) (aL:Int→Int→Int→Int→Int→Int→Hp→OA) (aa:Sl) (ab:Int) (ar:Int) (ev:Bool) (H:Hp):OA:=(Hp.new H [(.sl aa),(.int .i64 ab)]).bind fun H5=>ah.l13 F aK aL F ar ev H.length 0 0 H5
noncomputable def ah.tw (F:Nat) (aa:Sl) (ab:Int) (ar:Int) (ev:Bool) (H:Hp):OA:=ah.twX F (aR.tw F) (aS.tw F) aa ab ar ev H
noncomputable def ah.code:Go.Code:=(Try.f152.body).getD .skip
noncomputable def ah.lh13 (F:Nat) (aK:Int→Int→Int→Int→Int→Int→Hp→OA) (aL:Int→Int→Int→Int→Int→Int→Hp→OA) (ks:List Nat) (n:Nat) (tm:Tm) (H:Hp):OA:=match ks,tm 1,tm 2,tm 3,tm 8 with
 | [],(.int .i64 bG),(.bool ed),(.ptr cf b_),(.int .i64 ee)=>ah.l13 F aK aL n bG ed cf b_ ee H
 | _,_,_,_,_=>none
theorem ah.lh13_inv {F:Nat} {aK:Int→Int→Int→Int→Int→Int→Hp→OA} {aL:Int→Int→Int→Int→Int→Int→Hp→OA} {ks:List Nat} {n:Nat} {tm:Tm} {H:Hp} {r:AV×Hp} (h:ah.lh13 F aK aL ks n tm H = some r):∃ bG:Int,∃ ed:Bool,∃ cf:Nat,∃ b_:Nat,∃ ee:Int,ks = []∧tm 1 = (.int .i64 bG)∧tm 2 = (.bool ed)∧tm 3 = (.ptr cf b_)∧tm 8 = (.int .i64 ee)∧ah.l13 F aK aL n bG ed cf b_ ee H = some r:=by
 unfold ah.lh13 at h
 split at h
 ·exact ⟨_,_,_,_,_,rfl,by assumption,by assumption,by assumption,by assumption,h⟩
 ·cases h
noncomputable def ah.lh213 (F:Nat) (aK:Int→Int→Int→Int→Int→Int→Hp→OA) (aL:Int→Int→Int→Int→Int→Int→Hp→OA) (ks:List Nat) (n:Nat) (tm:Tm) (H:Hp):OA:=match ks,tm 1,tm 2,tm 3,tm 8,tm 9 with
 | [eu],(.int .i64 cz),(.bool cE),(.ptr dC eO),(.int .i64 cr),(.int .i64 cA)=>ah.l213 F aK aL (ah.l13 F aK aL eu) n cz cE dC eO cr cA H
 | _,_,_,_,_,_=>none
theorem ah.lh213_inv {F:Nat} {aK:Int→Int→Int→Int→Int→Int→Hp→OA} {aL:Int→Int→Int→Int→Int→Int→Hp→OA} {ks:List Nat} {n:Nat} {tm:Tm} {H:Hp} {r:AV×Hp} (h:ah.lh213 F aK aL ks n tm H = some r):∃ eu:Nat,∃ cz:Int,∃ cE:Bool,∃ dC:Nat,∃ eO:Nat,∃ cr:Int,∃ cA:Int,ks = [eu]∧tm 1 = (.int .i64 cz)∧tm 2 = (.bool cE)∧tm 3 = (.ptr dC eO)∧tm 8 = (.int .i64 cr)∧tm 9 = (.int .i64 cA)∧ah.l213 F aK aL (ah.l13 F aK aL eu) n cz cE dC eO cr cA H = some r:=by
 unfold ah.lh213 at h
 split at h
 ·exact ⟨_,_,_,_,_,_,_,rfl,by assumption,by assumption,by assumption,by assumption,by assumption,h⟩
 ·cases h
noncomputable def ah.lh (F:Nat) (aK:Int→Int→Int→Int→Int→Int→Hp→OA) (aL:Int→Int→Int→Int→Int→Int→Hp→OA) (p:Nat) (ks:List Nat) (n:Nat) (tm:Tm) (H:Hp):OA:=bif p.beq 213 then ah.lh213 F aK aL ks n tm H else (bif p.beq 13 then ah.lh13 F aK aL ks n tm H else (none))
def ah.pn:Nat→List Nat:=fun i=>(([]:List (Nat×List Nat)).lookup i).getD []
def ah.tb:Nat→List (List Nat):=fun i=>(([]:List (Nat×List (List Nat))).lookup i).getD []
noncomputable def ah.mk (g:Sl→Int→Int→Bool→Hp→OA) (args:List AV) (H:Hp):OA:=match args with
 | [(.agg [(.sl aa),(.int .i64 ab)]),(.int .i64 ar),(.bool ev)]=>g aa ab ar ev H
 | _=>none
noncomputable def ah.cs (F:Nat) (aK:Int→Int→Int→Int→Int→Int→Hp→OA) (aL:Int→Int→Int→Int→Int→Int→Hp→OA):List (FuncId×(List AV→Hp→OA)):=[(140,aR.mk aK),(141,aS.mk aL)]
theorem ah.loops (F:Nat) (aK:Int→Int→Int→Int→Int→Int→Hp→OA) (aL:Int→Int→Int→Int→Int→Int→Hp→OA):LoopsOk tabs (mkOrc (ah.cs F aK aL)) ah.pn (ah.lh F aK aL) F [] 1 ah.code (fun tm H=>aresults tabs.ty H tm Try.f152.results.toList fun v=>some (v,H)) (fun _ _ _=>none) (fun tm H=>aresults tabs.ty H tm Try.f152.results.toList fun v=>some (v,H)):=by
 refine LoopsOk.seq ?_ ?_
 ·exact loops_none (by kernel_rfl)
 ·refine LoopsOk.seq ?_ ?_
  ·refine LoopsOk.seq ?_ ?_
   ·exact loops_none (by kernel_rfl)
   ·refine LoopsOk.block ?_
    refine LoopsOk.loop (fun tm H=>?_) (fun k13 tm H r h0=>?_) (fun k13=>?_)
    ·refine none_of fun r h0=>?_
     obtain ⟨bG,ed,cf,b_,ee,hks,e1,e2,e3,e8,h⟩:=ah.lh13_inv (show ah.lh13 F aK aL [] 0 tm H = some r from h0)
     cases h
    ·obtain ⟨bG,ed,cf,b_,ee,hks,e1,e2,e3,e8,h⟩:=ah.lh13_inv (show ah.lh13 F aK aL [] (k13 + 1) tm H = some r from h0)
     have q0:(Tm.put tm 1 (.int .i64 bG)) = tm:=by exact Tm.put_same e1
     have q1:(Tm.put (Tm.put tm 1 (.int .i64 bG)) 2 (.bool ed)) = tm:=by rw [q0]; exact Tm.put_same e2
     have q2:(Tm.put (Tm.put (Tm.put tm 1 (.int .i64 bG)) 2 (.bool ed)) 3 (.ptr cf b_)) = tm:=by rw [q1]; exact Tm.put_same e3
     have q3:(Tm.put (Tm.put (Tm.put (Tm.put tm 1 (.int .i64 bG)) 2 (.bool ed)) 3 (.ptr cf b_)) 8 (.int .i64 ee)) = tm:=by rw [q2]; exact Tm.put_same e8
     rw [← q3]
     exact Eq.trans (by kernel_rfl) h
    ·refine LoopsOk.seq ?_ ?_
     ·exact loops_none (by kernel_rfl)
     ·refine LoopsOk.seq ?_ ?_
      ·refine LoopsOk.block ?_
       refine LoopsOk.seq ?_ ?_
       ·exact loops_none (by kernel_rfl)
       ·refine LoopsOk.block ?_
        refine LoopsOk.loop (fun tm H=>?_) (fun k213 tm H r h0=>?_) (fun k213=>?_)
        ·refine none_of fun r h0=>?_
         obtain ⟨eu,cz,cE,dC,eO,cr,cA,hks,e1,e2,e3,e8,e9,h⟩:=ah.lh213_inv (show ah.lh213 F aK aL [k13] 0 tm H = some r from h0)
         cases h
        ·obtain ⟨eu,cz,cE,dC,eO,cr,cA,hks,e1,e2,e3,e8,e9,h⟩:=ah.lh213_inv (show ah.lh213 F aK aL [k13] (k213 + 1) tm H = some r from h0)
         obtain rfl:eu = k13:=by simpa [eq_comm] using hks
         have q0:(Tm.put tm 1 (.int .i64 cz)) = tm:=by exact Tm.put_same e1
         have q1:(Tm.put (Tm.put tm 1 (.int .i64 cz)) 2 (.bool cE)) = tm:=by rw [q0]; exact Tm.put_same e2
         have q2:(Tm.put (Tm.put (Tm.put tm 1 (.int .i64 cz)) 2 (.bool cE)) 3 (.ptr dC eO)) = tm:=by rw [q1]; exact Tm.put_same e3
         have q3:(Tm.put (Tm.put (Tm.put (Tm.put tm 1 (.int .i64 cz)) 2 (.bool cE)) 3 (.ptr dC eO)) 8 (.int .i64 cr)) = tm:=by rw [q2]; exact Tm.put_same e8
         have q4:(Tm.put (Tm.put (Tm.put (Tm.put (Tm.put tm 1 (.int .i64 cz)) 2 (.bool cE)) 3 (.ptr dC eO)) 8 (.int .i64 cr)) 9 (.int .i64 cA)) = tm:=by rw [q3]; exact Tm.put_same e9
         rw [← q4]
         exact Eq.trans (by kernel_rfl) h
        ·exact loops_none (by kernel_rfl)
      ·exact loops_none (by kernel_rfl)
  ·exact loops_none (by kernel_rfl)
theorem ah.eqX (F:Nat) (aK:Int→Int→Int→Int→Int→Int→Hp→OA) (aL:Int→Int→Int→Int→Int→Int→Hp→OA) (aa:Sl) (ab:Int) (ar:Int) (ev:Bool) (H:Hp):aCode tabs (mkOrc (ah.cs F aK aL)) ah.pn (ah.lh F aK aL) F [] 1 ah.code (argTm [(.agg [(.sl aa),(.int .i64 ab)]),(.int .i64 ar),(.bool ev)]) H (fun tm H=>aresults tabs.ty H tm Try.f152.results.toList fun v=>some (v,H)) (fun _ _ _=>none) (fun tm H=>aresults tabs.ty H tm Try.f152.results.toList fun v=>some (v,H)) = ah.twX F aK aL aa ab ar ev H:=by kernel_rfl
theorem ah.cs_ok (F:Nat):∀ p ∈ ah.cs F (aR.tw F) (aS.tw F),∀ args H v H',p.2 args H = some (v,H')→Go.AE.T Try.prog p.1 args H v H':=by
 intro p hp
 simp only [ah.cs,List.mem_cons,List.not_mem_nil,or_false] at hp
 rcases hp with rfl | rfl
 ·exact fun args H v H' h=>aR.mk_T h
 ·exact fun args H v H' h=>aS.mk_T h
theorem ah.ok:codeOk ah.pn Try.f152.ntmps ah.tb ah.code = true:=by kernel_rfl
theorem ah.T {F:Nat} {aa:Sl} {ab:Int} {ar:Int} {ev:Bool} {H:Hp} {v:AV} {H':Hp} (h:ah.tw F aa ab ar ev H = some (v,H')):Go.AE.T Try.prog 152 [(.agg [(.sl aa),(.int .i64 ab)]),(.int .i64 ar),(.bool ev)] H v H':=
 Go.AE.T.of (Y:=tabs) (C:=mkOrc (ah.cs F (aR.tw F) (aS.tw F))) (PN:=ah.pn) (LH:=ah.lh F (aR.tw F) (aS.tw F)) (F:=F) (TB:=ah.tb) (fn:=Try.f152) (code:=ah.code) mixed tabs_ok (mkOrc_ok (ah.cs_ok F)) Try.func152 (by kernel_rfl) (by kernel_rfl) ah.ok (Nat.le_of_ble_eq_true (by kernel_rfl)) (ah.loops F (aR.tw F) (aS.tw F)) (Eq.trans (ah.eqX F (aR.tw F) (aS.tw F) aa ab ar ev H) h)
theorem ah.mk_T {F:Nat} {args:List AV} {H:Hp} {v:AV} {H':Hp} (h:ah.mk (ah.tw F) args H = some (v,H')):Go.AE.T Try.prog 152 args H v H':=by
 unfold ah.mk at h
 split at h
 ·exact ah.T h
 ·cases h
noncomputable def bh.twX (F:Nat) (aK:Int→Int→Int→Int→Int→Int→Hp→OA) (aL:Int→Int→Int→Int→Int→Int→Hp→OA) (bf:Sl→Int→Int→Bool→Hp→OA) (aa:Sl) (ab:Int) (ar:Int) (H:Hp):OA:=(Hp.new H [(.sl aa),(.int .i64 ab)]).bind fun H4=>(Hp.ldSl H4 H.length 0).bind fun s5=>(Sl.idx s5 (IntKind.i64.wrap (Int.tdiv ar 4)) 5).bind fun p6=>(Hp.ldI H4 .i64 p6.1 p6.2).bind fun n7=>(Hp.ldI H4 .i64 p6.1 (p6.2 + 1)).bind fun n8=>(Hp.ldI H4 .i64 p6.1 (p6.2 + 2)).bind fun n9=>(Hp.ldI H4 .i64 p6.1 (p6.2 + 3)).bind fun n10=>(Hp.ldI H4 .i64 p6.1 (p6.2 + 4)).bind fun n11=>(Hp.new H4 [.int .i64 0,.int .i64 0,.int .i64 0,.int .i64 0,.int .i64 0]).bind fun H12=>(Hp.st H12 H4.length 0 (.int .i64 n7)).bind fun H13=>(Hp.st H13 H4.length (0 + 1) (.int .i64 n8)).bind fun H14=>(Hp.st H14 H4.length (0 + 1 + 1) (.int .i64 n9)).bind fun H15=>(Hp.st H15 H4.length (0 + 1 + 1 + 1) (.int .i64 n10)).bind fun H16=>(Hp.st H16 H4.length (0 + 1 + 1 + 1 + 1) (.int .i64 n11)).bind fun H17=>(Hp.ldSl H17 H.length 0).bind fun s18=>(Hp.ldI H17 .i64 H.length (0 + 1)).bind fun n19=>(Hp.ldI H17 .i64 H4.length 0).bind fun n20=>(Hp.ldI H17 .i64 H4.length (0 + 1)).bind fun n21=>(Hp.ldI H17 .i64 H4.length (0 + 2)).bind fun n22=>(Hp.ldI H17 .i64 H4.length (0 + 3)).bind fun n23=>(Hp.ldI H17 .i64 H4.length (0 + 4)).bind fun n24=>(aK n20 n21 n22 n23 n24 (Int.tmod (IntKind.i64.wrap ((Int.tmod ar 4) + 1)) 4) H17).bind fun r25=>((r25.1).asI .i64).bind fun n26=>(if Cons H17 r25.2 then ((Hp.ldI r25.2 .i64 H4.length 0).bind fun n27=>(Hp.ldI r25.2 .i64 H4.length (0 + 1)).bind fun n28=>(Hp.ldI r25.2 .i64 H4.length (0 + 2)).bind fun n29=>(Hp.ldI r25.2 .i64 H4.length (0 + 3)).bind fun n30=>(Hp.ldI r25.2 .i64 H4.length (0 + 4)).bind fun n31=>(aL n27 n28 n29 n30 n31 (Int.tmod (IntKind.i64.wrap ((Int.tmod ar 4) + 1)) 4) r25.2).bind fun r32=>((r32.1).asB).bind fun b33=>(if Cons r25.2 r32.2 then ((bf s18 n19 n26 (!b33) r32.2).bind fun r34=>((r34.1).asTup 2).bind fun l35=>(l35[0]?).bind fun v36=>((v36).asI .i64).bind fun n37=>(l35[1]?).bind fun v38=>((v38).asI .i64).bind fun n39=>some ((.int .i64 (IntKind.i64.wrap ((IntKind.i64.wrap (4 * n37)) + n39))),r34.2)) else none)) else none)
noncomputable def bh.tw (F:Nat) (aa:Sl) (ab:Int) (ar:Int) (H:Hp):OA:=bh.twX F (aR.tw F) (aS.tw F) (ah.tw F) aa ab ar H
noncomputable def bh.code:Go.Code:=(Try.f142.body).getD .skip
noncomputable def bh.lh (F:Nat) (aK:Int→Int→Int→Int→Int→Int→Hp→OA) (aL:Int→Int→Int→Int→Int→Int→Hp→OA) (bf:Sl→Int→Int→Bool→Hp→OA) (p:Nat) (ks:List Nat) (n:Nat) (tm:Tm) (H:Hp):OA:=none
def bh.pn:Nat→List Nat:=fun i=>(([(3,[8])]:List (Nat×List Nat)).lookup i).getD []
def bh.tb:Nat→List (List Nat):=fun i=>(([(3,[[],[],[],[1,2],[],[],[1,2,3,4,5],[1,2,3,4,5,6],[0,1,2,3,4,5,6,7],[0,1,2,3,4,5,6,7,8],[0,1,2,3,4,5,6,7,8,9],[0,1,2,3,4,5,6,7,8,9],[0,1,2,3,4,5,6,7,8,9,10],[0,1,2,3,4,5,6,7,8,9,10,11,12]])]:List (Nat×List (List Nat))).lookup i).getD []
noncomputable def bh.mk (g:Sl→Int→Int→Hp→OA) (args:List AV) (H:Hp):OA:=match args with
 | [(.agg [(.sl aa),(.int .i64 ab)]),(.int .i64 ar)]=>g aa ab ar H
 | _=>none
noncomputable def bh.cs (F:Nat) (aK:Int→Int→Int→Int→Int→Int→Hp→OA) (aL:Int→Int→Int→Int→Int→Int→Hp→OA) (bf:Sl→Int→Int→Bool→Hp→OA):List (FuncId×(List AV→Hp→OA)):=[(140,aR.mk aK),(141,aS.mk aL),(152,ah.mk bf)]
theorem bh.loops (F:Nat) (aK:Int→Int→Int→Int→Int→Int→Hp→OA) (aL:Int→Int→Int→Int→Int→Int→Hp→OA) (bf:Sl→Int→Int→Bool→Hp→OA):LoopsOk tabs (mkOrc (bh.cs F aK aL bf)) bh.pn (bh.lh F aK aL bf) F [] 1 bh.code (fun tm H=>aresults tabs.ty H tm Try.f142.results.toList fun v=>some (v,H)) (fun _ _ _=>none) (fun tm H=>aresults tabs.ty H tm Try.f142.results.toList fun v=>some (v,H)):=by
 exact loops_none (by kernel_rfl)
theorem bh.eqX (F:Nat) (aK:Int→Int→Int→Int→Int→Int→Hp→OA) (aL:Int→Int→Int→Int→Int→Int→Hp→OA) (bf:Sl→Int→Int→Bool→Hp→OA) (aa:Sl) (ab:Int) (ar:Int) (H:Hp):aCode tabs (mkOrc (bh.cs F aK aL bf)) bh.pn (bh.lh F aK aL bf) F [] 1 bh.code (argTm [(.agg [(.sl aa),(.int .i64 ab)]),(.int .i64 ar)]) H (fun tm H=>aresults tabs.ty H tm Try.f142.results.toList fun v=>some (v,H)) (fun _ _ _=>none) (fun tm H=>aresults tabs.ty H tm Try.f142.results.toList fun v=>some (v,H)) = bh.twX F aK aL bf aa ab ar H:=by kernel_rfl
theorem bh.cs_ok (F:Nat):∀ p ∈ bh.cs F (aR.tw F) (aS.tw F) (ah.tw F),∀ args H v H',p.2 args H = some (v,H')→Go.AE.T Try.prog p.1 args H v H':=by
 intro p hp
 simp only [bh.cs,List.mem_cons,List.not_mem_nil,or_false] at hp
 rcases hp with rfl | rfl | rfl
 ·exact fun args H v H' h=>aR.mk_T h
 ·exact fun args H v H' h=>aS.mk_T h
 ·exact fun args H v H' h=>ah.mk_T h
theorem bh.ok:codeOk bh.pn Try.f142.ntmps bh.tb bh.code = true:=by kernel_rfl
theorem bh.T {F:Nat} {aa:Sl} {ab:Int} {ar:Int} {H:Hp} {v:AV} {H':Hp} (h:bh.tw F aa ab ar H = some (v,H')):Go.AE.T Try.prog 142 [(.agg [(.sl aa),(.int .i64 ab)]),(.int .i64 ar)] H v H':=
 Go.AE.T.of (Y:=tabs) (C:=mkOrc (bh.cs F (aR.tw F) (aS.tw F) (ah.tw F))) (PN:=bh.pn) (LH:=bh.lh F (aR.tw F) (aS.tw F) (ah.tw F)) (F:=F) (TB:=bh.tb) (fn:=Try.f142) (code:=bh.code) mixed tabs_ok (mkOrc_ok (bh.cs_ok F)) Try.func142 (by kernel_rfl) (by kernel_rfl) bh.ok (Nat.le_of_ble_eq_true (by kernel_rfl)) (bh.loops F (aR.tw F) (aS.tw F) (ah.tw F)) (Eq.trans (bh.eqX F (aR.tw F) (aS.tw F) (ah.tw F) aa ab ar H) h)
theorem bh.mk_T {F:Nat} {args:List AV} {H:Hp} {v:AV} {H':Hp} (h:bh.mk (bh.tw F) args H = some (v,H')):Go.AE.T Try.prog 142 args H v H':=by
 unfold bh.mk at h
 split at h
 ·exact bh.T h
 ·cases h
noncomputable def aj.j4 (F:Nat) (bL:Sl→Int→Int→Hp→OA) (C61_:Nat→Nat→Sl→Sl→Int→Hp→OA) (lV:Nat) (wy:Nat) (wz:Sl) (wA:Sl) (iJ:Int) (H108:Hp):OA:=C61_ lV wy wz wA (IntKind.i64.wrap (iJ + 1)) H108
noncomputable def aj.j5 (F:Nat) (bL:Sl→Int→Int→Hp→OA) (C61_:Nat→Nat→Sl→Sl→Int→Hp→OA) (lW:Nat) (wB:Nat) (wC:Sl) (wD:Sl) (iK:Int) (H164:Hp):OA:=C61_ lW wB wC wD (IntKind.i64.wrap (iK + 1)) H164
noncomputable def aj.j6 (F:Nat) (bL:Sl→Int→Int→Hp→OA) (C61_:Nat→Nat→Sl→Sl→Int→Hp→OA) (lX:Nat) (g_:Nat) (iE:Sl) (wE:Sl) (iL:Int) (wF:Sl) (H147:Hp):OA:=(Hp.new H147 [(.sl wF)]).bind fun H148=>(Sl.row H148 (⟨some (H147.length,0),1,.ex 1⟩:Sl) 1).bind fun xs150=>(Hp.app H148 1 24 iE (⟨some (H147.length,0),1,.ex 1⟩:Sl).n xs150).bind fun a149=>aj.j5 F bL C61_ lX g_ a149.1 wE iL a149.2
noncomputable def aj.l7853 (F:Nat) (bL:Sl→Int→Int→Hp→OA) (C61_:Nat→Nat→Sl→Sl→Int→Hp→OA):Nat→Nat→Nat→Sl→Sl→Int→Sl→Int→Hp→OA
 | 0,_,_,_,_,_,_,_,_=>none
 | wG + 1,dg,ew,eX,eP,dD,bY,cI,H122=>(Sl.idx eP cI 1).bind fun p165=>(Hp.ldB H122 p165.1 p165.2).bind fun b166=>(bif (!b166) then ((Sl.idx eP cI 1).bind fun p167=>(Hp.st H122 p167.1 p167.2 (.bool true)).bind fun H168=>(Hp.new H168 [(.int .i64 cI)]).bind fun H169=>(Sl.row H169 (⟨some (H168.length,0),1,.ex 1⟩:Sl) 1).bind fun xs171=>(Hp.app H169 1 8 bY (⟨some (H168.length,0),1,.ex 1⟩:Sl).n xs171).bind fun a170=>(Hp.ldSl a170.2 dg ew).bind fun s172=>(Hp.ldI a170.2 .i64 dg (ew + 1)).bind fun n173=>(bL s172 n173 cI a170.2).bind fun r174=>((r174.1).asI .i64).bind fun n175=>aj.l7853 F bL C61_ wG dg ew eX eP dD a170.1 n175 r174.2) else (aj.j6 F bL C61_ dg ew eX eP dD bY H122))
termination_by structural n=>n
noncomputable def aj.l61 (F:Nat) (bL:Sl→Int→Int→Hp→OA) :Nat→Nat→Nat→Sl→Sl→Int→Hp→OA
 | 0,_,_,_,_,_,_=>none
 | bj + 1,bO,cc,bW,cw,bU,H15=>(bif (decide (bU < (cw.n:Int))) then ((Sl.idx cw bU 1).bind fun p96=>(Hp.ldB H15 p96.1 p96.2).bind fun b97=>(bif b97 then (aj.j4 F bL (aj.l61 F bL bj) bO cc bW cw bU H15) else ((Hp.new H15 []).bind fun H109=>aj.l7853 F bL (aj.l61 F bL bj) F bO cc bW cw bU (⟨some (H15.length,0),0,.ex 0⟩:Sl) bU H109))) else (some ((.sl bW),H15)))
termination_by structural n=>n
noncomputable def aj.twX (F:Nat) (bL:Sl→Int→Int→Hp→OA) (aa:Sl) (ab:Int) (H:Hp):OA:=(Hp.new H [(.sl aa),(.int .i64 ab)]).bind fun H3=>(Hp.new H3 []).bind fun H4=>(Hp.ldSl H4 H.length 0).bind fun s5=>(Hp.mk H4 [.bool false] 1 (IntKind.i64.wrap (4 * (s5.n:Int))) (IntKind.i64.wrap (4 * (s5.n:Int)))).bind fun m6=>aj.l61 F bL F H.length 0 (⟨some (H3.length,0),0,.ex 0⟩:Sl) m6.1 0 m6.2
noncomputable def aj.tw (F:Nat) (aa:Sl) (ab:Int) (H:Hp):OA:=aj.twX F (bh.tw F) aa ab H
noncomputable def aj.code:Go.Code:=(Try.f105.body).getD .skip
noncomputable def aj.lh61 (F:Nat) (bL:Sl→Int→Int→Hp→OA) (ks:List Nat) (n:Nat) (tm:Tm) (H:Hp):OA:=match ks,tm 1,tm 3,tm 4,tm 5 with
 | [],(.ptr bO cc),(.sl bW),(.sl cw),(.int .i64 bU)=>aj.l61 F bL n bO cc bW cw bU H
 | _,_,_,_,_=>none
theorem aj.lh61_inv {F:Nat} {bL:Sl→Int→Int→Hp→OA} {ks:List Nat} {n:Nat} {tm:Tm} {H:Hp} {r:AV×Hp} (h:aj.lh61 F bL ks n tm H = some r):∃ bO:Nat,∃ cc:Nat,∃ bW:Sl,∃ cw:Sl,∃ bU:Int,ks = []∧tm 1 = (.ptr bO cc)∧tm 3 = (.sl bW)∧tm 4 = (.sl cw)∧tm 5 = (.int .i64 bU)∧aj.l61 F bL n bO cc bW cw bU H = some r:=by
 unfold aj.lh61 at h
 split at h
 ·exact ⟨_,_,_,_,_,rfl,by assumption,by assumption,by assumption,by assumption,h⟩
 ·cases h
noncomputable def aj.lh7853 (F:Nat) (bL:Sl→Int→Int→Hp→OA) (ks:List Nat) (n:Nat) (tm:Tm) (H:Hp):OA:=match ks,tm 1,tm 3,tm 4,tm 5,tm 6,tm 7 with
 | [bj],(.ptr dg ew),(.sl eX),(.sl eP),(.int .i64 dD),(.sl bY),(.int .i64 cI)=>aj.l7853 F bL (aj.l61 F bL bj) n dg ew eX eP dD bY cI H
 | _,_,_,_,_,_,_=>none
theorem aj.lh7853_inv {F:Nat} {bL:Sl→Int→Int→Hp→OA} {ks:List Nat} {n:Nat} {tm:Tm} {H:Hp} {r:AV×Hp} (h:aj.lh7853 F bL ks n tm H = some r):∃ bj:Nat,∃ dg:Nat,∃ ew:Nat,∃ eX:Sl,∃ eP:Sl,∃ dD:Int,∃ bY:Sl,∃ cI:Int,ks = [bj]∧tm 1 = (.ptr dg ew)∧tm 3 = (.sl eX)∧tm 4 = (.sl eP)∧tm 5 = (.int .i64 dD)∧tm 6 = (.sl bY)∧tm 7 = (.int .i64 cI)∧aj.l7853 F bL (aj.l61 F bL bj) n dg ew eX eP dD bY cI H = some r:=by
 unfold aj.lh7853 at h
 split at h
 ·exact ⟨_,_,_,_,_,_,_,_,rfl,by assumption,by assumption,by assumption,by assumption,by assumption,by assumption,h⟩
 ·cases h
noncomputable def aj.lh (F:Nat) (bL:Sl→Int→Int→Hp→OA) (p:Nat) (ks:List Nat) (n:Nat) (tm:Tm) (H:Hp):OA:=bif p.beq 7853 then aj.lh7853 F bL ks n tm H else (bif p.beq 61 then aj.lh61 F bL ks n tm H else (none))
def aj.pn:Nat→List Nat:=fun i=>(([]:List (Nat×List Nat)).lookup i).getD []
def aj.tb:Nat→List (List Nat):=fun i=>(([]:List (Nat×List (List Nat))).lookup i).getD []
noncomputable def aj.mk (g:Sl→Int→Hp→OA) (args:List AV) (H:Hp):OA:=match args with
 | [(.agg [(.sl aa),(.int .i64 ab)])]=>g aa ab H
 | _=>none
noncomputable def aj.cs (F:Nat) (bL:Sl→Int→Int→Hp→OA):List (FuncId×(List AV→Hp→OA)):=[(142,bh.mk bL)]
theorem aj.loops (F:Nat) (bL:Sl→Int→Int→Hp→OA):LoopsOk tabs (mkOrc (aj.cs F bL)) aj.pn (aj.lh F bL) F [] 1 aj.code (fun tm H=>aresults tabs.ty H tm Try.f105.results.toList fun v=>some (v,H)) (fun _ _ _=>none) (fun tm H=>aresults tabs.ty H tm Try.f105.results.toList fun v=>some (v,H)):=by
 refine LoopsOk.seq ?_ ?_
 ·exact loops_none (by kernel_rfl)
 ·refine LoopsOk.seq ?_ ?_
  ·exact loops_none (by kernel_rfl)
  ·refine LoopsOk.seq ?_ ?_
   ·exact loops_none (by kernel_rfl)
   ·refine LoopsOk.seq ?_ ?_
    ·refine LoopsOk.seq ?_ ?_
     ·exact loops_none (by kernel_rfl)
     ·refine LoopsOk.block ?_
      refine LoopsOk.loop (fun tm H=>?_) (fun k61 tm H r h0=>?_) (fun k61=>?_)
      ·refine none_of fun r h0=>?_
       obtain ⟨bO,cc,bW,cw,bU,hks,e1,e3,e4,e5,h⟩:=aj.lh61_inv (show aj.lh61 F bL [] 0 tm H = some r from h0)
       cases h
      ·obtain ⟨bO,cc,bW,cw,bU,hks,e1,e3,e4,e5,h⟩:=aj.lh61_inv (show aj.lh61 F bL [] (k61 + 1) tm H = some r from h0)
       have q0:(Tm.put tm 1 (.ptr bO cc)) = tm:=by exact Tm.put_same e1
       have q1:(Tm.put (Tm.put tm 1 (.ptr bO cc)) 3 (.sl bW)) = tm:=by rw [q0]; exact Tm.put_same e3
       have q2:(Tm.put (Tm.put (Tm.put tm 1 (.ptr bO cc)) 3 (.sl bW)) 4 (.sl cw)) = tm:=by rw [q1]; exact Tm.put_same e4
       have q3:(Tm.put (Tm.put (Tm.put (Tm.put tm 1 (.ptr bO cc)) 3 (.sl bW)) 4 (.sl cw)) 5 (.int .i64 bU)) = tm:=by rw [q2]; exact Tm.put_same e5
       rw [← q3]
       exact Eq.trans (by kernel_rfl) h
      ·refine LoopsOk.seq ?_ ?_
       ·exact loops_none (by kernel_rfl)
       ·refine LoopsOk.seq ?_ ?_
        ·refine LoopsOk.block ?_
         refine LoopsOk.seq ?_ ?_
         ·exact loops_none (by kernel_rfl)
         ·refine LoopsOk.seq ?_ ?_
          ·exact loops_none (by kernel_rfl)
          ·refine LoopsOk.seq ?_ ?_
           ·refine LoopsOk.seq ?_ ?_
            ·exact loops_none (by kernel_rfl)
            ·refine LoopsOk.block ?_
             refine LoopsOk.loop (fun tm H=>?_) (fun k7853 tm H r h0=>?_) (fun k7853=>?_)
             ·refine none_of fun r h0=>?_
              obtain ⟨bj,dg,ew,eX,eP,dD,bY,cI,hks,e1,e3,e4,e5,e6,e7,h⟩:=aj.lh7853_inv (show aj.lh7853 F bL [k61] 0 tm H = some r from h0)
              cases h
             ·obtain ⟨bj,dg,ew,eX,eP,dD,bY,cI,hks,e1,e3,e4,e5,e6,e7,h⟩:=aj.lh7853_inv (show aj.lh7853 F bL [k61] (k7853 + 1) tm H = some r from h0)
              obtain rfl:bj = k61:=by simpa [eq_comm] using hks
              have q0:(Tm.put tm 1 (.ptr dg ew)) = tm:=by exact Tm.put_same e1
              have q1:(Tm.put (Tm.put tm 1 (.ptr dg ew)) 3 (.sl eX)) = tm:=by rw [q0]; exact Tm.put_same e3
              have q2:(Tm.put (Tm.put (Tm.put tm 1 (.ptr dg ew)) 3 (.sl eX)) 4 (.sl eP)) = tm:=by rw [q1]; exact Tm.put_same e4
              have q3:(Tm.put (Tm.put (Tm.put (Tm.put tm 1 (.ptr dg ew)) 3 (.sl eX)) 4 (.sl eP)) 5 (.int .i64 dD)) = tm:=by rw [q2]; exact Tm.put_same e5
              have q4:(Tm.put (Tm.put (Tm.put (Tm.put (Tm.put tm 1 (.ptr dg ew)) 3 (.sl eX)) 4 (.sl eP)) 5 (.int .i64 dD)) 6 (.sl bY)) = tm:=by rw [q3]; exact Tm.put_same e6
              have q5:(Tm.put (Tm.put (Tm.put (Tm.put (Tm.put (Tm.put tm 1 (.ptr dg ew)) 3 (.sl eX)) 4 (.sl eP)) 5 (.int .i64 dD)) 6 (.sl bY)) 7 (.int .i64 cI)) = tm:=by rw [q4]; exact Tm.put_same e7
              rw [← q5]
              exact Eq.trans (by kernel_rfl) h
             ·exact loops_none (by kernel_rfl)
           ·exact loops_none (by kernel_rfl)
        ·exact loops_none (by kernel_rfl)
    ·exact loops_none (by kernel_rfl)
theorem aj.eqX (F:Nat) (bL:Sl→Int→Int→Hp→OA) (aa:Sl) (ab:Int) (H:Hp):aCode tabs (mkOrc (aj.cs F bL)) aj.pn (aj.lh F bL) F [] 1 aj.code (argTm [(.agg [(.sl aa),(.int .i64 ab)])]) H (fun tm H=>aresults tabs.ty H tm Try.f105.results.toList fun v=>some (v,H)) (fun _ _ _=>none) (fun tm H=>aresults tabs.ty H tm Try.f105.results.toList fun v=>some (v,H)) = aj.twX F bL aa ab H:=by kernel_rfl
theorem aj.cs_ok (F:Nat):∀ p ∈ aj.cs F (bh.tw F),∀ args H v H',p.2 args H = some (v,H')→Go.AE.T Try.prog p.1 args H v H':=by
 intro p hp
 simp only [aj.cs,List.mem_cons,List.not_mem_nil,or_false] at hp
 subst hp
 exact fun args H v H' h=>bh.mk_T h
theorem aj.ok:codeOk aj.pn Try.f105.ntmps aj.tb aj.code = true:=by kernel_rfl
theorem aj.T {F:Nat} {aa:Sl} {ab:Int} {H:Hp} {v:AV} {H':Hp} (h:aj.tw F aa ab H = some (v,H')):Go.AE.T Try.prog 105 [(.agg [(.sl aa),(.int .i64 ab)])] H v H':=
 Go.AE.T.of (Y:=tabs) (C:=mkOrc (aj.cs F (bh.tw F))) (PN:=aj.pn) (LH:=aj.lh F (bh.tw F)) (F:=F) (TB:=aj.tb) (fn:=Try.f105) (code:=aj.code) mixed tabs_ok (mkOrc_ok (aj.cs_ok F)) Try.func105 (by kernel_rfl) (by kernel_rfl) aj.ok (Nat.le_of_ble_eq_true (by kernel_rfl)) (aj.loops F (bh.tw F)) (Eq.trans (aj.eqX F (bh.tw F) aa ab H) h)
theorem aj.mk_T {F:Nat} {args:List AV} {H:Hp} {v:AV} {H':Hp} (h:aj.mk (aj.tw F) args H = some (v,H')):Go.AE.T Try.prog 105 args H v H':=by
 unfold aj.mk at h
 split at h
 ·exact aj.T h
 ·cases h
noncomputable def af.j6 (F:Nat) (bf:Sl→Int→Int→Bool→Hp→OA) (C61_:Nat→Nat→Sl→Int→Hp→OA) (lY:Nat) (wH:Nat) (wI:Sl) (iM:Int) (H243:Hp):OA:=C61_ lY wH wI (IntKind.i64.wrap (iM + 1)) H243
noncomputable def af.j7 (F:Nat) (bf:Sl→Int→Int→Bool→Hp→OA) (C61_:Nat→Nat→Sl→Int→Hp→OA) (lZ:Nat) (wJ:Nat) (iN:Sl) (ho:Int) (H226:Hp):OA:=af.j6 F bf C61_ lZ wJ iN ho H226
noncomputable def af.j8 (F:Nat) (bf:Sl→Int→Int→Bool→Hp→OA) (C7855_:Nat→Nat→Sl→Int→Int→Int→Int→Hp→OA) (l_:Nat) (wK:Nat) (wL:Sl) (iO:Int) (iQ:Int) (iS:Int) (iT:Int) (H265:Hp):OA:=C7855_ l_ wK wL iO iQ iS (IntKind.i64.wrap (iT + 1)) H265
noncomputable def af.l7855 (F:Nat) (bf:Sl→Int→Int→Bool→Hp→OA) (C61_:Nat→Nat→Sl→Int→Hp→OA):Nat→Nat→Nat→Sl→Int→Int→Int→Int→Hp→OA
 | 0,_,_,_,_,_,_,_,_=>none
 | rz + 1,dy,eG,ef,cS,cg,ct,cJ,H187=>(bif (decide (cJ < (ef.n:Int))) then ((Sl.idx ef cJ 1).bind fun p244=>(Hp.ldI H187 .i64 p244.1 p244.2).bind fun n245=>(bif (n245 == (if ct > cg then ct else cg)) then ((Sl.idx ef cJ 1).bind fun p246=>(Hp.st H187 p246.1 p246.2 (.int .i64 (if ct < cg then ct else cg))).bind fun H247=>af.j8 F bf (af.l7855 F bf C61_ rz) dy eG ef cS cg ct cJ H247) else (af.j8 F bf (af.l7855 F bf C61_ rz) dy eG ef cS cg ct cJ H187))) else (af.j7 F bf C61_ dy eG ef cS H187))
termination_by structural n=>n
noncomputable def af.l61 (F:Nat) (bf:Sl→Int→Int→Bool→Hp→OA) :Nat→Nat→Nat→Sl→Int→Hp→OA
 | 0,_,_,_,_,_=>none
 | bj + 1,dz,eH,ff,dh,H35=>(Hp.ldSl H35 dz eH).bind fun s151=>(bif (decide (dh < (IntKind.i64.wrap (2 * (s151.n:Int))))) then ((Hp.ldSl H35 dz eH).bind fun s152=>(Hp.ldI H35 .i64 dz (eH + 1)).bind fun n153=>(bf s152 n153 dh true H35).bind fun r154=>((r154.1).asTup 2).bind fun l155=>(l155[0]?).bind fun v156=>((v156).asI .i64).bind fun n157=>(l155[1]?).bind fun v158=>((v158).asI .i64).bind fun n159=>(Hp.ldSl r154.2 dz eH).bind fun s160=>(Hp.ldI r154.2 .i64 dz (eH + 1)).bind fun n161=>(bf s160 n161 dh false r154.2).bind fun r162=>((r162.1).asTup 2).bind fun l163=>(l163[0]?).bind fun v164=>((v164).asI .i64).bind fun n165=>(l163[1]?).bind fun v166=>((v166).asI .i64).bind fun n167=>(Sl.idx ff n157 1).bind fun p168=>(Hp.ldI r162.2 .i64 p168.1 p168.2).bind fun n169=>(Sl.idx ff n165 1).bind fun p170=>(Hp.ldI r162.2 .i64 p170.1 p170.2).bind fun n171=>af.l7855 F bf (af.l61 F bf bj) F dz eH ff dh n169 n171 0 r162.2) else (some ((.sl ff),H35)))
termination_by structural n=>n
noncomputable def af.j9 (F:Nat) (bf:Sl→Int→Int→Bool→Hp→OA) (ma:Nat) (iU:Nat) (wM:Sl) (H25:Hp):OA:=af.l61 F bf F ma iU wM 0 H25
noncomputable def af.l29 (F:Nat) (bf:Sl→Int→Int→Bool→Hp→OA) :Nat→Nat→Nat→Sl→Int→Hp→OA
 | 0,_,_,_,_,_=>none
 | eN + 1,bR,bG,cf,bZ,H12=>(Hp.ldSl H12 bR bG).bind fun s266=>(bif (decide (bZ < (s266.n:Int))) then ((Hp.new H12 [(.int .i64 bZ)]).bind fun H267=>(Sl.row H267 (⟨some (H12.length,0),1,.ex 1⟩:Sl) 1).bind fun xs269=>(Hp.app H267 1 8 cf (⟨some (H12.length,0),1,.ex 1⟩:Sl).n xs269).bind fun a268=>af.l29 F bf eN bR bG a268.1 (IntKind.i64.wrap (bZ + 1)) a268.2) else (af.j9 F bf bR bG cf H12))
termination_by structural n=>n
noncomputable def af.twX (F:Nat) (bf:Sl→Int→Int→Bool→Hp→OA) (aa:Sl) (ab:Int) (H:Hp):OA:=(Hp.new H [(.sl aa),(.int .i64 ab)]).bind fun H3=>(Hp.new H3 []).bind fun H4=>af.l29 F bf F H.length 0 (⟨some (H3.length,0),0,.ex 0⟩:Sl) 0 H4
noncomputable def af.tw (F:Nat) (aa:Sl) (ab:Int) (H:Hp):OA:=af.twX F (ah.tw F) aa ab H
noncomputable def af.code:Go.Code:=(Try.f122.body).getD .skip
noncomputable def af.lh29 (F:Nat) (bf:Sl→Int→Int→Bool→Hp→OA) (ks:List Nat) (n:Nat) (tm:Tm) (H:Hp):OA:=match ks,tm 1,tm 3,tm 4 with
 | [],(.ptr bR bG),(.sl cf),(.int .i64 bZ)=>af.l29 F bf n bR bG cf bZ H
 | _,_,_,_=>none
theorem af.lh29_inv {F:Nat} {bf:Sl→Int→Int→Bool→Hp→OA} {ks:List Nat} {n:Nat} {tm:Tm} {H:Hp} {r:AV×Hp} (h:af.lh29 F bf ks n tm H = some r):∃ bR:Nat,∃ bG:Nat,∃ cf:Sl,∃ bZ:Int,ks = []∧tm 1 = (.ptr bR bG)∧tm 3 = (.sl cf)∧tm 4 = (.int .i64 bZ)∧af.l29 F bf n bR bG cf bZ H = some r:=by
 unfold af.lh29 at h
 split at h
 ·exact ⟨_,_,_,_,rfl,by assumption,by assumption,by assumption,h⟩
 ·cases h
noncomputable def af.lh61 (F:Nat) (bf:Sl→Int→Int→Bool→Hp→OA) (ks:List Nat) (n:Nat) (tm:Tm) (H:Hp):OA:=match ks,tm 1,tm 3,tm 5 with
 | [],(.ptr dz eH),(.sl ff),(.int .i64 dh)=>af.l61 F bf n dz eH ff dh H
 | _,_,_,_=>none
theorem af.lh61_inv {F:Nat} {bf:Sl→Int→Int→Bool→Hp→OA} {ks:List Nat} {n:Nat} {tm:Tm} {H:Hp} {r:AV×Hp} (h:af.lh61 F bf ks n tm H = some r):∃ dz:Nat,∃ eH:Nat,∃ ff:Sl,∃ dh:Int,ks = []∧tm 1 = (.ptr dz eH)∧tm 3 = (.sl ff)∧tm 5 = (.int .i64 dh)∧af.l61 F bf n dz eH ff dh H = some r:=by
 unfold af.lh61 at h
 split at h
 ·exact ⟨_,_,_,_,rfl,by assumption,by assumption,by assumption,h⟩
 ·cases h
noncomputable def af.lh7855 (F:Nat) (bf:Sl→Int→Int→Bool→Hp→OA) (ks:List Nat) (n:Nat) (tm:Tm) (H:Hp):OA:=match ks,tm 1,tm 3,tm 5,tm 10,tm 11,tm 12 with
 | [bj],(.ptr dy eG),(.sl ef),(.int .i64 cS),(.int .i64 cg),(.int .i64 ct),(.int .i64 cJ)=>af.l7855 F bf (af.l61 F bf bj) n dy eG ef cS cg ct cJ H
 | _,_,_,_,_,_,_=>none
theorem af.lh7855_inv {F:Nat} {bf:Sl→Int→Int→Bool→Hp→OA} {ks:List Nat} {n:Nat} {tm:Tm} {H:Hp} {r:AV×Hp} (h:af.lh7855 F bf ks n tm H = some r):∃ bj:Nat,∃ dy:Nat,∃ eG:Nat,∃ ef:Sl,∃ cS:Int,∃ cg:Int,∃ ct:Int,∃ cJ:Int,ks = [bj]∧tm 1 = (.ptr dy eG)∧tm 3 = (.sl ef)∧tm 5 = (.int .i64 cS)∧tm 10 = (.int .i64 cg)∧tm 11 = (.int .i64 ct)∧tm 12 = (.int .i64 cJ)∧af.l7855 F bf (af.l61 F bf bj) n dy eG ef cS cg ct cJ H = some r:=by
 unfold af.lh7855 at h
 split at h
 ·exact ⟨_,_,_,_,_,_,_,_,rfl,by assumption,by assumption,by assumption,by assumption,by assumption,by assumption,h⟩
 ·cases h
noncomputable def af.lh (F:Nat) (bf:Sl→Int→Int→Bool→Hp→OA) (p:Nat) (ks:List Nat) (n:Nat) (tm:Tm) (H:Hp):OA:=bif p.beq 7855 then af.lh7855 F bf ks n tm H else (bif p.beq 61 then af.lh61 F bf ks n tm H else (bif p.beq 29 then af.lh29 F bf ks n tm H else (none)))
def af.pn:Nat→List Nat:=fun i=>(([(11,[])]:List (Nat×List Nat)).lookup i).getD []
def af.tb:Nat→List (List Nat):=fun i=>(([(11,[[],[],[0,1],[0,1,2],[],[],[4,5],[4,5,6],[0,1,2,3],[0,1,2,3,4,5,6,7,8]])]:List (Nat×List (List Nat))).lookup i).getD []
noncomputable def af.mk (g:Sl→Int→Hp→OA) (args:List AV) (H:Hp):OA:=match args with
 | [(.agg [(.sl aa),(.int .i64 ab)])]=>g aa ab H
 | _=>none
noncomputable def af.cs (F:Nat) (bf:Sl→Int→Int→Bool→Hp→OA):List (FuncId×(List AV→Hp→OA)):=[(152,ah.mk bf)]
theorem af.loops (F:Nat) (bf:Sl→Int→Int→Bool→Hp→OA):LoopsOk tabs (mkOrc (af.cs F bf)) af.pn (af.lh F bf) F [] 1 af.code (fun tm H=>aresults tabs.ty H tm Try.f122.results.toList fun v=>some (v,H)) (fun _ _ _=>none) (fun tm H=>aresults tabs.ty H tm Try.f122.results.toList fun v=>some (v,H)):=by
 refine LoopsOk.seq ?_ ?_
 ·exact loops_none (by kernel_rfl)
 ·refine LoopsOk.seq ?_ ?_
  ·exact loops_none (by kernel_rfl)
  ·refine LoopsOk.seq ?_ ?_
   ·refine LoopsOk.seq ?_ ?_
    ·exact loops_none (by kernel_rfl)
    ·refine LoopsOk.block ?_
     refine LoopsOk.loop (fun tm H=>?_) (fun k29 tm H r h0=>?_) (fun k29=>?_)
     ·refine none_of fun r h0=>?_
      obtain ⟨bR,bG,cf,bZ,hks,e1,e3,e4,h⟩:=af.lh29_inv (show af.lh29 F bf [] 0 tm H = some r from h0)
      cases h
     ·obtain ⟨bR,bG,cf,bZ,hks,e1,e3,e4,h⟩:=af.lh29_inv (show af.lh29 F bf [] (k29 + 1) tm H = some r from h0)
      have q0:(Tm.put tm 1 (.ptr bR bG)) = tm:=by exact Tm.put_same e1
      have q1:(Tm.put (Tm.put tm 1 (.ptr bR bG)) 3 (.sl cf)) = tm:=by rw [q0]; exact Tm.put_same e3
      have q2:(Tm.put (Tm.put (Tm.put tm 1 (.ptr bR bG)) 3 (.sl cf)) 4 (.int .i64 bZ)) = tm:=by rw [q1]; exact Tm.put_same e4
      rw [← q2]
      exact Eq.trans (by kernel_rfl) h
     ·exact loops_none (by kernel_rfl)
   ·refine LoopsOk.seq ?_ ?_
    ·refine LoopsOk.seq ?_ ?_
     ·exact loops_none (by kernel_rfl)
     ·refine LoopsOk.block ?_
      refine LoopsOk.loop (fun tm H=>?_) (fun k61 tm H r h0=>?_) (fun k61=>?_)
      ·refine none_of fun r h0=>?_
       obtain ⟨dz,eH,ff,dh,hks,e1,e3,e5,h⟩:=af.lh61_inv (show af.lh61 F bf [] 0 tm H = some r from h0)
       cases h
      ·obtain ⟨dz,eH,ff,dh,hks,e1,e3,e5,h⟩:=af.lh61_inv (show af.lh61 F bf [] (k61 + 1) tm H = some r from h0)
       have q0:(Tm.put tm 1 (.ptr dz eH)) = tm:=by exact Tm.put_same e1
       have q1:(Tm.put (Tm.put tm 1 (.ptr dz eH)) 3 (.sl ff)) = tm:=by rw [q0]; exact Tm.put_same e3
       have q2:(Tm.put (Tm.put (Tm.put tm 1 (.ptr dz eH)) 3 (.sl ff)) 5 (.int .i64 dh)) = tm:=by rw [q1]; exact Tm.put_same e5
       rw [← q2]
       exact Eq.trans (by kernel_rfl) h
      ·refine LoopsOk.seq ?_ ?_
       ·exact loops_none (by kernel_rfl)
       ·refine LoopsOk.seq ?_ ?_
        ·refine LoopsOk.block ?_
         refine LoopsOk.seq ?_ ?_
         ·exact loops_none (by kernel_rfl)
         ·refine LoopsOk.seq ?_ ?_
          ·exact loops_none (by kernel_rfl)
          ·refine LoopsOk.seq ?_ ?_
           ·exact loops_none (by kernel_rfl)
           ·refine LoopsOk.seq ?_ ?_
            ·exact loops_none (by kernel_rfl)
            ·refine LoopsOk.block ?_
             refine LoopsOk.loop (fun tm H=>?_) (fun k7855 tm H r h0=>?_) (fun k7855=>?_)
             ·refine none_of fun r h0=>?_
              obtain ⟨bj,dy,eG,ef,cS,cg,ct,cJ,hks,e1,e3,e5,e10,e11,e12,h⟩:=af.lh7855_inv (show af.lh7855 F bf [k61] 0 tm H = some r from h0)
              cases h
             ·obtain ⟨bj,dy,eG,ef,cS,cg,ct,cJ,hks,e1,e3,e5,e10,e11,e12,h⟩:=af.lh7855_inv (show af.lh7855 F bf [k61] (k7855 + 1) tm H = some r from h0)
              obtain rfl:bj = k61:=by simpa [eq_comm] using hks
              have q0:(Tm.put tm 1 (.ptr dy eG)) = tm:=by exact Tm.put_same e1
              have q1:(Tm.put (Tm.put tm 1 (.ptr dy eG)) 3 (.sl ef)) = tm:=by rw [q0]; exact Tm.put_same e3
              have q2:(Tm.put (Tm.put (Tm.put tm 1 (.ptr dy eG)) 3 (.sl ef)) 5 (.int .i64 cS)) = tm:=by rw [q1]; exact Tm.put_same e5
              have q3:(Tm.put (Tm.put (Tm.put (Tm.put tm 1 (.ptr dy eG)) 3 (.sl ef)) 5 (.int .i64 cS)) 10 (.int .i64 cg)) = tm:=by rw [q2]; exact Tm.put_same e10
              have q4:(Tm.put (Tm.put (Tm.put (Tm.put (Tm.put tm 1 (.ptr dy eG)) 3 (.sl ef)) 5 (.int .i64 cS)) 10 (.int .i64 cg)) 11 (.int .i64 ct)) = tm:=by rw [q3]; exact Tm.put_same e11
              have q5:(Tm.put (Tm.put (Tm.put (Tm.put (Tm.put (Tm.put tm 1 (.ptr dy eG)) 3 (.sl ef)) 5 (.int .i64 cS)) 10 (.int .i64 cg)) 11 (.int .i64 ct)) 12 (.int .i64 cJ)) = tm:=by rw [q4]; exact Tm.put_same e12
              rw [← q5]
              exact Eq.trans (by kernel_rfl) h
             ·exact loops_none (by kernel_rfl)
        ·exact loops_none (by kernel_rfl)
    ·exact loops_none (by kernel_rfl)
theorem af.eqX (F:Nat) (bf:Sl→Int→Int→Bool→Hp→OA) (aa:Sl) (ab:Int) (H:Hp):aCode tabs (mkOrc (af.cs F bf)) af.pn (af.lh F bf) F [] 1 af.code (argTm [(.agg [(.sl aa),(.int .i64 ab)])]) H (fun tm H=>aresults tabs.ty H tm Try.f122.results.toList fun v=>some (v,H)) (fun _ _ _=>none) (fun tm H=>aresults tabs.ty H tm Try.f122.results.toList fun v=>some (v,H)) = af.twX F bf aa ab H:=by kernel_rfl
theorem af.cs_ok (F:Nat):∀ p ∈ af.cs F (ah.tw F),∀ args H v H',p.2 args H = some (v,H')→Go.AE.T Try.prog p.1 args H v H':=by
 intro p hp
 simp only [af.cs,List.mem_cons,List.not_mem_nil,or_false] at hp
 subst hp
 exact fun args H v H' h=>ah.mk_T h
theorem af.ok:codeOk af.pn Try.f122.ntmps af.tb af.code = true:=by kernel_rfl
theorem af.T {F:Nat} {aa:Sl} {ab:Int} {H:Hp} {v:AV} {H':Hp} (h:af.tw F aa ab H = some (v,H')):Go.AE.T Try.prog 122 [(.agg [(.sl aa),(.int .i64 ab)])] H v H':=
 Go.AE.T.of (Y:=tabs) (C:=mkOrc (af.cs F (ah.tw F))) (PN:=af.pn) (LH:=af.lh F (ah.tw F)) (F:=F) (TB:=af.tb) (fn:=Try.f122) (code:=af.code) mixed tabs_ok (mkOrc_ok (af.cs_ok F)) Try.func122 (by kernel_rfl) (by kernel_rfl) af.ok (Nat.le_of_ble_eq_true (by kernel_rfl)) (af.loops F (ah.tw F)) (Eq.trans (af.eqX F (ah.tw F) aa ab H) h)
theorem af.mk_T {F:Nat} {args:List AV} {H:Hp} {v:AV} {H':Hp} (h:af.mk (af.tw F) args H = some (v,H')):Go.AE.T Try.prog 122 args H v H':=by
 unfold af.mk at h
 split at h
 ·exact af.T h
 ·cases h
noncomputable def ay.j2 (F:Nat) (cB:Sl→Int→Hp→OA) (C61_:Int→Sl→Int→Hp→OA) (iV:Int) (wN:Sl) (iW:Int) (H42:Hp):OA:=C61_ iV wN (IntKind.i64.wrap (iW + 1)) H42
noncomputable def ay.l61 (F:Nat) (cB:Sl→Int→Hp→OA) :Nat→Int→Sl→Int→Hp→OA
 | 0,_,_,_,_=>none
 | bj + 1,di,fg,cK,H16=>(bif (decide (cK < (fg.n:Int))) then ((Sl.idx fg cK 1).bind fun p30=>(Hp.ldI H16 .i64 p30.1 p30.2).bind fun n31=>(bif (n31 == cK) then (ay.j2 F cB (ay.l61 F cB bj) (IntKind.i64.wrap (di + 1)) fg cK H16) else (ay.j2 F cB (ay.l61 F cB bj) di fg cK H16))) else (some ((.int .i64 di),H16)))
termination_by structural n=>n
noncomputable def ay.twX (F:Nat) (cB:Sl→Int→Hp→OA) (aa:Sl) (ab:Int) (H:Hp):OA:=(Hp.new H [(.sl aa),(.int .i64 ab)]).bind fun H3=>(Hp.ldSl H3 H.length 0).bind fun s4=>(Hp.ldI H3 .i64 H.length (0 + 1)).bind fun n5=>(cB s4 n5 H3).bind fun r6=>((r6.1).asSl).bind fun s7=>ay.l61 F cB F 0 s7 0 r6.2
noncomputable def ay.tw (F:Nat) (aa:Sl) (ab:Int) (H:Hp):OA:=ay.twX F (af.tw F) aa ab H
noncomputable def ay.code:Go.Code:=(Try.f97.body).getD .skip
noncomputable def ay.lh61 (F:Nat) (cB:Sl→Int→Hp→OA) (ks:List Nat) (n:Nat) (tm:Tm) (H:Hp):OA:=match ks,tm 3,tm 4,tm 5 with
 | [],(.int .i64 di),(.sl fg),(.int .i64 cK)=>ay.l61 F cB n di fg cK H
 | _,_,_,_=>none
theorem ay.lh61_inv {F:Nat} {cB:Sl→Int→Hp→OA} {ks:List Nat} {n:Nat} {tm:Tm} {H:Hp} {r:AV×Hp} (h:ay.lh61 F cB ks n tm H = some r):∃ di:Int,∃ fg:Sl,∃ cK:Int,ks = []∧tm 3 = (.int .i64 di)∧tm 4 = (.sl fg)∧tm 5 = (.int .i64 cK)∧ay.l61 F cB n di fg cK H = some r:=by
 unfold ay.lh61 at h
 split at h
 ·exact ⟨_,_,_,rfl,by assumption,by assumption,by assumption,h⟩
 ·cases h
noncomputable def ay.lh (F:Nat) (cB:Sl→Int→Hp→OA) (p:Nat) (ks:List Nat) (n:Nat) (tm:Tm) (H:Hp):OA:=bif p.beq 61 then ay.lh61 F cB ks n tm H else (none)
def ay.pn:Nat→List Nat:=fun i=>(([]:List (Nat×List Nat)).lookup i).getD []
def ay.tb:Nat→List (List Nat):=fun i=>(([]:List (Nat×List (List Nat))).lookup i).getD []
noncomputable def ay.mk (g:Sl→Int→Hp→OA) (args:List AV) (H:Hp):OA:=match args with
 | [(.agg [(.sl aa),(.int .i64 ab)])]=>g aa ab H
 | _=>none
noncomputable def ay.cs (F:Nat) (cB:Sl→Int→Hp→OA):List (FuncId×(List AV→Hp→OA)):=[(122,af.mk cB)]
theorem ay.loops (F:Nat) (cB:Sl→Int→Hp→OA):LoopsOk tabs (mkOrc (ay.cs F cB)) ay.pn (ay.lh F cB) F [] 1 ay.code (fun tm H=>aresults tabs.ty H tm Try.f97.results.toList fun v=>some (v,H)) (fun _ _ _=>none) (fun tm H=>aresults tabs.ty H tm Try.f97.results.toList fun v=>some (v,H)):=by
 refine LoopsOk.seq ?_ ?_
 ·exact loops_none (by kernel_rfl)
 ·refine LoopsOk.seq ?_ ?_
  ·exact loops_none (by kernel_rfl)
  ·refine LoopsOk.seq ?_ ?_
   ·exact loops_none (by kernel_rfl)
   ·refine LoopsOk.seq ?_ ?_
    ·refine LoopsOk.seq ?_ ?_
     ·exact loops_none (by kernel_rfl)
     ·refine LoopsOk.block ?_
      refine LoopsOk.loop (fun tm H=>?_) (fun k61 tm H r h0=>?_) (fun k61=>?_)
      ·refine none_of fun r h0=>?_
       obtain ⟨di,fg,cK,hks,e3,e4,e5,h⟩:=ay.lh61_inv (show ay.lh61 F cB [] 0 tm H = some r from h0)
       cases h
      ·obtain ⟨di,fg,cK,hks,e3,e4,e5,h⟩:=ay.lh61_inv (show ay.lh61 F cB [] (k61 + 1) tm H = some r from h0)
       have q0:(Tm.put tm 3 (.int .i64 di)) = tm:=by exact Tm.put_same e3
       have q1:(Tm.put (Tm.put tm 3 (.int .i64 di)) 4 (.sl fg)) = tm:=by rw [q0]; exact Tm.put_same e4
       have q2:(Tm.put (Tm.put (Tm.put tm 3 (.int .i64 di)) 4 (.sl fg)) 5 (.int .i64 cK)) = tm:=by rw [q1]; exact Tm.put_same e5
       rw [← q2]
       exact Eq.trans (by kernel_rfl) h
      ·exact loops_none (by kernel_rfl)
    ·exact loops_none (by kernel_rfl)
theorem ay.eqX (F:Nat) (cB:Sl→Int→Hp→OA) (aa:Sl) (ab:Int) (H:Hp):aCode tabs (mkOrc (ay.cs F cB)) ay.pn (ay.lh F cB) F [] 1 ay.code (argTm [(.agg [(.sl aa),(.int .i64 ab)])]) H (fun tm H=>aresults tabs.ty H tm Try.f97.results.toList fun v=>some (v,H)) (fun _ _ _=>none) (fun tm H=>aresults tabs.ty H tm Try.f97.results.toList fun v=>some (v,H)) = ay.twX F cB aa ab H:=by kernel_rfl
theorem ay.cs_ok (F:Nat):∀ p ∈ ay.cs F (af.tw F),∀ args H v H',p.2 args H = some (v,H')→Go.AE.T Try.prog p.1 args H v H':=by
 intro p hp
 simp only [ay.cs,List.mem_cons,List.not_mem_nil,or_false] at hp
 subst hp
 exact fun args H v H' h=>af.mk_T h
theorem ay.ok:codeOk ay.pn Try.f97.ntmps ay.tb ay.code = true:=by kernel_rfl
theorem ay.T {F:Nat} {aa:Sl} {ab:Int} {H:Hp} {v:AV} {H':Hp} (h:ay.tw F aa ab H = some (v,H')):Go.AE.T Try.prog 97 [(.agg [(.sl aa),(.int .i64 ab)])] H v H':=
 Go.AE.T.of (Y:=tabs) (C:=mkOrc (ay.cs F (af.tw F))) (PN:=ay.pn) (LH:=ay.lh F (af.tw F)) (F:=F) (TB:=ay.tb) (fn:=Try.f97) (code:=ay.code) mixed tabs_ok (mkOrc_ok (ay.cs_ok F)) Try.func97 (by kernel_rfl) (by kernel_rfl) ay.ok (Nat.le_of_ble_eq_true (by kernel_rfl)) (ay.loops F (af.tw F)) (Eq.trans (ay.eqX F (af.tw F) aa ab H) h)
theorem ay.mk_T {F:Nat} {args:List AV} {H:Hp} {v:AV} {H':Hp} (h:ay.mk (ay.tw F) args H = some (v,H')):Go.AE.T Try.prog 97 args H v H':=by
 unfold ay.mk at h
 split at h
 ·exact ay.T h
 ·cases h
noncomputable def bk.twX (F:Nat) (bD:Int→Int→Int→Hp→OA) (fN:Sl→Int→Hp→OA) (fO:Sl→Int→Hp→OA) (fP:Sl→Int→Hp→OA) (aa:Sl) (ab:Int) (H:Hp):OA:=(Hp.new H [(.sl aa),(.int .i64 ab)]).bind fun H3=>(Hp.ldSl H3 H.length 0).bind fun s4=>(bif (decide ((s4.n:Int) > 10)) then (some ((.bool false),H3)) else ((Hp.ldI H3 .i64 H.length 1).bind fun n5=>(bD n5 0 8 H3).bind fun r6=>((r6.1).asB).bind fun b7=>(bif (!b7) then (some ((.bool false),r6.2)) else ((Hp.ldSl r6.2 H.length 0).bind fun s8=>(Hp.ldI r6.2 .i64 H.length (0 + 1)).bind fun n9=>(fN s8 n9 r6.2).bind fun r10=>((r10.1).asB).bind fun b11=>(bif (!b11) then (some ((.bool false),r10.2)) else ((Hp.ldSl r10.2 H.length 0).bind fun s12=>(Hp.ldI r10.2 .i64 H.length (0 + 1)).bind fun n13=>(fO s12 n13 r10.2).bind fun r14=>((r14.1).asSl).bind fun s15=>(if Cons r10.2 r14.2 then ((Hp.ldSl r14.2 H.length 0).bind fun s16=>(Hp.ldSl r14.2 H.length 0).bind fun s17=>(Hp.ldI r14.2 .i64 H.length (0 + 1)).bind fun n18=>(fP s17 n18 r14.2).bind fun r19=>((r19.1).asI .i64).bind fun n20=>(if Cons r14.2 r19.2 then (some ((.bool ((s15.n:Int) == (IntKind.i64.wrap ((s16.n:Int) + (IntKind.i64.wrap (2 * n20)))))),r19.2)) else none)) else none)))))))
noncomputable def bk.tw (F:Nat) (aa:Sl) (ab:Int) (H:Hp):OA:=bk.twX F (aY.tw F) (ak.tw F) (aj.tw F) (ay.tw F) aa ab H
noncomputable def bk.code:Go.Code:=(Try.f50.body).getD .skip
noncomputable def bk.lh (F:Nat) (bD:Int→Int→Int→Hp→OA) (fN:Sl→Int→Hp→OA) (fO:Sl→Int→Hp→OA) (fP:Sl→Int→Hp→OA) (p:Nat) (ks:List Nat) (n:Nat) (tm:Tm) (H:Hp):OA:=none
def bk.pn:Nat→List Nat:=fun i=>(([(3,[])]:List (Nat×List Nat)).lookup i).getD []
def bk.tb:Nat→List (List Nat):=fun i=>(([(3,[[],[0],[0,1],[],[3],[3,4],[],[0,1,6],[0,1,6,7],[0,1,3,4,5,6,7,8],[0,1,2,3,4,5,6,7,8,9],[0,1,2,3,4,5,6,7,8,9,10]])]:List (Nat×List (List Nat))).lookup i).getD []
noncomputable def bk.mk (g:Sl→Int→Hp→OA) (args:List AV) (H:Hp):OA:=match args with
 | [(.agg [(.sl aa),(.int .i64 ab)])]=>g aa ab H
 | _=>none
noncomputable def bk.cs (F:Nat) (bD:Int→Int→Int→Hp→OA) (fN:Sl→Int→Hp→OA) (fO:Sl→Int→Hp→OA) (fP:Sl→Int→Hp→OA):List (FuncId×(List AV→Hp→OA)):=[(65,aY.mk bD),(104,ak.mk fN),(105,aj.mk fO),(97,ay.mk fP)]
theorem bk.loops (F:Nat) (bD:Int→Int→Int→Hp→OA) (fN:Sl→Int→Hp→OA) (fO:Sl→Int→Hp→OA) (fP:Sl→Int→Hp→OA):LoopsOk tabs (mkOrc (bk.cs F bD fN fO fP)) bk.pn (bk.lh F bD fN fO fP) F [] 1 bk.code (fun tm H=>aresults tabs.ty H tm Try.f50.results.toList fun v=>some (v,H)) (fun _ _ _=>none) (fun tm H=>aresults tabs.ty H tm Try.f50.results.toList fun v=>some (v,H)):=by
 exact loops_none (by kernel_rfl)
theorem bk.eqX (F:Nat) (bD:Int→Int→Int→Hp→OA) (fN:Sl→Int→Hp→OA) (fO:Sl→Int→Hp→OA) (fP:Sl→Int→Hp→OA) (aa:Sl) (ab:Int) (H:Hp):aCode tabs (mkOrc (bk.cs F bD fN fO fP)) bk.pn (bk.lh F bD fN fO fP) F [] 1 bk.code (argTm [(.agg [(.sl aa),(.int .i64 ab)])]) H (fun tm H=>aresults tabs.ty H tm Try.f50.results.toList fun v=>some (v,H)) (fun _ _ _=>none) (fun tm H=>aresults tabs.ty H tm Try.f50.results.toList fun v=>some (v,H)) = bk.twX F bD fN fO fP aa ab H:=by kernel_rfl
theorem bk.cs_ok (F:Nat):∀ p ∈ bk.cs F (aY.tw F) (ak.tw F) (aj.tw F) (ay.tw F),∀ args H v H',p.2 args H = some (v,H')→Go.AE.T Try.prog p.1 args H v H':=by
 intro p hp
 simp only [bk.cs,List.mem_cons,List.not_mem_nil,or_false] at hp
 rcases hp with rfl | rfl | rfl | rfl
 ·exact fun args H v H' h=>aY.mk_T h
 ·exact fun args H v H' h=>ak.mk_T h
 ·exact fun args H v H' h=>aj.mk_T h
 ·exact fun args H v H' h=>ay.mk_T h
theorem bk.ok:codeOk bk.pn Try.f50.ntmps bk.tb bk.code = true:=by kernel_rfl
theorem bk.T {F:Nat} {aa:Sl} {ab:Int} {H:Hp} {v:AV} {H':Hp} (h:bk.tw F aa ab H = some (v,H')):Go.AE.T Try.prog 50 [(.agg [(.sl aa),(.int .i64 ab)])] H v H':=
 Go.AE.T.of (Y:=tabs) (C:=mkOrc (bk.cs F (aY.tw F) (ak.tw F) (aj.tw F) (ay.tw F))) (PN:=bk.pn) (LH:=bk.lh F (aY.tw F) (ak.tw F) (aj.tw F) (ay.tw F)) (F:=F) (TB:=bk.tb) (fn:=Try.f50) (code:=bk.code) mixed tabs_ok (mkOrc_ok (bk.cs_ok F)) Try.func50 (by kernel_rfl) (by kernel_rfl) bk.ok (Nat.le_of_ble_eq_true (by kernel_rfl)) (bk.loops F (aY.tw F) (ak.tw F) (aj.tw F) (ay.tw F)) (Eq.trans (bk.eqX F (aY.tw F) (ak.tw F) (aj.tw F) (ay.tw F) aa ab H) h)
theorem bk.mk_T {F:Nat} {args:List AV} {H:Hp} {v:AV} {H':Hp} (h:bk.mk (bk.tw F) args H = some (v,H')):Go.AE.T Try.prog 50 args H v H':=by
 unfold bk.mk at h
 split at h
 ·exact bk.T h
 ·cases h
noncomputable def ad.j6 (F:Nat) (mb:Nat) (wO:Nat) (wP:Sl) (iX:Int) (H211:Hp):OA:=(Hp.ldI H211 .i64 mb (wO + 1)).bind fun n212=>some ((.tup [(.sl wP),(.int .i64 (IntKind.i64.wrap (iX + n212)))]),H211)
noncomputable def ad.j7 (F:Nat) (C509_:Nat→Nat→Sl→Sl→Int→Int→Hp→OA) (mc:Nat) (wQ:Nat) (wR:Sl) (wS:Sl) (iY:Int) (iZ:Int) (H234:Hp):OA:=C509_ mc wQ wR wS iY (IntKind.i64.wrap (iZ + 1)) H234
noncomputable def ad.l509 (F:Nat) :Nat→Nat→Nat→Sl→Sl→Int→Int→Hp→OA
 | 0,_,_,_,_,_,_,_=>none
 | rA + 1,dE,eQ,eI,eY,cF,cC,H166=>(bif (decide (cC < (eI.n:Int))) then ((Sl.idx eI cC 1).bind fun p213=>(Hp.ldI H166 .i64 p213.1 p213.2).bind fun n214=>(bif (n214 == cC) then ((Hp.new H166 [(.int .i64 cF)]).bind fun H215=>(Sl.row H215 (⟨some (H166.length,0),1,.ex 1⟩:Sl) 1).bind fun xs217=>(Hp.app H215 1 8 eY (⟨some (H166.length,0),1,.ex 1⟩:Sl).n xs217).bind fun a216=>ad.j7 F (ad.l509 F rA) dE eQ eI a216.1 (IntKind.i64.wrap (cF + 1)) cC a216.2) else ((Sl.idx eI cC 1).bind fun p235=>(Hp.ldI H166 .i64 p235.1 p235.2).bind fun n236=>(Sl.idx eY n236 1).bind fun p237=>(Hp.ldI H166 .i64 p237.1 p237.2).bind fun n238=>(Hp.new H166 [(.int .i64 n238)]).bind fun H239=>(Sl.row H239 (⟨some (H166.length,0),1,.ex 1⟩:Sl) 1).bind fun xs241=>(Hp.app H239 1 8 eY (⟨some (H166.length,0),1,.ex 1⟩:Sl).n xs241).bind fun a240=>ad.j7 F (ad.l509 F rA) dE eQ eI a240.1 cF cC a240.2))) else (ad.j6 F dE eQ eY cF H166))
termination_by structural n=>n
noncomputable def ad.j8 (F:Nat) (md:Nat) (wT:Nat) (wU:Sl) (H150:Hp):OA:=(Hp.new H150 []).bind fun H151=>ad.l509 F F md wT wU (⟨some (H150.length,0),0,.ex 0⟩:Sl) 0 0 H151
noncomputable def ad.j10 (F:Nat) (C61_:Nat→Nat→Sl→Int→Hp→OA) (mf:Nat) (wV:Nat) (wW:Sl) (i_:Int) (H320:Hp):OA:=C61_ mf wV wW (IntKind.i64.wrap (i_ + 1)) H320
noncomputable def ad.j11 (F:Nat) (C61_:Nat→Nat→Sl→Int→Hp→OA) (mg:Nat) (wX:Nat) (wY:Sl) (ja:Int) (H304:Hp):OA:=ad.j10 F C61_ mg wX wY ja H304
noncomputable def ad.j12 (F:Nat) (C1963_:Nat→Nat→Sl→Int→Int→Int→Int→Hp→OA) (mh:Nat) (wZ:Nat) (w_:Sl) (jb:Int) (jc:Int) (jd:Int) (je:Int) (H341:Hp):OA:=C1963_ mh wZ w_ jb jc jd (IntKind.i64.wrap (je + 1)) H341
noncomputable def ad.l1963 (F:Nat) (C61_:Nat→Nat→Sl→Int→Hp→OA):Nat→Nat→Nat→Sl→Int→Int→Int→Int→Hp→OA
 | 0,_,_,_,_,_,_,_,_=>none
 | rB + 1,dA,eJ,eg,cT,ch,cu,cL,H267=>(bif (decide (cL < (eg.n:Int))) then ((Sl.idx eg cL 1).bind fun p321=>(Hp.ldI H267 .i64 p321.1 p321.2).bind fun n322=>(bif (n322 == (if cu > ch then cu else ch)) then ((Sl.idx eg cL 1).bind fun p323=>(Hp.st H267 p323.1 p323.2 (.int .i64 (if cu < ch then cu else ch))).bind fun H324=>ad.j12 F (ad.l1963 F C61_ rB) dA eJ eg cT ch cu cL H324) else (ad.j12 F (ad.l1963 F C61_ rB) dA eJ eg cT ch cu cL H267))) else (ad.j11 F C61_ dA eJ eg cT H267))
termination_by structural n=>n
noncomputable def ad.l61 (F:Nat) :Nat→Nat→Nat→Sl→Int→Hp→OA
 | 0,_,_,_,_,_=>none
 | bj + 1,dG,eR,fh,dj,H38=>(Hp.ldSl H38 dG eR).bind fun s242=>(bif (decide (dj < (s242.n:Int))) then ((Hp.ldSl H38 dG eR).bind fun s243=>(Sl.idx s243 dj 5).bind fun p244=>(Hp.ldI H38 .i64 p244.1 (p244.2 + 1)).bind fun n245=>(Sl.idx fh n245 1).bind fun p246=>(Hp.ldI H38 .i64 p246.1 p246.2).bind fun n247=>(Hp.ldSl H38 dG eR).bind fun s248=>(Sl.idx s248 dj 5).bind fun p249=>(Hp.ldI H38 .i64 p249.1 (p249.2 + 3)).bind fun n250=>(Sl.idx fh n250 1).bind fun p251=>(Hp.ldI H38 .i64 p251.1 p251.2).bind fun n252=>ad.l1963 F (ad.l61 F bj) F dG eR fh dj n247 n252 0 H38) else (ad.j8 F dG eR fh H38))
termination_by structural n=>n
noncomputable def ad.j13 (F:Nat) (iU:Nat) (xa:Nat) (xb:Sl) (H27:Hp):OA:=ad.l61 F F iU xa xb 0 H27
noncomputable def ad.l29 (F:Nat) :Nat→Nat→Nat→Sl→Int→Hp→OA
 | 0,_,_,_,_,_=>none
 | eN + 1,bR,bG,bZ,dk,H13=>(Hp.ldSl H13 bR bG).bind fun s342=>(bif (decide (dk < (IntKind.i64.wrap (2 * (s342.n:Int))))) then ((Hp.new H13 [(.int .i64 dk)]).bind fun H343=>(Sl.row H343 (⟨some (H13.length,0),1,.ex 1⟩:Sl) 1).bind fun xs345=>(Hp.app H343 1 8 bZ (⟨some (H13.length,0),1,.ex 1⟩:Sl).n xs345).bind fun a344=>ad.l29 F eN bR bG a344.1 (IntKind.i64.wrap (dk + 1)) a344.2) else (ad.j13 F bR bG bZ H13))
termination_by structural n=>n
noncomputable def ad.twX (F:Nat) (aa:Sl) (ab:Int) (H:Hp):OA:=(Hp.new H [(.sl aa),(.int .i64 ab)]).bind fun H3=>(Hp.new H3 []).bind fun H4=>ad.l29 F F H.length 0 (⟨some (H3.length,0),0,.ex 0⟩:Sl) 0 H4
noncomputable def ad.tw (F:Nat) (aa:Sl) (ab:Int) (H:Hp):OA:=ad.twX F aa ab H
noncomputable def ad.code:Go.Code:=(Try.f59.body).getD .skip
noncomputable def ad.lh29 (F:Nat) (ks:List Nat) (n:Nat) (tm:Tm) (H:Hp):OA:=match ks,tm 1,tm 4,tm 5 with
 | [],(.ptr bR bG),(.sl bZ),(.int .i64 dk)=>ad.l29 F n bR bG bZ dk H
 | _,_,_,_=>none
theorem ad.lh29_inv {F:Nat} {ks:List Nat} {n:Nat} {tm:Tm} {H:Hp} {r:AV×Hp} (h:ad.lh29 F ks n tm H = some r):∃ bR:Nat,∃ bG:Nat,∃ bZ:Sl,∃ dk:Int,ks = []∧tm 1 = (.ptr bR bG)∧tm 4 = (.sl bZ)∧tm 5 = (.int .i64 dk)∧ad.l29 F n bR bG bZ dk H = some r:=by
 unfold ad.lh29 at h
 split at h
 ·exact ⟨_,_,_,_,rfl,by assumption,by assumption,by assumption,h⟩
 ·cases h
noncomputable def ad.lh61 (F:Nat) (ks:List Nat) (n:Nat) (tm:Tm) (H:Hp):OA:=match ks,tm 1,tm 4,tm 6 with
 | [],(.ptr dG eR),(.sl fh),(.int .i64 dj)=>ad.l61 F n dG eR fh dj H
 | _,_,_,_=>none
theorem ad.lh61_inv {F:Nat} {ks:List Nat} {n:Nat} {tm:Tm} {H:Hp} {r:AV×Hp} (h:ad.lh61 F ks n tm H = some r):∃ dG:Nat,∃ eR:Nat,∃ fh:Sl,∃ dj:Int,ks = []∧tm 1 = (.ptr dG eR)∧tm 4 = (.sl fh)∧tm 6 = (.int .i64 dj)∧ad.l61 F n dG eR fh dj H = some r:=by
 unfold ad.lh61 at h
 split at h
 ·exact ⟨_,_,_,_,rfl,by assumption,by assumption,by assumption,h⟩
 ·cases h
noncomputable def ad.lh509 (F:Nat) (ks:List Nat) (n:Nat) (tm:Tm) (H:Hp):OA:=match ks,tm 1,tm 4,tm 10,tm 11,tm 12 with
 | [],(.ptr dE eQ),(.sl eI),(.sl eY),(.int .i64 cF),(.int .i64 cC)=>ad.l509 F n dE eQ eI eY cF cC H
 | _,_,_,_,_,_=>none
theorem ad.lh509_inv {F:Nat} {ks:List Nat} {n:Nat} {tm:Tm} {H:Hp} {r:AV×Hp} (h:ad.lh509 F ks n tm H = some r):∃ dE:Nat,∃ eQ:Nat,∃ eI:Sl,∃ eY:Sl,∃ cF:Int,∃ cC:Int,ks = []∧tm 1 = (.ptr dE eQ)∧tm 4 = (.sl eI)∧tm 10 = (.sl eY)∧tm 11 = (.int .i64 cF)∧tm 12 = (.int .i64 cC)∧ad.l509 F n dE eQ eI eY cF cC H = some r:=by
 unfold ad.lh509 at h
 split at h
 ·exact ⟨_,_,_,_,_,_,rfl,by assumption,by assumption,by assumption,by assumption,by assumption,h⟩
 ·cases h
noncomputable def ad.lh1963 (F:Nat) (ks:List Nat) (n:Nat) (tm:Tm) (H:Hp):OA:=match ks,tm 1,tm 4,tm 6,tm 7,tm 8,tm 9 with
 | [bj],(.ptr dA eJ),(.sl eg),(.int .i64 cT),(.int .i64 ch),(.int .i64 cu),(.int .i64 cL)=>ad.l1963 F (ad.l61 F bj) n dA eJ eg cT ch cu cL H
 | _,_,_,_,_,_,_=>none
theorem ad.lh1963_inv {F:Nat} {ks:List Nat} {n:Nat} {tm:Tm} {H:Hp} {r:AV×Hp} (h:ad.lh1963 F ks n tm H = some r):∃ bj:Nat,∃ dA:Nat,∃ eJ:Nat,∃ eg:Sl,∃ cT:Int,∃ ch:Int,∃ cu:Int,∃ cL:Int,ks = [bj]∧tm 1 = (.ptr dA eJ)∧tm 4 = (.sl eg)∧tm 6 = (.int .i64 cT)∧tm 7 = (.int .i64 ch)∧tm 8 = (.int .i64 cu)∧tm 9 = (.int .i64 cL)∧ad.l1963 F (ad.l61 F bj) n dA eJ eg cT ch cu cL H = some r:=by
 unfold ad.lh1963 at h
 split at h
 ·exact ⟨_,_,_,_,_,_,_,_,rfl,by assumption,by assumption,by assumption,by assumption,by assumption,by assumption,h⟩
 ·cases h
noncomputable def ad.lh (F:Nat) (p:Nat) (ks:List Nat) (n:Nat) (tm:Tm) (H:Hp):OA:=bif p.beq 1963 then ad.lh1963 F ks n tm H else (bif p.beq 509 then ad.lh509 F ks n tm H else (bif p.beq 61 then ad.lh61 F ks n tm H else (bif p.beq 29 then ad.lh29 F ks n tm H else (none))))
def ad.pn:Nat→List Nat:=fun i=>(([(9,[]),(24,[])]:List (Nat×List Nat)).lookup i).getD []
def ad.tb:Nat→List (List Nat):=fun i=>(([(9,[[],[],[1],[],[1,2,3],[1,2,3,4],[1,2,3,4,5],[0,1,2,3,4,5,6],[0,1,2,3,4,5,6,7],[],[],[10],[],[10,11,12],[10,11,12,13],[10,11,12,13,14],[9,10,11,12,13,14,15],[9,10,11,12,13,14,15,16],[0,1,2,3,4,5,6,7,8],[0,1,2,3,4,5,6,7,8,9,10,11,12,13,14,15,16,17,18]]),(24,[[],[],[],[2],[1,2,3],[0],[0,1,2,3,4,5]])]:List (Nat×List (List Nat))).lookup i).getD []
noncomputable def ad.mk (g:Sl→Int→Hp→OA) (args:List AV) (H:Hp):OA:=match args with
 | [(.agg [(.sl aa),(.int .i64 ab)])]=>g aa ab H
 | _=>none
noncomputable def ad.cs (F:Nat):List (FuncId×(List AV→Hp→OA)):=[]
theorem ad.loops (F:Nat):LoopsOk tabs (mkOrc (ad.cs F)) ad.pn (ad.lh F) F [] 1 ad.code (fun tm H=>aresults tabs.ty H tm Try.f59.results.toList fun v=>some (v,H)) (fun _ _ _=>none) (fun tm H=>aresults tabs.ty H tm Try.f59.results.toList fun v=>some (v,H)):=by
 refine LoopsOk.seq ?_ ?_
 ·exact loops_none (by kernel_rfl)
 ·refine LoopsOk.seq ?_ ?_
  ·exact loops_none (by kernel_rfl)
  ·refine LoopsOk.seq ?_ ?_
   ·refine LoopsOk.seq ?_ ?_
    ·exact loops_none (by kernel_rfl)
    ·refine LoopsOk.block ?_
     refine LoopsOk.loop (fun tm H=>?_) (fun k29 tm H r h0=>?_) (fun k29=>?_)
     ·refine none_of fun r h0=>?_
      obtain ⟨bR,bG,bZ,dk,hks,e1,e4,e5,h⟩:=ad.lh29_inv (show ad.lh29 F [] 0 tm H = some r from h0)
      cases h
     ·obtain ⟨bR,bG,bZ,dk,hks,e1,e4,e5,h⟩:=ad.lh29_inv (show ad.lh29 F [] (k29 + 1) tm H = some r from h0)
      have q0:(Tm.put tm 1 (.ptr bR bG)) = tm:=by exact Tm.put_same e1
      have q1:(Tm.put (Tm.put tm 1 (.ptr bR bG)) 4 (.sl bZ)) = tm:=by rw [q0]; exact Tm.put_same e4
      have q2:(Tm.put (Tm.put (Tm.put tm 1 (.ptr bR bG)) 4 (.sl bZ)) 5 (.int .i64 dk)) = tm:=by rw [q1]; exact Tm.put_same e5
      rw [← q2]
      exact Eq.trans (by kernel_rfl) h
     ·exact loops_none (by kernel_rfl)
   ·refine LoopsOk.seq ?_ ?_
    ·refine LoopsOk.seq ?_ ?_
     ·exact loops_none (by kernel_rfl)
     ·refine LoopsOk.block ?_
      refine LoopsOk.loop (fun tm H=>?_) (fun k61 tm H r h0=>?_) (fun k61=>?_)
      ·refine none_of fun r h0=>?_
       obtain ⟨dG,eR,fh,dj,hks,e1,e4,e6,h⟩:=ad.lh61_inv (show ad.lh61 F [] 0 tm H = some r from h0)
       cases h
      ·obtain ⟨dG,eR,fh,dj,hks,e1,e4,e6,h⟩:=ad.lh61_inv (show ad.lh61 F [] (k61 + 1) tm H = some r from h0)
       have q0:(Tm.put tm 1 (.ptr dG eR)) = tm:=by exact Tm.put_same e1
       have q1:(Tm.put (Tm.put tm 1 (.ptr dG eR)) 4 (.sl fh)) = tm:=by rw [q0]; exact Tm.put_same e4
       have q2:(Tm.put (Tm.put (Tm.put tm 1 (.ptr dG eR)) 4 (.sl fh)) 6 (.int .i64 dj)) = tm:=by rw [q1]; exact Tm.put_same e6
       rw [← q2]
       exact Eq.trans (by kernel_rfl) h
      ·refine LoopsOk.seq ?_ ?_
       ·exact loops_none (by kernel_rfl)
       ·refine LoopsOk.seq ?_ ?_
        ·refine LoopsOk.block ?_
         refine LoopsOk.seq ?_ ?_
         ·exact loops_none (by kernel_rfl)
         ·refine LoopsOk.seq ?_ ?_
          ·exact loops_none (by kernel_rfl)
          ·refine LoopsOk.block ?_
           refine LoopsOk.loop (fun tm H=>?_) (fun k1963 tm H r h0=>?_) (fun k1963=>?_)
           ·refine none_of fun r h0=>?_
            obtain ⟨bj,dA,eJ,eg,cT,ch,cu,cL,hks,e1,e4,e6,e7,e8,e9,h⟩:=ad.lh1963_inv (show ad.lh1963 F [k61] 0 tm H = some r from h0)
            cases h
           ·obtain ⟨bj,dA,eJ,eg,cT,ch,cu,cL,hks,e1,e4,e6,e7,e8,e9,h⟩:=ad.lh1963_inv (show ad.lh1963 F [k61] (k1963 + 1) tm H = some r from h0)
            obtain rfl:bj = k61:=by simpa [eq_comm] using hks
            have q0:(Tm.put tm 1 (.ptr dA eJ)) = tm:=by exact Tm.put_same e1
            have q1:(Tm.put (Tm.put tm 1 (.ptr dA eJ)) 4 (.sl eg)) = tm:=by rw [q0]; exact Tm.put_same e4
            have q2:(Tm.put (Tm.put (Tm.put tm 1 (.ptr dA eJ)) 4 (.sl eg)) 6 (.int .i64 cT)) = tm:=by rw [q1]; exact Tm.put_same e6
            have q3:(Tm.put (Tm.put (Tm.put (Tm.put tm 1 (.ptr dA eJ)) 4 (.sl eg)) 6 (.int .i64 cT)) 7 (.int .i64 ch)) = tm:=by rw [q2]; exact Tm.put_same e7
            have q4:(Tm.put (Tm.put (Tm.put (Tm.put (Tm.put tm 1 (.ptr dA eJ)) 4 (.sl eg)) 6 (.int .i64 cT)) 7 (.int .i64 ch)) 8 (.int .i64 cu)) = tm:=by rw [q3]; exact Tm.put_same e8
            have q5:(Tm.put (Tm.put (Tm.put (Tm.put (Tm.put (Tm.put tm 1 (.ptr dA eJ)) 4 (.sl eg)) 6 (.int .i64 cT)) 7 (.int .i64 ch)) 8 (.int .i64 cu)) 9 (.int .i64 cL)) = tm:=by rw [q4]; exact Tm.put_same e9
            rw [← q5]
            exact Eq.trans (by kernel_rfl) h
           ·exact loops_none (by kernel_rfl)
        ·exact loops_none (by kernel_rfl)
    ·refine LoopsOk.seq ?_ ?_
     ·exact loops_none (by kernel_rfl)
     ·refine LoopsOk.seq ?_ ?_
      ·exact loops_none (by kernel_rfl)
      ·refine LoopsOk.seq ?_ ?_
       ·refine LoopsOk.seq ?_ ?_
        ·exact loops_none (by kernel_rfl)
        ·refine LoopsOk.block ?_
         refine LoopsOk.loop (fun tm H=>?_) (fun k509 tm H r h0=>?_) (fun k509=>?_)
         ·refine none_of fun r h0=>?_
          obtain ⟨dE,eQ,eI,eY,cF,cC,hks,e1,e4,e10,e11,e12,h⟩:=ad.lh509_inv (show ad.lh509 F [] 0 tm H = some r from h0)
          cases h
         ·obtain ⟨dE,eQ,eI,eY,cF,cC,hks,e1,e4,e10,e11,e12,h⟩:=ad.lh509_inv (show ad.lh509 F [] (k509 + 1) tm H = some r from h0)
          have q0:(Tm.put tm 1 (.ptr dE eQ)) = tm:=by exact Tm.put_same e1
          have q1:(Tm.put (Tm.put tm 1 (.ptr dE eQ)) 4 (.sl eI)) = tm:=by rw [q0]; exact Tm.put_same e4
          have q2:(Tm.put (Tm.put (Tm.put tm 1 (.ptr dE eQ)) 4 (.sl eI)) 10 (.sl eY)) = tm:=by rw [q1]; exact Tm.put_same e10
          have q3:(Tm.put (Tm.put (Tm.put (Tm.put tm 1 (.ptr dE eQ)) 4 (.sl eI)) 10 (.sl eY)) 11 (.int .i64 cF)) = tm:=by rw [q2]; exact Tm.put_same e11
          have q4:(Tm.put (Tm.put (Tm.put (Tm.put (Tm.put tm 1 (.ptr dE eQ)) 4 (.sl eI)) 10 (.sl eY)) 11 (.int .i64 cF)) 12 (.int .i64 cC)) = tm:=by rw [q3]; exact Tm.put_same e12
          rw [← q4]
          exact Eq.trans (by kernel_rfl) h
         ·exact loops_none (by kernel_rfl)
       ·exact loops_none (by kernel_rfl)
theorem ad.eqX (F:Nat) (aa:Sl) (ab:Int) (H:Hp):aCode tabs (mkOrc (ad.cs F)) ad.pn (ad.lh F) F [] 1 ad.code (argTm [(.agg [(.sl aa),(.int .i64 ab)])]) H (fun tm H=>aresults tabs.ty H tm Try.f59.results.toList fun v=>some (v,H)) (fun _ _ _=>none) (fun tm H=>aresults tabs.ty H tm Try.f59.results.toList fun v=>some (v,H)) = ad.twX F aa ab H:=by kernel_rfl
theorem ad.cs_ok (F:Nat):∀ p ∈ ad.cs F,∀ args H v H',p.2 args H = some (v,H')→Go.AE.T Try.prog p.1 args H v H':=by
 intro p hp
 exact absurd (show p ∈ [] from hp) List.not_mem_nil
theorem ad.ok:codeOk ad.pn Try.f59.ntmps ad.tb ad.code = true:=by kernel_rfl
theorem ad.T {F:Nat} {aa:Sl} {ab:Int} {H:Hp} {v:AV} {H':Hp} (h:ad.tw F aa ab H = some (v,H')):Go.AE.T Try.prog 59 [(.agg [(.sl aa),(.int .i64 ab)])] H v H':=
 Go.AE.T.of (Y:=tabs) (C:=mkOrc (ad.cs F)) (PN:=ad.pn) (LH:=ad.lh F) (F:=F) (TB:=ad.tb) (fn:=Try.f59) (code:=ad.code) mixed tabs_ok (mkOrc_ok (ad.cs_ok F)) Try.func59 (by kernel_rfl) (by kernel_rfl) ad.ok (Nat.le_of_ble_eq_true (by kernel_rfl)) (ad.loops F) (Eq.trans (ad.eqX F aa ab H) h)
theorem ad.mk_T {F:Nat} {args:List AV} {H:Hp} {v:AV} {H':Hp} (h:ad.mk (ad.tw F) args H = some (v,H')):Go.AE.T Try.prog 59 args H v H':=by
 unfold ad.mk at h
 split at h
 ·exact ad.T h
 ·cases h
noncomputable def bo.twX (F:Nat) (fQ:Sl→Int→Hp→OA) (fR:Sl→Int→Hp→OA) (aa:Sl) (ab:Int) (H:Hp):OA:=(Hp.new H [(.sl aa),(.int .i64 ab)]).bind fun H3=>(Hp.ldSl H3 H.length 0).bind fun s4=>(Hp.ldI H3 .i64 H.length (0 + 1)).bind fun n5=>(fQ s4 n5 H3).bind fun r6=>((r6.1).asB).bind fun b7=>(bif (!b7) then ((Hp.new r6.2 []).bind fun H8=>some ((.tup [(.sl (⟨some (r6.2.length,0),0,.ex 0⟩:Sl)),(.int .i64 (-1))]),H8)) else ((Hp.ldSl r6.2 H.length 0).bind fun s9=>(Hp.ldI r6.2 .i64 H.length (0 + 1)).bind fun n10=>(fR s9 n10 r6.2).bind fun r11=>((r11.1).asTup 2).bind fun l12=>(l12[0]?).bind fun v13=>((v13).asSl).bind fun s14=>(l12[1]?).bind fun v15=>((v15).asI .i64).bind fun n16=>some ((.tup [(.sl s14),(.int .i64 n16)]),r11.2)))
noncomputable def bo.tw (F:Nat) (aa:Sl) (ab:Int) (H:Hp):OA:=bo.twX F (bk.tw F) (ad.tw F) aa ab H
noncomputable def bo.code:Go.Code:=(Try.f16.body).getD .skip
noncomputable def bo.lh (F:Nat) (fQ:Sl→Int→Hp→OA) (fR:Sl→Int→Hp→OA) (p:Nat) (ks:List Nat) (n:Nat) (tm:Tm) (H:Hp):OA:=none
def bo.pn:Nat→List Nat:=fun i=>(([]:List (Nat×List Nat)).lookup i).getD []
def bo.tb:Nat→List (List Nat):=fun i=>(([]:List (Nat×List (List Nat))).lookup i).getD []
noncomputable def bo.mk (g:Sl→Int→Hp→OA) (args:List AV) (H:Hp):OA:=match args with
 | [(.agg [(.sl aa),(.int .i64 ab)])]=>g aa ab H
 | _=>none
noncomputable def bo.cs (F:Nat) (fQ:Sl→Int→Hp→OA) (fR:Sl→Int→Hp→OA):List (FuncId×(List AV→Hp→OA)):=[(50,bk.mk fQ),(59,ad.mk fR)]
theorem bo.loops (F:Nat) (fQ:Sl→Int→Hp→OA) (fR:Sl→Int→Hp→OA):LoopsOk tabs (mkOrc (bo.cs F fQ fR)) bo.pn (bo.lh F fQ fR) F [] 1 bo.code (fun tm H=>aresults tabs.ty H tm Try.f16.results.toList fun v=>some (v,H)) (fun _ _ _=>none) (fun tm H=>aresults tabs.ty H tm Try.f16.results.toList fun v=>some (v,H)):=by
 exact loops_none (by kernel_rfl)
theorem bo.eqX (F:Nat) (fQ:Sl→Int→Hp→OA) (fR:Sl→Int→Hp→OA) (aa:Sl) (ab:Int) (H:Hp):aCode tabs (mkOrc (bo.cs F fQ fR)) bo.pn (bo.lh F fQ fR) F [] 1 bo.code (argTm [(.agg [(.sl aa),(.int .i64 ab)])]) H (fun tm H=>aresults tabs.ty H tm Try.f16.results.toList fun v=>some (v,H)) (fun _ _ _=>none) (fun tm H=>aresults tabs.ty H tm Try.f16.results.toList fun v=>some (v,H)) = bo.twX F fQ fR aa ab H:=by kernel_rfl
theorem bo.cs_ok (F:Nat):∀ p ∈ bo.cs F (bk.tw F) (ad.tw F),∀ args H v H',p.2 args H = some (v,H')→Go.AE.T Try.prog p.1 args H v H':=by
 intro p hp
 simp only [bo.cs,List.mem_cons,List.not_mem_nil,or_false] at hp
 rcases hp with rfl | rfl
 ·exact fun args H v H' h=>bk.mk_T h
 ·exact fun args H v H' h=>ad.mk_T h
theorem bo.ok:codeOk bo.pn Try.f16.ntmps bo.tb bo.code = true:=by kernel_rfl
theorem bo.T {F:Nat} {aa:Sl} {ab:Int} {H:Hp} {v:AV} {H':Hp} (h:bo.tw F aa ab H = some (v,H')):Go.AE.T Try.prog 16 [(.agg [(.sl aa),(.int .i64 ab)])] H v H':=
 Go.AE.T.of (Y:=tabs) (C:=mkOrc (bo.cs F (bk.tw F) (ad.tw F))) (PN:=bo.pn) (LH:=bo.lh F (bk.tw F) (ad.tw F)) (F:=F) (TB:=bo.tb) (fn:=Try.f16) (code:=bo.code) mixed tabs_ok (mkOrc_ok (bo.cs_ok F)) Try.func16 (by kernel_rfl) (by kernel_rfl) bo.ok (Nat.le_of_ble_eq_true (by kernel_rfl)) (bo.loops F (bk.tw F) (ad.tw F)) (Eq.trans (bo.eqX F (bk.tw F) (ad.tw F) aa ab H) h)
theorem bo.mk_T {F:Nat} {args:List AV} {H:Hp} {v:AV} {H':Hp} (h:bo.mk (bo.tw F) args H = some (v,H')):Go.AE.T Try.prog 16 args H v H':=by
 unfold bo.mk at h
 split at h
 ·exact bo.T h
 ·cases h
noncomputable def aP.twX (F:Nat) (aa:Sl) (H:Hp):OA:=some ((.int .i64 (aa.n:Int)),H)
noncomputable def aP.tw (F:Nat) (aa:Sl) (H:Hp):OA:=aP.twX F aa H
noncomputable def aP.code:Go.Code:=(Try.f117.body).getD .skip
noncomputable def aP.lh (F:Nat) (p:Nat) (ks:List Nat) (n:Nat) (tm:Tm) (H:Hp):OA:=none
def aP.pn:Nat→List Nat:=fun i=>(([]:List (Nat×List Nat)).lookup i).getD []
def aP.tb:Nat→List (List Nat):=fun i=>(([]:List (Nat×List (List Nat))).lookup i).getD []
noncomputable def aP.mk (g:Sl→Hp→OA) (args:List AV) (H:Hp):OA:=match args with
 | [(.sl aa)]=>g aa H
 | _=>none
noncomputable def aP.cs (F:Nat):List (FuncId×(List AV→Hp→OA)):=[]
theorem aP.loops (F:Nat):LoopsOk tabs (mkOrc (aP.cs F)) aP.pn (aP.lh F) F [] 1 aP.code (fun tm H=>aresults tabs.ty H tm Try.f117.results.toList fun v=>some (v,H)) (fun _ _ _=>none) (fun tm H=>aresults tabs.ty H tm Try.f117.results.toList fun v=>some (v,H)):=by
 exact loops_none (by kernel_rfl)
theorem aP.eqX (F:Nat) (aa:Sl) (H:Hp):aCode tabs (mkOrc (aP.cs F)) aP.pn (aP.lh F) F [] 1 aP.code (argTm [(.sl aa)]) H (fun tm H=>aresults tabs.ty H tm Try.f117.results.toList fun v=>some (v,H)) (fun _ _ _=>none) (fun tm H=>aresults tabs.ty H tm Try.f117.results.toList fun v=>some (v,H)) = aP.twX F aa H:=by kernel_rfl
theorem aP.cs_ok (F:Nat):∀ p ∈ aP.cs F,∀ args H v H',p.2 args H = some (v,H')→Go.AE.T Try.prog p.1 args H v H':=by
 intro p hp
 exact absurd (show p ∈ [] from hp) List.not_mem_nil
theorem aP.ok:codeOk aP.pn Try.f117.ntmps aP.tb aP.code = true:=by kernel_rfl
theorem aP.T {F:Nat} {aa:Sl} {H:Hp} {v:AV} {H':Hp} (h:aP.tw F aa H = some (v,H')):Go.AE.T Try.prog 117 [(.sl aa)] H v H':=
 Go.AE.T.of (Y:=tabs) (C:=mkOrc (aP.cs F)) (PN:=aP.pn) (LH:=aP.lh F) (F:=F) (TB:=aP.tb) (fn:=Try.f117) (code:=aP.code) mixed tabs_ok (mkOrc_ok (aP.cs_ok F)) Try.func117 (by kernel_rfl) (by kernel_rfl) aP.ok (Nat.le_of_ble_eq_true (by kernel_rfl)) (aP.loops F) (Eq.trans (aP.eqX F aa H) h)
theorem aP.mk_T {F:Nat} {args:List AV} {H:Hp} {v:AV} {H':Hp} (h:aP.mk (aP.tw F) args H = some (v,H')):Go.AE.T Try.prog 117 args H v H':=by
 unfold aP.mk at h
 split at h
 ·exact aP.T h
 ·cases h
noncomputable def ba.twX (F:Nat) (aa:Int) (ae:Int) (bC:Int) (H:Hp):OA:=(bif (decide (ae ≤ aa)) then (some ((.bool (decide (aa ≤ bC))),H)) else (some ((.bool false),H)))
noncomputable def ba.tw (F:Nat) (aa:Int) (ae:Int) (bC:Int) (H:Hp):OA:=ba.twX F aa ae bC H
noncomputable def ba.code:Go.Code:=(Try.f81.body).getD .skip
noncomputable def ba.lh (F:Nat) (p:Nat) (ks:List Nat) (n:Nat) (tm:Tm) (H:Hp):OA:=none
def ba.pn:Nat→List Nat:=fun i=>(([]:List (Nat×List Nat)).lookup i).getD []
def ba.tb:Nat→List (List Nat):=fun i=>(([]:List (Nat×List (List Nat))).lookup i).getD []
noncomputable def ba.mk (g:Int→Int→Int→Hp→OA) (args:List AV) (H:Hp):OA:=match args with
 | [(.int .i64 aa),(.int .i64 ae),(.int .i64 bC)]=>g aa ae bC H
 | _=>none
noncomputable def ba.cs (F:Nat):List (FuncId×(List AV→Hp→OA)):=[]
theorem ba.loops (F:Nat):LoopsOk tabs (mkOrc (ba.cs F)) ba.pn (ba.lh F) F [] 1 ba.code (fun tm H=>aresults tabs.ty H tm Try.f81.results.toList fun v=>some (v,H)) (fun _ _ _=>none) (fun tm H=>aresults tabs.ty H tm Try.f81.results.toList fun v=>some (v,H)):=by
 exact loops_none (by kernel_rfl)
theorem ba.eqX (F:Nat) (aa:Int) (ae:Int) (bC:Int) (H:Hp):aCode tabs (mkOrc (ba.cs F)) ba.pn (ba.lh F) F [] 1 ba.code (argTm [(.int .i64 aa),(.int .i64 ae),(.int .i64 bC)]) H (fun tm H=>aresults tabs.ty H tm Try.f81.results.toList fun v=>some (v,H)) (fun _ _ _=>none) (fun tm H=>aresults tabs.ty H tm Try.f81.results.toList fun v=>some (v,H)) = ba.twX F aa ae bC H:=by kernel_rfl
theorem ba.cs_ok (F:Nat):∀ p ∈ ba.cs F,∀ args H v H',p.2 args H = some (v,H')→Go.AE.T Try.prog p.1 args H v H':=by
 intro p hp
 exact absurd (show p ∈ [] from hp) List.not_mem_nil
theorem ba.ok:codeOk ba.pn Try.f81.ntmps ba.tb ba.code = true:=by kernel_rfl
theorem ba.T {F:Nat} {aa:Int} {ae:Int} {bC:Int} {H:Hp} {v:AV} {H':Hp} (h:ba.tw F aa ae bC H = some (v,H')):Go.AE.T Try.prog 81 [(.int .i64 aa),(.int .i64 ae),(.int .i64 bC)] H v H':=
 Go.AE.T.of (Y:=tabs) (C:=mkOrc (ba.cs F)) (PN:=ba.pn) (LH:=ba.lh F) (F:=F) (TB:=ba.tb) (fn:=Try.f81) (code:=ba.code) mixed tabs_ok (mkOrc_ok (ba.cs_ok F)) Try.func81 (by kernel_rfl) (by kernel_rfl) ba.ok (Nat.le_of_ble_eq_true (by kernel_rfl)) (ba.loops F) (Eq.trans (ba.eqX F aa ae bC H) h)
theorem ba.mk_T {F:Nat} {args:List AV} {H:Hp} {v:AV} {H':Hp} (h:ba.mk (ba.tw F) args H = some (v,H')):Go.AE.T Try.prog 81 args H v H':=by
 unfold ba.mk at h
 split at h
 ·exact ba.T h
 ·cases h
noncomputable def bu.twX (F:Nat) (aa:Int) (ab:Int) (aw:Int) (ax:Int) (au:Int) (H:Hp):OA:=(Hp.new H [(.int .i64 aa),(.int .i64 ab),(.int .i64 aw),(.int .i64 ax),(.int .i64 au)]).bind fun H6=>(Hp.ldI H6 .i64 H.length 4).bind fun n7=>(bif (n7 != 1) then ((Hp.ldI H6 .i64 H.length 4).bind fun n8=>some ((.bool (n8 != (-1))),H6)) else (some ((.bool false),H6)))
noncomputable def bu.tw (F:Nat) (aa:Int) (ab:Int) (aw:Int) (ax:Int) (au:Int) (H:Hp):OA:=bu.twX F aa ab aw ax au H
noncomputable def bu.code:Go.Code:=(Try.f124.body).getD .skip
noncomputable def bu.lh (F:Nat) (p:Nat) (ks:List Nat) (n:Nat) (tm:Tm) (H:Hp):OA:=none
def bu.pn:Nat→List Nat:=fun i=>(([]:List (Nat×List Nat)).lookup i).getD []
def bu.tb:Nat→List (List Nat):=fun i=>(([]:List (Nat×List (List Nat))).lookup i).getD []
noncomputable def bu.mk (g:Int→Int→Int→Int→Int→Hp→OA) (args:List AV) (H:Hp):OA:=match args with
 | [(.agg [(.int .i64 aa),(.int .i64 ab),(.int .i64 aw),(.int .i64 ax),(.int .i64 au)])]=>g aa ab aw ax au H
 | _=>none
noncomputable def bu.cs (F:Nat):List (FuncId×(List AV→Hp→OA)):=[]
theorem bu.loops (F:Nat):LoopsOk tabs (mkOrc (bu.cs F)) bu.pn (bu.lh F) F [] 1 bu.code (fun tm H=>aresults tabs.ty H tm Try.f124.results.toList fun v=>some (v,H)) (fun _ _ _=>none) (fun tm H=>aresults tabs.ty H tm Try.f124.results.toList fun v=>some (v,H)):=by
 exact loops_none (by kernel_rfl)
theorem bu.eqX (F:Nat) (aa:Int) (ab:Int) (aw:Int) (ax:Int) (au:Int) (H:Hp):aCode tabs (mkOrc (bu.cs F)) bu.pn (bu.lh F) F [] 1 bu.code (argTm [(.agg [(.int .i64 aa),(.int .i64 ab),(.int .i64 aw),(.int .i64 ax),(.int .i64 au)])]) H (fun tm H=>aresults tabs.ty H tm Try.f124.results.toList fun v=>some (v,H)) (fun _ _ _=>none) (fun tm H=>aresults tabs.ty H tm Try.f124.results.toList fun v=>some (v,H)) = bu.twX F aa ab aw ax au H:=by kernel_rfl
theorem bu.cs_ok (F:Nat):∀ p ∈ bu.cs F,∀ args H v H',p.2 args H = some (v,H')→Go.AE.T Try.prog p.1 args H v H':=by
 intro p hp
 exact absurd (show p ∈ [] from hp) List.not_mem_nil
theorem bu.ok:codeOk bu.pn Try.f124.ntmps bu.tb bu.code = true:=by kernel_rfl
theorem bu.T {F:Nat} {aa:Int} {ab:Int} {aw:Int} {ax:Int} {au:Int} {H:Hp} {v:AV} {H':Hp} (h:bu.tw F aa ab aw ax au H = some (v,H')):Go.AE.T Try.prog 124 [(.agg [(.int .i64 aa),(.int .i64 ab),(.int .i64 aw),(.int .i64 ax),(.int .i64 au)])] H v H':=
 Go.AE.T.of (Y:=tabs) (C:=mkOrc (bu.cs F)) (PN:=bu.pn) (LH:=bu.lh F) (F:=F) (TB:=bu.tb) (fn:=Try.f124) (code:=bu.code) mixed tabs_ok (mkOrc_ok (bu.cs_ok F)) Try.func124 (by kernel_rfl) (by kernel_rfl) bu.ok (Nat.le_of_ble_eq_true (by kernel_rfl)) (bu.loops F) (Eq.trans (bu.eqX F aa ab aw ax au H) h)
theorem bu.mk_T {F:Nat} {args:List AV} {H:Hp} {v:AV} {H':Hp} (h:bu.mk (bu.tw F) args H = some (v,H')):Go.AE.T Try.prog 124 args H v H':=by
 unfold bu.mk at h
 split at h
 ·exact bu.T h
 ·cases h
noncomputable def aI.l13 (F:Nat) (dl:Int→Int→Int→Int→Int→Hp→OA) :Nat→Sl→Int→Int→Hp→OA
 | 0,_,_,_,_=>none
 | eu + 1,fi,dM,dm,H6=>(bif (decide (dm < dM)) then ((Sl.idx fi dm 5).bind fun p15=>(Hp.ldI H6 .i64 p15.1 p15.2).bind fun n16=>(Hp.ldI H6 .i64 p15.1 (p15.2 + 1)).bind fun n17=>(Hp.ldI H6 .i64 p15.1 (p15.2 + 2)).bind fun n18=>(Hp.ldI H6 .i64 p15.1 (p15.2 + 3)).bind fun n19=>(Hp.ldI H6 .i64 p15.1 (p15.2 + 4)).bind fun n20=>(dl n16 n17 n18 n19 n20 H6).bind fun r21=>((r21.1).asB).bind fun b22=>(bif b22 then (some ((.int .i64 dm),r21.2)) else (aI.l13 F dl eu fi dM (IntKind.i64.wrap (dm + 1)) r21.2))) else (some ((.int .i64 (-1)),H6)))
termination_by structural n=>n
noncomputable def aI.twX (F:Nat) (dl:Int→Int→Int→Int→Int→Hp→OA) (aa:Sl) (H:Hp):OA:=aI.l13 F dl F aa (aa.n:Int) 0 H
noncomputable def aI.tw (F:Nat) (aa:Sl) (H:Hp):OA:=aI.twX F (bu.tw F) aa H
noncomputable def aI.code:Go.Code:=(Try.f153.body).getD .skip
noncomputable def aI.lh13 (F:Nat) (dl:Int→Int→Int→Int→Int→Hp→OA) (ks:List Nat) (n:Nat) (tm:Tm) (H:Hp):OA:=match ks,tm 0,tm 1,tm 7,tm 8 with
 | [],(.sl fi),(.fn 124 []),(.int .i64 dM),(.int .i64 dm)=>aI.l13 F dl n fi dM dm H
 | _,_,_,_,_=>none
theorem aI.lh13_inv {F:Nat} {dl:Int→Int→Int→Int→Int→Hp→OA} {ks:List Nat} {n:Nat} {tm:Tm} {H:Hp} {r:AV×Hp} (h:aI.lh13 F dl ks n tm H = some r):∃ fi:Sl,∃ dM:Int,∃ dm:Int,ks = []∧tm 0 = (.sl fi)∧tm 1 = (.fn 124 [])∧tm 7 = (.int .i64 dM)∧tm 8 = (.int .i64 dm)∧aI.l13 F dl n fi dM dm H = some r:=by
 unfold aI.lh13 at h
 split at h
 ·exact ⟨_,_,_,rfl,by assumption,by assumption,by assumption,by assumption,h⟩
 ·cases h
noncomputable def aI.lh (F:Nat) (dl:Int→Int→Int→Int→Int→Hp→OA) (p:Nat) (ks:List Nat) (n:Nat) (tm:Tm) (H:Hp):OA:=bif p.beq 13 then aI.lh13 F dl ks n tm H else (none)
def aI.pn:Nat→List Nat:=fun i=>(([]:List (Nat×List Nat)).lookup i).getD []
def aI.tb:Nat→List (List Nat):=fun i=>(([]:List (Nat×List (List Nat))).lookup i).getD []
noncomputable def aI.mk (g:Sl→Hp→OA) (args:List AV) (H:Hp):OA:=match args with
 | [(.sl aa),(.fn 124 [])]=>g aa H
 | _=>none
noncomputable def aI.cs (F:Nat) (dl:Int→Int→Int→Int→Int→Hp→OA):List (FuncId×(List AV→Hp→OA)):=[(124,bu.mk dl)]
theorem aI.loops (F:Nat) (dl:Int→Int→Int→Int→Int→Hp→OA):LoopsOk tabs (mkOrc (aI.cs F dl)) aI.pn (aI.lh F dl) F [] 1 aI.code (fun tm H=>aresults tabs.ty H tm Try.f153.results.toList fun v=>some (v,H)) (fun _ _ _=>none) (fun tm H=>aresults tabs.ty H tm Try.f153.results.toList fun v=>some (v,H)):=by
 refine LoopsOk.seq ?_ ?_
 ·exact loops_none (by kernel_rfl)
 ·refine LoopsOk.seq ?_ ?_
  ·refine LoopsOk.seq ?_ ?_
   ·exact loops_none (by kernel_rfl)
   ·refine LoopsOk.block ?_
    refine LoopsOk.loop (fun tm H=>?_) (fun k13 tm H r h0=>?_) (fun k13=>?_)
    ·refine none_of fun r h0=>?_
     obtain ⟨fi,dM,dm,hks,e0,e1,e7,e8,h⟩:=aI.lh13_inv (show aI.lh13 F dl [] 0 tm H = some r from h0)
     cases h
    ·obtain ⟨fi,dM,dm,hks,e0,e1,e7,e8,h⟩:=aI.lh13_inv (show aI.lh13 F dl [] (k13 + 1) tm H = some r from h0)
     have q0:(Tm.put tm 0 (.sl fi)) = tm:=by exact Tm.put_same e0
     have q1:(Tm.put (Tm.put tm 0 (.sl fi)) 1 (.fn 124 [])) = tm:=by rw [q0]; exact Tm.put_same e1
     have q2:(Tm.put (Tm.put (Tm.put tm 0 (.sl fi)) 1 (.fn 124 [])) 7 (.int .i64 dM)) = tm:=by rw [q1]; exact Tm.put_same e7
     have q3:(Tm.put (Tm.put (Tm.put (Tm.put tm 0 (.sl fi)) 1 (.fn 124 [])) 7 (.int .i64 dM)) 8 (.int .i64 dm)) = tm:=by rw [q2]; exact Tm.put_same e8
     rw [← q3]
     exact Eq.trans (by kernel_rfl) h
    ·exact loops_none (by kernel_rfl)
  ·exact loops_none (by kernel_rfl)
theorem aI.eqX (F:Nat) (dl:Int→Int→Int→Int→Int→Hp→OA) (aa:Sl) (H:Hp):aCode tabs (mkOrc (aI.cs F dl)) aI.pn (aI.lh F dl) F [] 1 aI.code (argTm [(.sl aa),(.fn 124 [])]) H (fun tm H=>aresults tabs.ty H tm Try.f153.results.toList fun v=>some (v,H)) (fun _ _ _=>none) (fun tm H=>aresults tabs.ty H tm Try.f153.results.toList fun v=>some (v,H)) = aI.twX F dl aa H:=by kernel_rfl
theorem aI.cs_ok (F:Nat):∀ p ∈ aI.cs F (bu.tw F),∀ args H v H',p.2 args H = some (v,H')→Go.AE.T Try.prog p.1 args H v H':=by
 intro p hp
 simp only [aI.cs,List.mem_cons,List.not_mem_nil,or_false] at hp
 subst hp
 exact fun args H v H' h=>bu.mk_T h
theorem aI.ok:codeOk aI.pn Try.f153.ntmps aI.tb aI.code = true:=by kernel_rfl
theorem aI.T {F:Nat} {aa:Sl} {H:Hp} {v:AV} {H':Hp} (h:aI.tw F aa H = some (v,H')):Go.AE.T Try.prog 153 [(.sl aa),(.fn 124 [])] H v H':=
 Go.AE.T.of (Y:=tabs) (C:=mkOrc (aI.cs F (bu.tw F))) (PN:=aI.pn) (LH:=aI.lh F (bu.tw F)) (F:=F) (TB:=aI.tb) (fn:=Try.f153) (code:=aI.code) mixed tabs_ok (mkOrc_ok (aI.cs_ok F)) Try.func153 (by kernel_rfl) (by kernel_rfl) aI.ok (Nat.le_of_ble_eq_true (by kernel_rfl)) (aI.loops F (bu.tw F)) (Eq.trans (aI.eqX F (bu.tw F) aa H) h)
theorem aI.mk_T {F:Nat} {args:List AV} {H:Hp} {v:AV} {H':Hp} (h:aI.mk (aI.tw F) args H = some (v,H')):Go.AE.T Try.prog 153 args H v H':=by
 unfold aI.mk at h
 split at h
 ·exact aI.T h
 ·cases h
noncomputable def bp.twX (F:Nat) (fS:Sl→Hp→OA) (aa:Sl) (H:Hp):OA:=(fS aa H).bind fun r2=>((r2.1).asI .i64).bind fun n3=>some ((.bool (decide (n3 ≥ 0))),r2.2)
noncomputable def bp.tw (F:Nat) (aa:Sl) (H:Hp):OA:=bp.twX F (aI.tw F) aa H
noncomputable def bp.code:Go.Code:=(Try.f123.body).getD .skip
noncomputable def bp.lh (F:Nat) (fS:Sl→Hp→OA) (p:Nat) (ks:List Nat) (n:Nat) (tm:Tm) (H:Hp):OA:=none
def bp.pn:Nat→List Nat:=fun i=>(([]:List (Nat×List Nat)).lookup i).getD []
def bp.tb:Nat→List (List Nat):=fun i=>(([]:List (Nat×List (List Nat))).lookup i).getD []
noncomputable def bp.mk (g:Sl→Hp→OA) (args:List AV) (H:Hp):OA:=match args with
 | [(.sl aa),(.fn 124 [])]=>g aa H
 | _=>none
noncomputable def bp.cs (F:Nat) (fS:Sl→Hp→OA):List (FuncId×(List AV→Hp→OA)):=[(153,aI.mk fS)]
theorem bp.loops (F:Nat) (fS:Sl→Hp→OA):LoopsOk tabs (mkOrc (bp.cs F fS)) bp.pn (bp.lh F fS) F [] 1 bp.code (fun tm H=>aresults tabs.ty H tm Try.f123.results.toList fun v=>some (v,H)) (fun _ _ _=>none) (fun tm H=>aresults tabs.ty H tm Try.f123.results.toList fun v=>some (v,H)):=by
 exact loops_none (by kernel_rfl)
theorem bp.eqX (F:Nat) (fS:Sl→Hp→OA) (aa:Sl) (H:Hp):aCode tabs (mkOrc (bp.cs F fS)) bp.pn (bp.lh F fS) F [] 1 bp.code (argTm [(.sl aa),(.fn 124 [])]) H (fun tm H=>aresults tabs.ty H tm Try.f123.results.toList fun v=>some (v,H)) (fun _ _ _=>none) (fun tm H=>aresults tabs.ty H tm Try.f123.results.toList fun v=>some (v,H)) = bp.twX F fS aa H:=by kernel_rfl
theorem bp.cs_ok (F:Nat):∀ p ∈ bp.cs F (aI.tw F),∀ args H v H',p.2 args H = some (v,H')→Go.AE.T Try.prog p.1 args H v H':=by
 intro p hp
 simp only [bp.cs,List.mem_cons,List.not_mem_nil,or_false] at hp
 subst hp
 exact fun args H v H' h=>aI.mk_T h
theorem bp.ok:codeOk bp.pn Try.f123.ntmps bp.tb bp.code = true:=by kernel_rfl
theorem bp.T {F:Nat} {aa:Sl} {H:Hp} {v:AV} {H':Hp} (h:bp.tw F aa H = some (v,H')):Go.AE.T Try.prog 123 [(.sl aa),(.fn 124 [])] H v H':=
 Go.AE.T.of (Y:=tabs) (C:=mkOrc (bp.cs F (aI.tw F))) (PN:=bp.pn) (LH:=bp.lh F (aI.tw F)) (F:=F) (TB:=bp.tb) (fn:=Try.f123) (code:=bp.code) mixed tabs_ok (mkOrc_ok (bp.cs_ok F)) Try.func123 (by kernel_rfl) (by kernel_rfl) bp.ok (Nat.le_of_ble_eq_true (by kernel_rfl)) (bp.loops F (aI.tw F)) (Eq.trans (bp.eqX F (aI.tw F) aa H) h)
theorem bp.mk_T {F:Nat} {args:List AV} {H:Hp} {v:AV} {H':Hp} (h:bp.mk (bp.tw F) args H = some (v,H')):Go.AE.T Try.prog 123 args H v H':=by
 unfold bp.mk at h
 split at h
 ·exact bp.T h
 ·cases h
noncomputable def bits_Mul64.twX (F:Nat) (aa:Int) (ae:Int) (H:Hp):OA:=some ((.tup [(.int .u64 (IntKind.u64.wrap ((IntKind.u64.wrap ((IntKind.u64.wrap ((Int.fdiv aa (2 ^ (min (32:Int).toNat (IntKind.u64).bits))) * (Int.fdiv ae (2 ^ (min (32:Int).toNat (IntKind.u64).bits))))) + (Int.fdiv (IntKind.u64.wrap ((IntKind.u64.wrap ((Int.fdiv aa (2 ^ (min (32:Int).toNat (IntKind.u64).bits))) * (Go.bits .and .u64 ae 4294967295))) + (Int.fdiv (IntKind.u64.wrap ((Go.bits .and .u64 aa 4294967295) * (Go.bits .and .u64 ae 4294967295))) (2 ^ (min (32:Int).toNat (IntKind.u64).bits))))) (2 ^ (min (32:Int).toNat (IntKind.u64).bits))))) + (Int.fdiv (IntKind.u64.wrap ((Go.bits .and .u64 (IntKind.u64.wrap ((IntKind.u64.wrap ((Int.fdiv aa (2 ^ (min (32:Int).toNat (IntKind.u64).bits))) * (Go.bits .and .u64 ae 4294967295))) + (Int.fdiv (IntKind.u64.wrap ((Go.bits .and .u64 aa 4294967295) * (Go.bits .and .u64 ae 4294967295))) (2 ^ (min (32:Int).toNat (IntKind.u64).bits))))) 4294967295) + (IntKind.u64.wrap ((Go.bits .and .u64 aa 4294967295) * (Int.fdiv ae (2 ^ (min (32:Int).toNat (IntKind.u64).bits))))))) (2 ^ (min (32:Int).toNat (IntKind.u64).bits)))))),(.int .u64 (IntKind.u64.wrap (aa * ae)))]),H)
noncomputable def bits_Mul64.tw (F:Nat) (aa:Int) (ae:Int) (H:Hp):OA:=bits_Mul64.twX F aa ae H
noncomputable def bits_Mul64.code:Go.Code:=(Try.f172.body).getD .skip
noncomputable def bits_Mul64.lh (F:Nat) (p:Nat) (ks:List Nat) (n:Nat) (tm:Tm) (H:Hp):OA:=none
def bits_Mul64.pn:Nat→List Nat:=fun i=>(([]:List (Nat×List Nat)).lookup i).getD []
def bits_Mul64.tb:Nat→List (List Nat):=fun i=>(([]:List (Nat×List (List Nat))).lookup i).getD []
noncomputable def bits_Mul64.mk (g:Int→Int→Hp→OA) (args:List AV) (H:Hp):OA:=match args with
 | [(.int .u64 aa),(.int .u64 ae)]=>g aa ae H
 | _=>none
noncomputable def bits_Mul64.cs (F:Nat):List (FuncId×(List AV→Hp→OA)):=[]
theorem bits_Mul64.loops (F:Nat):LoopsOk tabs (mkOrc (bits_Mul64.cs F)) bits_Mul64.pn (bits_Mul64.lh F) F [] 1 bits_Mul64.code (fun tm H=>aresults tabs.ty H tm Try.f172.results.toList fun v=>some (v,H)) (fun _ _ _=>none) (fun tm H=>aresults tabs.ty H tm Try.f172.results.toList fun v=>some (v,H)):=by
 exact loops_none (by kernel_rfl)
theorem bits_Mul64.eqX (F:Nat) (aa:Int) (ae:Int) (H:Hp):aCode tabs (mkOrc (bits_Mul64.cs F)) bits_Mul64.pn (bits_Mul64.lh F) F [] 1 bits_Mul64.code (argTm [(.int .u64 aa),(.int .u64 ae)]) H (fun tm H=>aresults tabs.ty H tm Try.f172.results.toList fun v=>some (v,H)) (fun _ _ _=>none) (fun tm H=>aresults tabs.ty H tm Try.f172.results.toList fun v=>some (v,H)) = bits_Mul64.twX F aa ae H:=by kernel_rfl
theorem bits_Mul64.cs_ok (F:Nat):∀ p ∈ bits_Mul64.cs F,∀ args H v H',p.2 args H = some (v,H')→Go.AE.T Try.prog p.1 args H v H':=by
 intro p hp
 exact absurd (show p ∈ [] from hp) List.not_mem_nil
theorem bits_Mul64.ok:codeOk bits_Mul64.pn Try.f172.ntmps bits_Mul64.tb bits_Mul64.code = true:=by kernel_rfl
theorem bits_Mul64.T {F:Nat} {aa:Int} {ae:Int} {H:Hp} {v:AV} {H':Hp} (h:bits_Mul64.tw F aa ae H = some (v,H')):Go.AE.T Try.prog 172 [(.int .u64 aa),(.int .u64 ae)] H v H':=
 Go.AE.T.of (Y:=tabs) (C:=mkOrc (bits_Mul64.cs F)) (PN:=bits_Mul64.pn) (LH:=bits_Mul64.lh F) (F:=F) (TB:=bits_Mul64.tb) (fn:=Try.f172) (code:=bits_Mul64.code) mixed tabs_ok (mkOrc_ok (bits_Mul64.cs_ok F)) Try.func172 (by kernel_rfl) (by kernel_rfl) bits_Mul64.ok (Nat.le_of_ble_eq_true (by kernel_rfl)) (bits_Mul64.loops F) (Eq.trans (bits_Mul64.eqX F aa ae H) h)
theorem bits_Mul64.mk_T {F:Nat} {args:List AV} {H:Hp} {v:AV} {H':Hp} (h:bits_Mul64.mk (bits_Mul64.tw F) args H = some (v,H')):Go.AE.T Try.prog 172 args H v H':=by
 unfold bits_Mul64.mk at h
 split at h
 ·exact bits_Mul64.T h
 ·cases h
noncomputable def bits_Mul.twX (F:Nat) (g_bits_Mul64:Int→Int→Hp→OA) (aa:Int) (ae:Int) (H:Hp):OA:=(g_bits_Mul64 aa ae H).bind fun r3=>((r3.1).asTup 2).bind fun l4=>(l4[0]?).bind fun v5=>((v5).asI .u64).bind fun n6=>(l4[1]?).bind fun v7=>((v7).asI .u64).bind fun n8=>some ((.tup [(.int .u64 n6),(.int .u64 n8)]),r3.2)
noncomputable def bits_Mul.tw (F:Nat) (aa:Int) (ae:Int) (H:Hp):OA:=bits_Mul.twX F (bits_Mul64.tw F) aa ae H
noncomputable def bits_Mul.code:Go.Code:=(Try.f158.body).getD .skip
noncomputable def bits_Mul.lh (F:Nat) (g_bits_Mul64:Int→Int→Hp→OA) (p:Nat) (ks:List Nat) (n:Nat) (tm:Tm) (H:Hp):OA:=none
def bits_Mul.pn:Nat→List Nat:=fun i=>(([]:List (Nat×List Nat)).lookup i).getD []
def bits_Mul.tb:Nat→List (List Nat):=fun i=>(([]:List (Nat×List (List Nat))).lookup i).getD []
noncomputable def bits_Mul.mk (g:Int→Int→Hp→OA) (args:List AV) (H:Hp):OA:=match args with
 | [(.int .u64 aa),(.int .u64 ae)]=>g aa ae H
 | _=>none
noncomputable def bits_Mul.cs (F:Nat) (g_bits_Mul64:Int→Int→Hp→OA):List (FuncId×(List AV→Hp→OA)):=[(172,bits_Mul64.mk g_bits_Mul64)]
theorem bits_Mul.loops (F:Nat) (g_bits_Mul64:Int→Int→Hp→OA):LoopsOk tabs (mkOrc (bits_Mul.cs F g_bits_Mul64)) bits_Mul.pn (bits_Mul.lh F g_bits_Mul64) F [] 1 bits_Mul.code (fun tm H=>aresults tabs.ty H tm Try.f158.results.toList fun v=>some (v,H)) (fun _ _ _=>none) (fun tm H=>aresults tabs.ty H tm Try.f158.results.toList fun v=>some (v,H)):=by
 exact loops_none (by kernel_rfl)
theorem bits_Mul.eqX (F:Nat) (g_bits_Mul64:Int→Int→Hp→OA) (aa:Int) (ae:Int) (H:Hp):aCode tabs (mkOrc (bits_Mul.cs F g_bits_Mul64)) bits_Mul.pn (bits_Mul.lh F g_bits_Mul64) F [] 1 bits_Mul.code (argTm [(.int .u64 aa),(.int .u64 ae)]) H (fun tm H=>aresults tabs.ty H tm Try.f158.results.toList fun v=>some (v,H)) (fun _ _ _=>none) (fun tm H=>aresults tabs.ty H tm Try.f158.results.toList fun v=>some (v,H)) = bits_Mul.twX F g_bits_Mul64 aa ae H:=by kernel_rfl
theorem bits_Mul.cs_ok (F:Nat):∀ p ∈ bits_Mul.cs F (bits_Mul64.tw F),∀ args H v H',p.2 args H = some (v,H')→Go.AE.T Try.prog p.1 args H v H':=by
 intro p hp
 simp only [bits_Mul.cs,List.mem_cons,List.not_mem_nil,or_false] at hp
 subst hp
 exact fun args H v H' h=>bits_Mul64.mk_T h
theorem bits_Mul.ok:codeOk bits_Mul.pn Try.f158.ntmps bits_Mul.tb bits_Mul.code = true:=by kernel_rfl
theorem bits_Mul.T {F:Nat} {aa:Int} {ae:Int} {H:Hp} {v:AV} {H':Hp} (h:bits_Mul.tw F aa ae H = some (v,H')):Go.AE.T Try.prog 158 [(.int .u64 aa),(.int .u64 ae)] H v H':=
 Go.AE.T.of (Y:=tabs) (C:=mkOrc (bits_Mul.cs F (bits_Mul64.tw F))) (PN:=bits_Mul.pn) (LH:=bits_Mul.lh F (bits_Mul64.tw F)) (F:=F) (TB:=bits_Mul.tb) (fn:=Try.f158) (code:=bits_Mul.code) mixed tabs_ok (mkOrc_ok (bits_Mul.cs_ok F)) Try.func158 (by kernel_rfl) (by kernel_rfl) bits_Mul.ok (Nat.le_of_ble_eq_true (by kernel_rfl)) (bits_Mul.loops F (bits_Mul64.tw F)) (Eq.trans (bits_Mul.eqX F (bits_Mul64.tw F) aa ae H) h)
theorem bits_Mul.mk_T {F:Nat} {args:List AV} {H:Hp} {v:AV} {H':Hp} (h:bits_Mul.mk (bits_Mul.tw F) args H = some (v,H')):Go.AE.T Try.prog 158 args H v H':=by
 unfold bits_Mul.mk at h
 split at h
 ·exact bits_Mul.T h
 ·cases h
noncomputable def az.l254 (F:Nat) (g_bits_Mul:Int→Int→Hp→OA) :Nat→Sl→Int→Hp→OA
 | 0,_,_,_=>none
 | xc + 1,eS,fz,H33=>(bif (decide (fz < (eS.n:Int))) then ((Sl.cut eS 2 fz (eS.n:Int)).bind fun s37=>(Sl.cut eS 2 0 fz).bind fun s38=>(Hp.cpy H33 2 s37 s38).bind fun c39=>az.l254 F g_bits_Mul xc eS (IntKind.i64.wrap (fz + (c39.1:Int))) c39.2) else (some ((.sl eS),H33)))
termination_by structural n=>n
noncomputable def az.j1 (F:Nat) (g_bits_Mul:Int→Int→Hp→OA) (xd:Sl) (im:Int) (H21:Hp):OA:=(Hp.mk H21 [.int .i64 0,.int .i64 0] 16 (IntKind.i64.wrap im) (IntKind.i64.wrap im)).bind fun m22=>(Hp.cpy m22.2 2 m22.1 xd).bind fun c23=>az.l254 F g_bits_Mul F m22.1 (c23.1:Int) c23.2
noncomputable def az.j2 (F:Nat) (g_bits_Mul:Int→Int→Hp→OA) (rC:Sl) (jf:Int) (H7:Hp):OA:=(g_bits_Mul (IntKind.u64.wrap (rC.n:Int)) (IntKind.u64.wrap jf) H7).bind fun r8=>((r8.1).asTup 2).bind fun l9=>(l9[0]?).bind fun v10=>((v10).asI .u64).bind fun n11=>(l9[1]?).bind fun v12=>((v12).asI .u64).bind fun n13=>(bif (decide (n11 > 0)) then (none) else ((bif (decide (n13 > 9223372036854775807)) then (none) else (az.j1 F g_bits_Mul rC n13 r8.2))))
noncomputable def az.twX (F:Nat) (g_bits_Mul:Int→Int→Hp→OA) (aa:Sl) (ae:Int) (H:Hp):OA:=(bif (decide (ae < 0)) then (none) else (az.j2 F g_bits_Mul aa ae H))
noncomputable def az.tw (F:Nat) (aa:Sl) (ae:Int) (H:Hp):OA:=az.twX F (bits_Mul.tw F) aa ae H
noncomputable def az.code:Go.Code:=(Try.f154.body).getD .skip
noncomputable def az.lh254 (F:Nat) (g_bits_Mul:Int→Int→Hp→OA) (ks:List Nat) (n:Nat) (tm:Tm) (H:Hp):OA:=match ks,tm 7,tm 8 with
 | [],(.sl eS),(.int .i64 fz)=>az.l254 F g_bits_Mul n eS fz H
 | _,_,_=>none
theorem az.lh254_inv {F:Nat} {g_bits_Mul:Int→Int→Hp→OA} {ks:List Nat} {n:Nat} {tm:Tm} {H:Hp} {r:AV×Hp} (h:az.lh254 F g_bits_Mul ks n tm H = some r):∃ eS:Sl,∃ fz:Int,ks = []∧tm 7 = (.sl eS)∧tm 8 = (.int .i64 fz)∧az.l254 F g_bits_Mul n eS fz H = some r:=by
 unfold az.lh254 at h
 split at h
 ·exact ⟨_,_,rfl,by assumption,by assumption,h⟩
 ·cases h
noncomputable def az.lh (F:Nat) (g_bits_Mul:Int→Int→Hp→OA) (p:Nat) (ks:List Nat) (n:Nat) (tm:Tm) (H:Hp):OA:=bif p.beq 254 then az.lh254 F g_bits_Mul ks n tm H else (none)
def az.pn:Nat→List Nat:=fun i=>(([(9,[7])]:List (Nat×List Nat)).lookup i).getD []
def az.tb:Nat→List (List Nat):=fun i=>(([(9,[[],[],[],[1,2],[],[],[4,5],[1,2,3,4,5,6],[0,1,2,3,4,5,6,7],[0,1,2,3,4,5,6,7,8]])]:List (Nat×List (List Nat))).lookup i).getD []
noncomputable def az.mk (g:Sl→Int→Hp→OA) (args:List AV) (H:Hp):OA:=match args with
 | [(.sl aa),(.int .i64 ae)]=>g aa ae H
 | _=>none
noncomputable def az.cs (F:Nat) (g_bits_Mul:Int→Int→Hp→OA):List (FuncId×(List AV→Hp→OA)):=[(158,bits_Mul.mk g_bits_Mul)]
theorem az.loops (F:Nat) (g_bits_Mul:Int→Int→Hp→OA):LoopsOk tabs (mkOrc (az.cs F g_bits_Mul)) az.pn (az.lh F g_bits_Mul) F [] 1 az.code (fun tm H=>aresults tabs.ty H tm Try.f154.results.toList fun v=>some (v,H)) (fun _ _ _=>none) (fun tm H=>aresults tabs.ty H tm Try.f154.results.toList fun v=>some (v,H)):=by
 refine LoopsOk.seq ?_ ?_
 ·exact loops_none (by kernel_rfl)
 ·refine LoopsOk.seq ?_ ?_
  ·exact loops_none (by kernel_rfl)
  ·refine LoopsOk.seq ?_ ?_
   ·exact loops_none (by kernel_rfl)
   ·refine LoopsOk.seq ?_ ?_
    ·exact loops_none (by kernel_rfl)
    ·refine LoopsOk.seq ?_ ?_
     ·exact loops_none (by kernel_rfl)
     ·refine LoopsOk.seq ?_ ?_
      ·exact loops_none (by kernel_rfl)
      ·refine LoopsOk.seq ?_ ?_
       ·refine LoopsOk.block ?_
        refine LoopsOk.loop (fun tm H=>?_) (fun k254 tm H r h0=>?_) (fun k254=>?_)
        ·refine none_of fun r h0=>?_
         obtain ⟨eS,fz,hks,e7,e8,h⟩:=az.lh254_inv (show az.lh254 F g_bits_Mul [] 0 tm H = some r from h0)
         cases h
        ·obtain ⟨eS,fz,hks,e7,e8,h⟩:=az.lh254_inv (show az.lh254 F g_bits_Mul [] (k254 + 1) tm H = some r from h0)
         have q0:(Tm.put tm 7 (.sl eS)) = tm:=by exact Tm.put_same e7
         have q1:(Tm.put (Tm.put tm 7 (.sl eS)) 8 (.int .i64 fz)) = tm:=by rw [q0]; exact Tm.put_same e8
         rw [← q1]
         exact Eq.trans (by kernel_rfl) h
        ·exact loops_none (by kernel_rfl)
       ·exact loops_none (by kernel_rfl)
theorem az.eqX (F:Nat) (g_bits_Mul:Int→Int→Hp→OA) (aa:Sl) (ae:Int) (H:Hp):aCode tabs (mkOrc (az.cs F g_bits_Mul)) az.pn (az.lh F g_bits_Mul) F [] 1 az.code (argTm [(.sl aa),(.int .i64 ae)]) H (fun tm H=>aresults tabs.ty H tm Try.f154.results.toList fun v=>some (v,H)) (fun _ _ _=>none) (fun tm H=>aresults tabs.ty H tm Try.f154.results.toList fun v=>some (v,H)) = az.twX F g_bits_Mul aa ae H:=by kernel_rfl
theorem az.cs_ok (F:Nat):∀ p ∈ az.cs F (bits_Mul.tw F),∀ args H v H',p.2 args H = some (v,H')→Go.AE.T Try.prog p.1 args H v H':=by
 intro p hp
 simp only [az.cs,List.mem_cons,List.not_mem_nil,or_false] at hp
 subst hp
 exact fun args H v H' h=>bits_Mul.mk_T h
theorem az.ok:codeOk az.pn Try.f154.ntmps az.tb az.code = true:=by kernel_rfl
theorem az.T {F:Nat} {aa:Sl} {ae:Int} {H:Hp} {v:AV} {H':Hp} (h:az.tw F aa ae H = some (v,H')):Go.AE.T Try.prog 154 [(.sl aa),(.int .i64 ae)] H v H':=
 Go.AE.T.of (Y:=tabs) (C:=mkOrc (az.cs F (bits_Mul.tw F))) (PN:=az.pn) (LH:=az.lh F (bits_Mul.tw F)) (F:=F) (TB:=az.tb) (fn:=Try.f154) (code:=az.code) mixed tabs_ok (mkOrc_ok (az.cs_ok F)) Try.func154 (by kernel_rfl) (by kernel_rfl) az.ok (Nat.le_of_ble_eq_true (by kernel_rfl)) (az.loops F (bits_Mul.tw F)) (Eq.trans (az.eqX F (bits_Mul.tw F) aa ae H) h)
theorem az.mk_T {F:Nat} {args:List AV} {H:Hp} {v:AV} {H':Hp} (h:az.mk (az.tw F) args H = some (v,H')):Go.AE.T Try.prog 154 args H v H':=by
 unfold az.mk at h
 split at h
 ·exact az.T h
 ·cases h
noncomputable def aZ.twX (F:Nat) (aa:Int) (ab:Int) (aw:Int) (ax:Int) (au:Int) (H:Hp):OA:=(Hp.new H [(.int .i64 aa),(.int .i64 ab),(.int .i64 aw),(.int .i64 ax),(.int .i64 au)]).bind fun H6=>(Hp.new H6 [.int .i64 0,.int .i64 0,.int .i64 0,.int .i64 0]).bind fun H7=>(Hp.ldI H7 .i64 H.length 0).bind fun n8=>(Hp.ldI H7 .i64 H.length 1).bind fun n9=>(Hp.ldI H7 .i64 H.length 2).bind fun n10=>(Hp.ldI H7 .i64 H.length 3).bind fun n11=>(Hp.st H7 H6.length 0 (.int .i64 n8)).bind fun H12=>(Hp.st H12 H6.length (0 + 1) (.int .i64 n9)).bind fun H13=>(Hp.st H13 H6.length (0 + 1 + 1) (.int .i64 n10)).bind fun H14=>(Hp.st H14 H6.length (0 + 1 + 1 + 1) (.int .i64 n11)).bind fun H15=>(Hp.ldI H15 .i64 H6.length 0).bind fun n16=>(Hp.ldI H15 .i64 H6.length (0 + 1)).bind fun n17=>(Hp.ldI H15 .i64 H6.length (0 + 2)).bind fun n18=>(Hp.ldI H15 .i64 H6.length (0 + 3)).bind fun n19=>some ((.agg [(.int .i64 n16),(.int .i64 n17),(.int .i64 n18),(.int .i64 n19)]),H15)
noncomputable def aZ.tw (F:Nat) (aa:Int) (ab:Int) (aw:Int) (ax:Int) (au:Int) (H:Hp):OA:=aZ.twX F aa ab aw ax au H
noncomputable def aZ.code:Go.Code:=(Try.f155.body).getD .skip
noncomputable def aZ.lh (F:Nat) (p:Nat) (ks:List Nat) (n:Nat) (tm:Tm) (H:Hp):OA:=none
def aZ.pn:Nat→List Nat:=fun i=>(([]:List (Nat×List Nat)).lookup i).getD []
def aZ.tb:Nat→List (List Nat):=fun i=>(([]:List (Nat×List (List Nat))).lookup i).getD []
noncomputable def aZ.mk (g:Int→Int→Int→Int→Int→Hp→OA) (args:List AV) (H:Hp):OA:=match args with
 | [(.agg [(.int .i64 aa),(.int .i64 ab),(.int .i64 aw),(.int .i64 ax),(.int .i64 au)])]=>g aa ab aw ax au H
 | _=>none
noncomputable def aZ.cs (F:Nat):List (FuncId×(List AV→Hp→OA)):=[]
theorem aZ.loops (F:Nat):LoopsOk tabs (mkOrc (aZ.cs F)) aZ.pn (aZ.lh F) F [] 1 aZ.code (fun tm H=>aresults tabs.ty H tm Try.f155.results.toList fun v=>some (v,H)) (fun _ _ _=>none) (fun tm H=>aresults tabs.ty H tm Try.f155.results.toList fun v=>some (v,H)):=by
 exact loops_none (by kernel_rfl)
theorem aZ.eqX (F:Nat) (aa:Int) (ab:Int) (aw:Int) (ax:Int) (au:Int) (H:Hp):aCode tabs (mkOrc (aZ.cs F)) aZ.pn (aZ.lh F) F [] 1 aZ.code (argTm [(.agg [(.int .i64 aa),(.int .i64 ab),(.int .i64 aw),(.int .i64 ax),(.int .i64 au)])]) H (fun tm H=>aresults tabs.ty H tm Try.f155.results.toList fun v=>some (v,H)) (fun _ _ _=>none) (fun tm H=>aresults tabs.ty H tm Try.f155.results.toList fun v=>some (v,H)) = aZ.twX F aa ab aw ax au H:=by kernel_rfl
theorem aZ.cs_ok (F:Nat):∀ p ∈ aZ.cs F,∀ args H v H',p.2 args H = some (v,H')→Go.AE.T Try.prog p.1 args H v H':=by
 intro p hp
 exact absurd (show p ∈ [] from hp) List.not_mem_nil
theorem aZ.ok:codeOk aZ.pn Try.f155.ntmps aZ.tb aZ.code = true:=by kernel_rfl
theorem aZ.T {F:Nat} {aa:Int} {ab:Int} {aw:Int} {ax:Int} {au:Int} {H:Hp} {v:AV} {H':Hp} (h:aZ.tw F aa ab aw ax au H = some (v,H')):Go.AE.T Try.prog 155 [(.agg [(.int .i64 aa),(.int .i64 ab),(.int .i64 aw),(.int .i64 ax),(.int .i64 au)])] H v H':=
 Go.AE.T.of (Y:=tabs) (C:=mkOrc (aZ.cs F)) (PN:=aZ.pn) (LH:=aZ.lh F) (F:=F) (TB:=aZ.tb) (fn:=Try.f155) (code:=aZ.code) mixed tabs_ok (mkOrc_ok (aZ.cs_ok F)) Try.func155 (by kernel_rfl) (by kernel_rfl) aZ.ok (Nat.le_of_ble_eq_true (by kernel_rfl)) (aZ.loops F) (Eq.trans (aZ.eqX F aa ab aw ax au H) h)
theorem aZ.mk_T {F:Nat} {args:List AV} {H:Hp} {v:AV} {H':Hp} (h:aZ.mk (aZ.tw F) args H = some (v,H')):Go.AE.T Try.prog 155 args H v H':=by
 unfold aZ.mk at h
 split at h
 ·exact aZ.T h
 ·cases h
noncomputable def a_.twX (F:Nat) (aa:Int) (ab:Int) (aw:Int) (ax:Int) (au:Int) (aU:Int) (H:Hp):OA:=(Hp.new H [(.int .i64 aa),(.int .i64 ab),(.int .i64 aw),(.int .i64 ax),(.int .i64 au)]).bind fun H7=>(bif (aU == 0) then (some ((.bool true),H7)) else ((Hp.ldI H7 .i64 H.length 4).bind fun n8=>some ((.bool (aU == (IntKind.i64.wrap (2 + n8)))),H7)))
noncomputable def a_.tw (F:Nat) (aa:Int) (ab:Int) (aw:Int) (ax:Int) (au:Int) (aU:Int) (H:Hp):OA:=a_.twX F aa ab aw ax au aU H
noncomputable def a_.code:Go.Code:=(Try.f156.body).getD .skip
noncomputable def a_.lh (F:Nat) (p:Nat) (ks:List Nat) (n:Nat) (tm:Tm) (H:Hp):OA:=none
def a_.pn:Nat→List Nat:=fun i=>(([]:List (Nat×List Nat)).lookup i).getD []
def a_.tb:Nat→List (List Nat):=fun i=>(([]:List (Nat×List (List Nat))).lookup i).getD []
noncomputable def a_.mk (g:Int→Int→Int→Int→Int→Int→Hp→OA) (args:List AV) (H:Hp):OA:=match args with
 | [(.agg [(.int .i64 aa),(.int .i64 ab),(.int .i64 aw),(.int .i64 ax),(.int .i64 au)]),(.int .i64 aU)]=>g aa ab aw ax au aU H
 | _=>none
noncomputable def a_.cs (F:Nat):List (FuncId×(List AV→Hp→OA)):=[]
theorem a_.loops (F:Nat):LoopsOk tabs (mkOrc (a_.cs F)) a_.pn (a_.lh F) F [] 1 a_.code (fun tm H=>aresults tabs.ty H tm Try.f156.results.toList fun v=>some (v,H)) (fun _ _ _=>none) (fun tm H=>aresults tabs.ty H tm Try.f156.results.toList fun v=>some (v,H)):=by
 exact loops_none (by kernel_rfl)
theorem a_.eqX (F:Nat) (aa:Int) (ab:Int) (aw:Int) (ax:Int) (au:Int) (aU:Int) (H:Hp):aCode tabs (mkOrc (a_.cs F)) a_.pn (a_.lh F) F [] 1 a_.code (argTm [(.agg [(.int .i64 aa),(.int .i64 ab),(.int .i64 aw),(.int .i64 ax),(.int .i64 au)]),(.int .i64 aU)]) H (fun tm H=>aresults tabs.ty H tm Try.f156.results.toList fun v=>some (v,H)) (fun _ _ _=>none) (fun tm H=>aresults tabs.ty H tm Try.f156.results.toList fun v=>some (v,H)) = a_.twX F aa ab aw ax au aU H:=by kernel_rfl
theorem a_.cs_ok (F:Nat):∀ p ∈ a_.cs F,∀ args H v H',p.2 args H = some (v,H')→Go.AE.T Try.prog p.1 args H v H':=by
 intro p hp
 exact absurd (show p ∈ [] from hp) List.not_mem_nil
theorem a_.ok:codeOk a_.pn Try.f156.ntmps a_.tb a_.code = true:=by kernel_rfl
theorem a_.T {F:Nat} {aa:Int} {ab:Int} {aw:Int} {ax:Int} {au:Int} {aU:Int} {H:Hp} {v:AV} {H':Hp} (h:a_.tw F aa ab aw ax au aU H = some (v,H')):Go.AE.T Try.prog 156 [(.agg [(.int .i64 aa),(.int .i64 ab),(.int .i64 aw),(.int .i64 ax),(.int .i64 au)]),(.int .i64 aU)] H v H':=
 Go.AE.T.of (Y:=tabs) (C:=mkOrc (a_.cs F)) (PN:=a_.pn) (LH:=a_.lh F) (F:=F) (TB:=a_.tb) (fn:=Try.f156) (code:=a_.code) mixed tabs_ok (mkOrc_ok (a_.cs_ok F)) Try.func156 (by kernel_rfl) (by kernel_rfl) a_.ok (Nat.le_of_ble_eq_true (by kernel_rfl)) (a_.loops F) (Eq.trans (a_.eqX F aa ab aw ax au aU H) h)
theorem a_.mk_T {F:Nat} {args:List AV} {H:Hp} {v:AV} {H':Hp} (h:a_.mk (a_.tw F) args H = some (v,H')):Go.AE.T Try.prog 156 args H v H':=by
 unfold a_.mk at h
 split at h
 ·exact a_.T h
 ·cases h
noncomputable def bw.twX (F:Nat) (aa:Sl) (H:Hp):OA:=some ((.int .i64 (aa.n:Int)),H)
noncomputable def bw.tw (F:Nat) (aa:Sl) (H:Hp):OA:=bw.twX F aa H
noncomputable def bw.code:Go.Code:=(Try.f170.body).getD .skip
noncomputable def bw.lh (F:Nat) (p:Nat) (ks:List Nat) (n:Nat) (tm:Tm) (H:Hp):OA:=none
def bw.pn:Nat→List Nat:=fun i=>(([]:List (Nat×List Nat)).lookup i).getD []
def bw.tb:Nat→List (List Nat):=fun i=>(([]:List (Nat×List (List Nat))).lookup i).getD []
noncomputable def bw.mk (g:Sl→Hp→OA) (args:List AV) (H:Hp):OA:=match args with
 | [(.sl aa)]=>g aa H
 | _=>none
noncomputable def bw.cs (F:Nat):List (FuncId×(List AV→Hp→OA)):=[]
theorem bw.loops (F:Nat):LoopsOk tabs (mkOrc (bw.cs F)) bw.pn (bw.lh F) F [] 1 bw.code (fun tm H=>aresults tabs.ty H tm Try.f170.results.toList fun v=>some (v,H)) (fun _ _ _=>none) (fun tm H=>aresults tabs.ty H tm Try.f170.results.toList fun v=>some (v,H)):=by
 exact loops_none (by kernel_rfl)
theorem bw.eqX (F:Nat) (aa:Sl) (H:Hp):aCode tabs (mkOrc (bw.cs F)) bw.pn (bw.lh F) F [] 1 bw.code (argTm [(.sl aa)]) H (fun tm H=>aresults tabs.ty H tm Try.f170.results.toList fun v=>some (v,H)) (fun _ _ _=>none) (fun tm H=>aresults tabs.ty H tm Try.f170.results.toList fun v=>some (v,H)) = bw.twX F aa H:=by kernel_rfl
theorem bw.cs_ok (F:Nat):∀ p ∈ bw.cs F,∀ args H v H',p.2 args H = some (v,H')→Go.AE.T Try.prog p.1 args H v H':=by
 intro p hp
 exact absurd (show p ∈ [] from hp) List.not_mem_nil
theorem bw.ok:codeOk bw.pn Try.f170.ntmps bw.tb bw.code = true:=by kernel_rfl
theorem bw.T {F:Nat} {aa:Sl} {H:Hp} {v:AV} {H':Hp} (h:bw.tw F aa H = some (v,H')):Go.AE.T Try.prog 170 [(.sl aa)] H v H':=
 Go.AE.T.of (Y:=tabs) (C:=mkOrc (bw.cs F)) (PN:=bw.pn) (LH:=bw.lh F) (F:=F) (TB:=bw.tb) (fn:=Try.f170) (code:=bw.code) mixed tabs_ok (mkOrc_ok (bw.cs_ok F)) Try.func170 (by kernel_rfl) (by kernel_rfl) bw.ok (Nat.le_of_ble_eq_true (by kernel_rfl)) (bw.loops F) (Eq.trans (bw.eqX F aa H) h)
theorem bw.mk_T {F:Nat} {args:List AV} {H:Hp} {v:AV} {H':Hp} (h:bw.mk (bw.tw F) args H = some (v,H')):Go.AE.T Try.prog 170 args H v H':=by
 unfold bw.mk at h
 split at h
 ·exact bw.T h
 ·cases h
noncomputable def bi.twX (F:Nat) (fT:Sl→Hp→OA) (cU:Int→Int→Int→Hp→OA) (aa:Sl) (ae:Int) (H:Hp):OA:=(fT aa H).bind fun r3=>((r3.1).asI .i64).bind fun n4=>(cU ae 0 (IntKind.i64.wrap (n4 - 1)) r3.2).bind fun r5=>((r5.1).asB).bind fun b6=>some ((.bool b6),r5.2)
noncomputable def bi.tw (F:Nat) (aa:Sl) (ae:Int) (H:Hp):OA:=bi.twX F (bw.tw F) (ba.tw F) aa ae H
noncomputable def bi.code:Go.Code:=(Try.f157.body).getD .skip
noncomputable def bi.lh (F:Nat) (fT:Sl→Hp→OA) (cU:Int→Int→Int→Hp→OA) (p:Nat) (ks:List Nat) (n:Nat) (tm:Tm) (H:Hp):OA:=none
def bi.pn:Nat→List Nat:=fun i=>(([]:List (Nat×List Nat)).lookup i).getD []
def bi.tb:Nat→List (List Nat):=fun i=>(([]:List (Nat×List (List Nat))).lookup i).getD []
noncomputable def bi.mk (g:Sl→Int→Hp→OA) (args:List AV) (H:Hp):OA:=match args with
 | [(.sl aa),(.int .i64 ae)]=>g aa ae H
 | _=>none
noncomputable def bi.cs (F:Nat) (fT:Sl→Hp→OA) (cU:Int→Int→Int→Hp→OA):List (FuncId×(List AV→Hp→OA)):=[(170,bw.mk fT),(81,ba.mk cU)]
theorem bi.loops (F:Nat) (fT:Sl→Hp→OA) (cU:Int→Int→Int→Hp→OA):LoopsOk tabs (mkOrc (bi.cs F fT cU)) bi.pn (bi.lh F fT cU) F [] 1 bi.code (fun tm H=>aresults tabs.ty H tm Try.f157.results.toList fun v=>some (v,H)) (fun _ _ _=>none) (fun tm H=>aresults tabs.ty H tm Try.f157.results.toList fun v=>some (v,H)):=by
 exact loops_none (by kernel_rfl)
theorem bi.eqX (F:Nat) (fT:Sl→Hp→OA) (cU:Int→Int→Int→Hp→OA) (aa:Sl) (ae:Int) (H:Hp):aCode tabs (mkOrc (bi.cs F fT cU)) bi.pn (bi.lh F fT cU) F [] 1 bi.code (argTm [(.sl aa),(.int .i64 ae)]) H (fun tm H=>aresults tabs.ty H tm Try.f157.results.toList fun v=>some (v,H)) (fun _ _ _=>none) (fun tm H=>aresults tabs.ty H tm Try.f157.results.toList fun v=>some (v,H)) = bi.twX F fT cU aa ae H:=by kernel_rfl
theorem bi.cs_ok (F:Nat):∀ p ∈ bi.cs F (bw.tw F) (ba.tw F),∀ args H v H',p.2 args H = some (v,H')→Go.AE.T Try.prog p.1 args H v H':=by
 intro p hp
 simp only [bi.cs,List.mem_cons,List.not_mem_nil,or_false] at hp
 rcases hp with rfl | rfl
 ·exact fun args H v H' h=>bw.mk_T h
 ·exact fun args H v H' h=>ba.mk_T h
theorem bi.ok:codeOk bi.pn Try.f157.ntmps bi.tb bi.code = true:=by kernel_rfl
theorem bi.T {F:Nat} {aa:Sl} {ae:Int} {H:Hp} {v:AV} {H':Hp} (h:bi.tw F aa ae H = some (v,H')):Go.AE.T Try.prog 157 [(.sl aa),(.int .i64 ae)] H v H':=
 Go.AE.T.of (Y:=tabs) (C:=mkOrc (bi.cs F (bw.tw F) (ba.tw F))) (PN:=bi.pn) (LH:=bi.lh F (bw.tw F) (ba.tw F)) (F:=F) (TB:=bi.tb) (fn:=Try.f157) (code:=bi.code) mixed tabs_ok (mkOrc_ok (bi.cs_ok F)) Try.func157 (by kernel_rfl) (by kernel_rfl) bi.ok (Nat.le_of_ble_eq_true (by kernel_rfl)) (bi.loops F (bw.tw F) (ba.tw F)) (Eq.trans (bi.eqX F (bw.tw F) (ba.tw F) aa ae H) h)
theorem bi.mk_T {F:Nat} {args:List AV} {H:Hp} {v:AV} {H':Hp} (h:bi.mk (bi.tw F) args H = some (v,H')):Go.AE.T Try.prog 157 args H v H':=by
 unfold bi.mk at h
 split at h
 ·exact bi.T h
 ·cases h
noncomputable def ao.l3931 (F:Nat) (bS:Sl→Int→Hp→OA) (bE:Int→Int→Int→Int→Int→Hp→OA) (bF:Int→Int→Int→Int→Int→Int→Hp→OA) (bT:Sl→Int→Hp→OA) (C61_:Nat→Nat→Nat→Nat→Sl→Int→Int→Hp→OA):Nat→Nat→Nat→Nat→Nat→Sl→Int→Int→Nat→Nat→Int→Int→Int→Int→Int→Int→Hp→OA
 | 0,_,_,_,_,_,_,_,_,_,_,_,_,_,_,_,_=>none
 | rD + 1,bP,bX,ca,ci,eT,cV,dp,cG,dH,cj,ck,cl,cm,cn,bQ,H233=>(bif (decide (bQ < 4)) then ((if 0 ≤ bQ∧bQ < (4:Int) then (([(.int .i64 ck),(.int .i64 cl),(.int .i64 cm),(.int .i64 cn)]:List AV)[(bQ:Int).toNat * 1]?).bind fun v283=>((v283).asI .i64).bind fun n284=>(Hp.ldSl H233 ca ci).bind fun s285=>(Hp.ldI H233 .i64 cG dH).bind fun n286=>(Hp.ldI H233 .i64 cG (dH + 1)).bind fun n287=>(Hp.ldI H233 .i64 cG (dH + 2)).bind fun n288=>(Hp.ldI H233 .i64 cG (dH + 3)).bind fun n289=>(Hp.ldI H233 .i64 cG (dH + 4)).bind fun n290=>(bF n286 n287 n288 n289 n290 bQ H233).bind fun r291=>((r291.1).asB).bind fun b292=>(bif b292 then ((Hp.ldSl r291.2 ca (ci + 1)).bind fun s293=>(bT s293 n284 r291.2).bind fun r294=>((r294.1).asB).bind fun b295=>(bif (!b295) then ((Hp.ldSl r294.2 ca ci).bind fun s296=>(Hp.ldSl r294.2 ca (ci + 1)).bind fun s297=>(Hp.st r294.2 bP bX (.sl s296)).bind fun H298=>(Hp.st H298 bP (bX + 1) (.sl s297)).bind fun H299=>(Hp.ldSl H299 bP bX).bind fun s300=>(Hp.ldSl H299 bP (bX + 1)).bind fun s301=>some ((.tup [(.agg [(.sl s300),(.sl s301)]),(.bool false)]),H299)) else ((Sl.idx s293 n284 2).bind fun p302=>(Hp.ldI r294.2 .i64 p302.1 p302.2).bind fun n303=>(bif (decide (n303 ≥ 0)) then ((Hp.ldSl r294.2 ca ci).bind fun s304=>(Hp.ldSl r294.2 ca (ci + 1)).bind fun s305=>(Hp.st r294.2 bP bX (.sl s304)).bind fun H306=>(Hp.st H306 bP (bX + 1) (.sl s305)).bind fun H307=>(Hp.ldSl H307 bP bX).bind fun s308=>(Hp.ldSl H307 bP (bX + 1)).bind fun s309=>some ((.tup [(.agg [(.sl s308),(.sl s309)]),(.bool false)]),H307)) else ((Sl.idx s293 n284 2).bind fun p310=>(Hp.st r294.2 p310.1 p310.2 (.int .i64 cj)).bind fun H311=>(Hp.st H311 p310.1 (p310.2 + 1) (.int .i64 bQ)).bind fun H312=>ao.l3931 F bS bE bF bT C61_ rD bP bX ca ci eT cV dp cG dH cj ck cl cm cn (IntKind.i64.wrap (bQ + 1)) H312))))) else ((bT s285 n284 r291.2).bind fun r313=>((r313.1).asB).bind fun b314=>(bif (!b314) then ((Hp.ldSl r313.2 ca ci).bind fun s315=>(Hp.ldSl r313.2 ca (ci + 1)).bind fun s316=>(Hp.st r313.2 bP bX (.sl s315)).bind fun H317=>(Hp.st H317 bP (bX + 1) (.sl s316)).bind fun H318=>(Hp.ldSl H318 bP bX).bind fun s319=>(Hp.ldSl H318 bP (bX + 1)).bind fun s320=>some ((.tup [(.agg [(.sl s319),(.sl s320)]),(.bool false)]),H318)) else ((Sl.idx s285 n284 2).bind fun p321=>(Hp.ldI r313.2 .i64 p321.1 p321.2).bind fun n322=>(bif (decide (n322 ≥ 0)) then ((Hp.ldSl r313.2 ca ci).bind fun s323=>(Hp.ldSl r313.2 ca (ci + 1)).bind fun s324=>(Hp.st r313.2 bP bX (.sl s323)).bind fun H325=>(Hp.st H325 bP (bX + 1) (.sl s324)).bind fun H326=>(Hp.ldSl H326 bP bX).bind fun s327=>(Hp.ldSl H326 bP (bX + 1)).bind fun s328=>some ((.tup [(.agg [(.sl s327),(.sl s328)]),(.bool false)]),H326)) else ((Sl.idx s285 n284 2).bind fun p329=>(Hp.st r313.2 p329.1 p329.2 (.int .i64 cj)).bind fun H330=>(Hp.st H330 p329.1 (p329.2 + 1) (.int .i64 bQ)).bind fun H331=>ao.l3931 F bS bE bF bT C61_ rD bP bX ca ci eT cV dp cG dH cj ck cl cm cn (IntKind.i64.wrap (bQ + 1)) H331)))))) else none)) else (C61_ bP bX ca ci eT cV (IntKind.i64.wrap (dp + 1)) H233))
termination_by structural n=>n
noncomputable def ao.l61 (F:Nat) (bS:Sl→Int→Hp→OA) (bE:Int→Int→Int→Int→Int→Hp→OA) (bF:Int→Int→Int→Int→Int→Int→Hp→OA) (bT:Sl→Int→Hp→OA) :Nat→Nat→Nat→Nat→Nat→Sl→Int→Int→Hp→OA
 | 0,_,_,_,_,_,_,_,_=>none
 | bj + 1,dq,ey,dN,eZ,fA,dO,dr,H29=>(bif (decide (dr < dO)) then ((Sl.idx fA dr 5).bind fun p184=>(Hp.ldI H29 .i64 p184.1 p184.2).bind fun n185=>(Hp.ldI H29 .i64 p184.1 (p184.2 + 1)).bind fun n186=>(Hp.ldI H29 .i64 p184.1 (p184.2 + 2)).bind fun n187=>(Hp.ldI H29 .i64 p184.1 (p184.2 + 3)).bind fun n188=>(Hp.ldI H29 .i64 p184.1 (p184.2 + 4)).bind fun n189=>(Hp.new H29 [.int .i64 0,.int .i64 0,.int .i64 0,.int .i64 0,.int .i64 0]).bind fun H190=>(Hp.st H190 H29.length 0 (.int .i64 n185)).bind fun H191=>(Hp.st H191 H29.length (0 + 1) (.int .i64 n186)).bind fun H192=>(Hp.st H192 H29.length (0 + 1 + 1) (.int .i64 n187)).bind fun H193=>(Hp.st H193 H29.length (0 + 1 + 1 + 1) (.int .i64 n188)).bind fun H194=>(Hp.st H194 H29.length (0 + 1 + 1 + 1 + 1) (.int .i64 n189)).bind fun H195=>(Hp.ldI H195 .i64 H29.length 0).bind fun n196=>(Hp.ldI H195 .i64 H29.length (0 + 1)).bind fun n197=>(Hp.ldI H195 .i64 H29.length (0 + 2)).bind fun n198=>(Hp.ldI H195 .i64 H29.length (0 + 3)).bind fun n199=>(Hp.ldI H195 .i64 H29.length (0 + 4)).bind fun n200=>(bE n196 n197 n198 n199 n200 H195).bind fun r201=>((r201.1).asAgg 4).bind fun l202=>(l202[0]?).bind fun v203=>((v203).asI .i64).bind fun n204=>(l202[1]?).bind fun v205=>((v205).asI .i64).bind fun n206=>(l202[2]?).bind fun v207=>((v207).asI .i64).bind fun n208=>(l202[3]?).bind fun v209=>((v209).asI .i64).bind fun n210=>ao.l3931 F bS bE bF bT (ao.l61 F bS bE bF bT bj) F dq ey dN eZ fA dO dr H29.length 0 dr n204 n206 n208 n210 0 r201.2) else ((Hp.ldSl H29 dN eZ).bind fun s332=>(Hp.ldSl H29 dN (eZ + 1)).bind fun s333=>(Hp.st H29 dq ey (.sl s332)).bind fun H334=>(Hp.st H334 dq (ey + 1) (.sl s333)).bind fun H335=>(Hp.ldSl H335 dq ey).bind fun s336=>(Hp.ldSl H335 dq (ey + 1)).bind fun s337=>some ((.tup [(.agg [(.sl s336),(.sl s337)]),(.bool true)]),H335)))
termination_by structural n=>n
noncomputable def ao.twX (F:Nat) (bS:Sl→Int→Hp→OA) (bE:Int→Int→Int→Int→Int→Hp→OA) (bF:Int→Int→Int→Int→Int→Int→Hp→OA) (bT:Sl→Int→Hp→OA) (aa:Sl) (ab:Int) (H:Hp):OA:=(Hp.new H [(.sl aa),(.int .i64 ab)]).bind fun H3=>(Hp.new H3 [.sl ⟨none,0,.ex 0⟩,.sl ⟨none,0,.ex 0⟩]).bind fun H4=>(Hp.ldSl H4 H.length 0).bind fun s5=>(Hp.new H4 [(.int .i64 (-1)),(.int .i64 0)]).bind fun H6=>(bS (⟨some (H4.length,0),1,.ex 1⟩:Sl) (IntKind.i64.wrap (2 * (s5.n:Int))) H6).bind fun r7=>((r7.1).asSl).bind fun s8=>(Hp.new r7.2 [(.int .i64 (-1)),(.int .i64 0)]).bind fun H9=>(bS (⟨some (r7.2.length,0),1,.ex 1⟩:Sl) (IntKind.i64.wrap (2 * (s5.n:Int))) H9).bind fun r10=>((r10.1).asSl).bind fun s11=>(Hp.new r10.2 [.sl ⟨none,0,.ex 0⟩,.sl ⟨none,0,.ex 0⟩]).bind fun H12=>(Hp.st H12 r10.2.length 0 (.sl s8)).bind fun H13=>(Hp.st H13 r10.2.length (0 + 1) (.sl s11)).bind fun H14=>(Hp.ldSl H14 H.length 0).bind fun s15=>ao.l61 F bS bE bF bT F H3.length 0 r10.2.length 0 s15 (s15.n:Int) 0 H14
noncomputable def ao.tw (F:Nat) (aa:Sl) (ab:Int) (H:Hp):OA:=ao.twX F (az.tw F) (aZ.tw F) (a_.tw F) (bi.tw F) aa ab H
noncomputable def ao.code:Go.Code:=(Try.f125.body).getD .skip
noncomputable def ao.lh61 (F:Nat) (bS:Sl→Int→Hp→OA) (bE:Int→Int→Int→Int→Int→Hp→OA) (bF:Int→Int→Int→Int→Int→Int→Hp→OA) (bT:Sl→Int→Hp→OA) (ks:List Nat) (n:Nat) (tm:Tm) (H:Hp):OA:=match ks,tm 2,tm 5,tm 25,tm 26,tm 27 with
 | [],(.ptr dq ey),(.ptr dN eZ),(.sl fA),(.int .i64 dO),(.int .i64 dr)=>ao.l61 F bS bE bF bT n dq ey dN eZ fA dO dr H
 | _,_,_,_,_,_=>none
theorem ao.lh61_inv {F:Nat} {bS:Sl→Int→Hp→OA} {bE:Int→Int→Int→Int→Int→Hp→OA} {bF:Int→Int→Int→Int→Int→Int→Hp→OA} {bT:Sl→Int→Hp→OA} {ks:List Nat} {n:Nat} {tm:Tm} {H:Hp} {r:AV×Hp} (h:ao.lh61 F bS bE bF bT ks n tm H = some r):∃ dq:Nat,∃ ey:Nat,∃ dN:Nat,∃ eZ:Nat,∃ fA:Sl,∃ dO:Int,∃ dr:Int,ks = []∧tm 2 = (.ptr dq ey)∧tm 5 = (.ptr dN eZ)∧tm 25 = (.sl fA)∧tm 26 = (.int .i64 dO)∧tm 27 = (.int .i64 dr)∧ao.l61 F bS bE bF bT n dq ey dN eZ fA dO dr H = some r:=by
 unfold ao.lh61 at h
 split at h
 ·exact ⟨_,_,_,_,_,_,_,rfl,by assumption,by assumption,by assumption,by assumption,by assumption,h⟩
 ·cases h
noncomputable def ao.lh3931 (F:Nat) (bS:Sl→Int→Hp→OA) (bE:Int→Int→Int→Int→Int→Hp→OA) (bF:Int→Int→Int→Int→Int→Int→Hp→OA) (bT:Sl→Int→Hp→OA) (ks:List Nat) (n:Nat) (tm:Tm) (H:Hp):OA:=match ks,tm 2,tm 5,tm 6,tm 7,tm 25,tm 26,tm 27,tm 33,tm 34 with
 | [bj],(.ptr bP bX),(.ptr ca ci),(.int .i64 cj),(.ptr cG dH),(.sl eT),(.int .i64 cV),(.int .i64 dp),(.agg [(.int .i64 ck),(.int .i64 cl),(.int .i64 cm),(.int .i64 cn)]),(.int .i64 bQ)=>ao.l3931 F bS bE bF bT (ao.l61 F bS bE bF bT bj) n bP bX ca ci eT cV dp cG dH cj ck cl cm cn bQ H
 | _,_,_,_,_,_,_,_,_,_=>none
theorem ao.lh3931_inv {F:Nat} {bS:Sl→Int→Hp→OA} {bE:Int→Int→Int→Int→Int→Hp→OA} {bF:Int→Int→Int→Int→Int→Int→Hp→OA} {bT:Sl→Int→Hp→OA} {ks:List Nat} {n:Nat} {tm:Tm} {H:Hp} {r:AV×Hp} (h:ao.lh3931 F bS bE bF bT ks n tm H = some r):∃ bj:Nat,∃ bP:Nat,∃ bX:Nat,∃ ca:Nat,∃ ci:Nat,∃ cj:Int,∃ cG:Nat,∃ dH:Nat,∃ eT:Sl,∃ cV:Int,∃ dp:Int,∃ ck:Int,∃ cl:Int,∃ cm:Int,∃ cn:Int,∃ bQ:Int,ks = [bj]∧tm 2 = (.ptr bP bX)∧tm 5 = (.ptr ca ci)∧tm 6 = (.int .i64 cj)∧tm 7 = (.ptr cG dH)∧tm 25 = (.sl eT)∧tm 26 = (.int .i64 cV)∧tm 27 = (.int .i64 dp)∧tm 33 = (.agg [(.int .i64 ck),(.int .i64 cl),(.int .i64 cm),(.int .i64 cn)])∧tm 34 = (.int .i64 bQ)∧ao.l3931 F bS bE bF bT (ao.l61 F bS bE bF bT bj) n bP bX ca ci eT cV dp cG dH cj ck cl cm cn bQ H = some r:=by
 unfold ao.lh3931 at h
 split at h
 ·exact ⟨_,_,_,_,_,_,_,_,_,_,_,_,_,_,_,_,rfl,by assumption,by assumption,by assumption,by assumption,by assumption,by assumption,by assumption,by assumption,by assumption,h⟩
 ·cases h
noncomputable def ao.lh (F:Nat) (bS:Sl→Int→Hp→OA) (bE:Int→Int→Int→Int→Int→Hp→OA) (bF:Int→Int→Int→Int→Int→Int→Hp→OA) (bT:Sl→Int→Hp→OA) (p:Nat) (ks:List Nat) (n:Nat) (tm:Tm) (H:Hp):OA:=bif p.beq 3931 then ao.lh3931 F bS bE bF bT ks n tm H else (bif p.beq 61 then ao.lh61 F bS bE bF bT ks n tm H else (none))
def ao.pn:Nat→List Nat:=fun i=>(([]:List (Nat×List Nat)).lookup i).getD []
def ao.tb:Nat→List (List Nat):=fun i=>(([]:List (Nat×List (List Nat))).lookup i).getD []
noncomputable def ao.mk (g:Sl→Int→Hp→OA) (args:List AV) (H:Hp):OA:=match args with
 | [(.agg [(.sl aa),(.int .i64 ab)])]=>g aa ab H
 | _=>none
noncomputable def ao.cs (F:Nat) (bS:Sl→Int→Hp→OA) (bE:Int→Int→Int→Int→Int→Hp→OA) (bF:Int→Int→Int→Int→Int→Int→Hp→OA) (bT:Sl→Int→Hp→OA):List (FuncId×(List AV→Hp→OA)):=[(154,az.mk bS),(155,aZ.mk bE),(156,a_.mk bF),(157,bi.mk bT)]
theorem ao.loops (F:Nat) (bS:Sl→Int→Hp→OA) (bE:Int→Int→Int→Int→Int→Hp→OA) (bF:Int→Int→Int→Int→Int→Int→Hp→OA) (bT:Sl→Int→Hp→OA):LoopsOk tabs (mkOrc (ao.cs F bS bE bF bT)) ao.pn (ao.lh F bS bE bF bT) F [] 1 ao.code (fun tm H=>aresults tabs.ty H tm Try.f125.results.toList fun v=>some (v,H)) (fun _ _ _=>none) (fun tm H=>aresults tabs.ty H tm Try.f125.results.toList fun v=>some (v,H)):=by
 refine LoopsOk.seq ?_ ?_
 ·exact loops_none (by kernel_rfl)
 ·refine LoopsOk.seq ?_ ?_
  ·exact loops_none (by kernel_rfl)
  ·refine LoopsOk.seq ?_ ?_
   ·exact loops_none (by kernel_rfl)
   ·refine LoopsOk.seq ?_ ?_
    ·refine LoopsOk.seq ?_ ?_
     ·exact loops_none (by kernel_rfl)
     ·refine LoopsOk.block ?_
      refine LoopsOk.loop (fun tm H=>?_) (fun k61 tm H r h0=>?_) (fun k61=>?_)
      ·refine none_of fun r h0=>?_
       obtain ⟨dq,ey,dN,eZ,fA,dO,dr,hks,e2,e5,e25,e26,e27,h⟩:=ao.lh61_inv (show ao.lh61 F bS bE bF bT [] 0 tm H = some r from h0)
       cases h
      ·obtain ⟨dq,ey,dN,eZ,fA,dO,dr,hks,e2,e5,e25,e26,e27,h⟩:=ao.lh61_inv (show ao.lh61 F bS bE bF bT [] (k61 + 1) tm H = some r from h0)
       have q0:(Tm.put tm 2 (.ptr dq ey)) = tm:=by exact Tm.put_same e2
       have q1:(Tm.put (Tm.put tm 2 (.ptr dq ey)) 5 (.ptr dN eZ)) = tm:=by rw [q0]; exact Tm.put_same e5
       have q2:(Tm.put (Tm.put (Tm.put tm 2 (.ptr dq ey)) 5 (.ptr dN eZ)) 25 (.sl fA)) = tm:=by rw [q1]; exact Tm.put_same e25
       have q3:(Tm.put (Tm.put (Tm.put (Tm.put tm 2 (.ptr dq ey)) 5 (.ptr dN eZ)) 25 (.sl fA)) 26 (.int .i64 dO)) = tm:=by rw [q2]; exact Tm.put_same e26
       have q4:(Tm.put (Tm.put (Tm.put (Tm.put (Tm.put tm 2 (.ptr dq ey)) 5 (.ptr dN eZ)) 25 (.sl fA)) 26 (.int .i64 dO)) 27 (.int .i64 dr)) = tm:=by rw [q3]; exact Tm.put_same e27
       rw [← q4]
       exact Eq.trans (by kernel_rfl) h
      ·refine LoopsOk.seq ?_ ?_
       ·exact loops_none (by kernel_rfl)
       ·refine LoopsOk.seq ?_ ?_
        ·exact loops_none (by kernel_rfl)
        ·refine LoopsOk.seq ?_ ?_
         ·refine LoopsOk.block ?_
          refine LoopsOk.seq ?_ ?_
          ·exact loops_none (by kernel_rfl)
          ·refine LoopsOk.seq ?_ ?_
           ·exact loops_none (by kernel_rfl)
           ·refine LoopsOk.block ?_
            refine LoopsOk.loop (fun tm H=>?_) (fun k3931 tm H r h0=>?_) (fun k3931=>?_)
            ·refine none_of fun r h0=>?_
             obtain ⟨bj,bP,bX,ca,ci,cj,cG,dH,eT,cV,dp,ck,cl,cm,cn,bQ,hks,e2,e5,e6,e7,e25,e26,e27,e33,e34,h⟩:=ao.lh3931_inv (show ao.lh3931 F bS bE bF bT [k61] 0 tm H = some r from h0)
             cases h
            ·obtain ⟨bj,bP,bX,ca,ci,cj,cG,dH,eT,cV,dp,ck,cl,cm,cn,bQ,hks,e2,e5,e6,e7,e25,e26,e27,e33,e34,h⟩:=ao.lh3931_inv (show ao.lh3931 F bS bE bF bT [k61] (k3931 + 1) tm H = some r from h0)
             obtain rfl:bj = k61:=by simpa [eq_comm] using hks
             have q0:(Tm.put tm 2 (.ptr bP bX)) = tm:=by exact Tm.put_same e2
             have q1:(Tm.put (Tm.put tm 2 (.ptr bP bX)) 5 (.ptr ca ci)) = tm:=by rw [q0]; exact Tm.put_same e5
             have q2:(Tm.put (Tm.put (Tm.put tm 2 (.ptr bP bX)) 5 (.ptr ca ci)) 6 (.int .i64 cj)) = tm:=by rw [q1]; exact Tm.put_same e6
             have q3:(Tm.put (Tm.put (Tm.put (Tm.put tm 2 (.ptr bP bX)) 5 (.ptr ca ci)) 6 (.int .i64 cj)) 7 (.ptr cG dH)) = tm:=by rw [q2]; exact Tm.put_same e7
             have q4:(Tm.put (Tm.put (Tm.put (Tm.put (Tm.put tm 2 (.ptr bP bX)) 5 (.ptr ca ci)) 6 (.int .i64 cj)) 7 (.ptr cG dH)) 25 (.sl eT)) = tm:=by rw [q3]; exact Tm.put_same e25
             have q5:(Tm.put (Tm.put (Tm.put (Tm.put (Tm.put (Tm.put tm 2 (.ptr bP bX)) 5 (.ptr ca ci)) 6 (.int .i64 cj)) 7 (.ptr cG dH)) 25 (.sl eT)) 26 (.int .i64 cV)) = tm:=by rw [q4]; exact Tm.put_same e26
             have q6:(Tm.put (Tm.put (Tm.put (Tm.put (Tm.put (Tm.put (Tm.put tm 2 (.ptr bP bX)) 5 (.ptr ca ci)) 6 (.int .i64 cj)) 7 (.ptr cG dH)) 25 (.sl eT)) 26 (.int .i64 cV)) 27 (.int .i64 dp)) = tm:=by rw [q5]; exact Tm.put_same e27
             have q7:(Tm.put (Tm.put (Tm.put (Tm.put (Tm.put (Tm.put (Tm.put (Tm.put tm 2 (.ptr bP bX)) 5 (.ptr ca ci)) 6 (.int .i64 cj)) 7 (.ptr cG dH)) 25 (.sl eT)) 26 (.int .i64 cV)) 27 (.int .i64 dp)) 33 (.agg [(.int .i64 ck),(.int .i64 cl),(.int .i64 cm),(.int .i64 cn)])) = tm:=by rw [q6]; exact Tm.put_same e33
             have q8:(Tm.put (Tm.put (Tm.put (Tm.put (Tm.put (Tm.put (Tm.put (Tm.put (Tm.put tm 2 (.ptr bP bX)) 5 (.ptr ca ci)) 6 (.int .i64 cj)) 7 (.ptr cG dH)) 25 (.sl eT)) 26 (.int .i64 cV)) 27 (.int .i64 dp)) 33 (.agg [(.int .i64 ck),(.int .i64 cl),(.int .i64 cm),(.int .i64 cn)])) 34 (.int .i64 bQ)) = tm:=by rw [q7]; exact Tm.put_same e34
             rw [← q8]
             exact Eq.trans (by kernel_rfl) h
            ·exact loops_none (by kernel_rfl)
         ·exact loops_none (by kernel_rfl)
    ·exact loops_none (by kernel_rfl)
theorem ao.eqX (F:Nat) (bS:Sl→Int→Hp→OA) (bE:Int→Int→Int→Int→Int→Hp→OA) (bF:Int→Int→Int→Int→Int→Int→Hp→OA) (bT:Sl→Int→Hp→OA) (aa:Sl) (ab:Int) (H:Hp):aCode tabs (mkOrc (ao.cs F bS bE bF bT)) ao.pn (ao.lh F bS bE bF bT) F [] 1 ao.code (argTm [(.agg [(.sl aa),(.int .i64 ab)])]) H (fun tm H=>aresults tabs.ty H tm Try.f125.results.toList fun v=>some (v,H)) (fun _ _ _=>none) (fun tm H=>aresults tabs.ty H tm Try.f125.results.toList fun v=>some (v,H)) = ao.twX F bS bE bF bT aa ab H:=by kernel_rfl
theorem ao.cs_ok (F:Nat):∀ p ∈ ao.cs F (az.tw F) (aZ.tw F) (a_.tw F) (bi.tw F),∀ args H v H',p.2 args H = some (v,H')→Go.AE.T Try.prog p.1 args H v H':=by
 intro p hp
 simp only [ao.cs,List.mem_cons,List.not_mem_nil,or_false] at hp
 rcases hp with rfl | rfl | rfl | rfl
 ·exact fun args H v H' h=>az.mk_T h
 ·exact fun args H v H' h=>aZ.mk_T h
 ·exact fun args H v H' h=>a_.mk_T h
 ·exact fun args H v H' h=>bi.mk_T h
theorem ao.ok:codeOk ao.pn Try.f125.ntmps ao.tb ao.code = true:=by kernel_rfl
theorem ao.T {F:Nat} {aa:Sl} {ab:Int} {H:Hp} {v:AV} {H':Hp} (h:ao.tw F aa ab H = some (v,H')):Go.AE.T Try.prog 125 [(.agg [(.sl aa),(.int .i64 ab)])] H v H':=
 Go.AE.T.of (Y:=tabs) (C:=mkOrc (ao.cs F (az.tw F) (aZ.tw F) (a_.tw F) (bi.tw F))) (PN:=ao.pn) (LH:=ao.lh F (az.tw F) (aZ.tw F) (a_.tw F) (bi.tw F)) (F:=F) (TB:=ao.tb) (fn:=Try.f125) (code:=ao.code) mixed tabs_ok (mkOrc_ok (ao.cs_ok F)) Try.func125 (by kernel_rfl) (by kernel_rfl) ao.ok (Nat.le_of_ble_eq_true (by kernel_rfl)) (ao.loops F (az.tw F) (aZ.tw F) (a_.tw F) (bi.tw F)) (Eq.trans (ao.eqX F (az.tw F) (aZ.tw F) (a_.tw F) (bi.tw F) aa ab H) h)
theorem ao.mk_T {F:Nat} {args:List AV} {H:Hp} {v:AV} {H':Hp} (h:ao.mk (ao.tw F) args H = some (v,H')):Go.AE.T Try.prog 125 args H v H':=by
 unfold ao.mk at h
 split at h
 ·exact ao.T h
 ·cases h
noncomputable def bg.twX (F:Nat) (bE:Int→Int→Int→Int→Int→Hp→OA) (bF:Int→Int→Int→Int→Int→Int→Hp→OA) (aa:Sl) (ab:Int) (ar:Sl) (bA:Sl) (ez:Int) (dt:Int) (H:Hp):OA:=(Hp.new H [(.sl aa),(.int .i64 ab)]).bind fun H7=>(Hp.new H7 [(.sl ar),(.sl bA)]).bind fun H8=>(Hp.new H8 [(.int .i64 ez),(.int .i64 dt)]).bind fun H9=>(Hp.new H9 [.int .i64 0,.int .i64 0]).bind fun H10=>(Hp.ldSl H10 H.length 0).bind fun s11=>(Hp.ldI H10 .i64 H8.length 0).bind fun n12=>(Sl.idx s11 n12 5).bind fun p13=>(Hp.ldI H10 .i64 p13.1 p13.2).bind fun n14=>(Hp.ldI H10 .i64 p13.1 (p13.2 + 1)).bind fun n15=>(Hp.ldI H10 .i64 p13.1 (p13.2 + 2)).bind fun n16=>(Hp.ldI H10 .i64 p13.1 (p13.2 + 3)).bind fun n17=>(Hp.ldI H10 .i64 p13.1 (p13.2 + 4)).bind fun n18=>(Hp.new H10 [.int .i64 0,.int .i64 0,.int .i64 0,.int .i64 0,.int .i64 0]).bind fun H19=>(Hp.st H19 H10.length 0 (.int .i64 n14)).bind fun H20=>(Hp.st H20 H10.length (0 + 1) (.int .i64 n15)).bind fun H21=>(Hp.st H21 H10.length (0 + 1 + 1) (.int .i64 n16)).bind fun H22=>(Hp.st H22 H10.length (0 + 1 + 1 + 1) (.int .i64 n17)).bind fun H23=>(Hp.st H23 H10.length (0 + 1 + 1 + 1 + 1) (.int .i64 n18)).bind fun H24=>(Hp.ldI H24 .i64 H10.length 0).bind fun n25=>(Hp.ldI H24 .i64 H10.length (0 + 1)).bind fun n26=>(Hp.ldI H24 .i64 H10.length (0 + 2)).bind fun n27=>(Hp.ldI H24 .i64 H10.length (0 + 3)).bind fun n28=>(Hp.ldI H24 .i64 H10.length (0 + 4)).bind fun n29=>(bE n25 n26 n27 n28 n29 H24).bind fun r30=>((r30.1).asAgg 4).bind fun l31=>(l31[0]?).bind fun v32=>((v32).asI .i64).bind fun n33=>(l31[1]?).bind fun v34=>((v34).asI .i64).bind fun n35=>(l31[2]?).bind fun v36=>((v36).asI .i64).bind fun n37=>(l31[3]?).bind fun v38=>((v38).asI .i64).bind fun n39=>(if Cons H24 r30.2 then ((Hp.ldI r30.2 .i64 H8.length 1).bind fun n40=>(if 0 ≤ n40∧n40 < (4:Int) then (([(.int .i64 n33),(.int .i64 n35),(.int .i64 n37),(.int .i64 n39)]:List AV)[(n40:Int).toNat * 1]?).bind fun v41=>((v41).asI .i64).bind fun n42=>(Hp.ldI r30.2 .i64 H10.length 0).bind fun n43=>(Hp.ldI r30.2 .i64 H10.length (0 + 1)).bind fun n44=>(Hp.ldI r30.2 .i64 H10.length (0 + 2)).bind fun n45=>(Hp.ldI r30.2 .i64 H10.length (0 + 3)).bind fun n46=>(Hp.ldI r30.2 .i64 H10.length (0 + 4)).bind fun n47=>(Hp.ldI r30.2 .i64 H8.length 1).bind fun n48=>(bF n43 n44 n45 n46 n47 n48 r30.2).bind fun r49=>((r49.1).asB).bind fun b50=>(bif b50 then ((Hp.ldSl r49.2 H7.length 0).bind fun s51=>(Sl.idx s51 n42 2).bind fun p52=>(Hp.ldI r49.2 .i64 p52.1 p52.2).bind fun n53=>(Hp.ldI r49.2 .i64 p52.1 (p52.2 + 1)).bind fun n54=>(Hp.st r49.2 H9.length 0 (.int .i64 n53)).bind fun H55=>(Hp.st H55 H9.length (0 + 1) (.int .i64 n54)).bind fun H56=>(Hp.ldI H56 .i64 H9.length 0).bind fun n57=>(Hp.ldI H56 .i64 H9.length (0 + 1)).bind fun n58=>some ((.agg [(.int .i64 n57),(.int .i64 n58)]),H56)) else ((Hp.ldSl r49.2 H7.length 1).bind fun s59=>(Sl.idx s59 n42 2).bind fun p60=>(Hp.ldI r49.2 .i64 p60.1 p60.2).bind fun n61=>(Hp.ldI r49.2 .i64 p60.1 (p60.2 + 1)).bind fun n62=>(Hp.st r49.2 H9.length 0 (.int .i64 n61)).bind fun H63=>(Hp.st H63 H9.length (0 + 1) (.int .i64 n62)).bind fun H64=>(Hp.ldI H64 .i64 H9.length 0).bind fun n65=>(Hp.ldI H64 .i64 H9.length (0 + 1)).bind fun n66=>some ((.agg [(.int .i64 n65),(.int .i64 n66)]),H64))) else none)) else none)
noncomputable def bg.tw (F:Nat) (aa:Sl) (ab:Int) (ar:Sl) (bA:Sl) (ez:Int) (dt:Int) (H:Hp):OA:=bg.twX F (aZ.tw F) (a_.tw F) aa ab ar bA ez dt H
noncomputable def bg.code:Go.Code:=(Try.f139.body).getD .skip
noncomputable def bg.lh (F:Nat) (bE:Int→Int→Int→Int→Int→Hp→OA) (bF:Int→Int→Int→Int→Int→Int→Hp→OA) (p:Nat) (ks:List Nat) (n:Nat) (tm:Tm) (H:Hp):OA:=none
def bg.pn:Nat→List Nat:=fun i=>(([(2,[])]:List (Nat×List Nat)).lookup i).getD []
def bg.tb:Nat→List (List Nat):=fun i=>(([(2,[[],[0],[],[2],[0,1,2,3],[0,1,2,3,4]])]:List (Nat×List (List Nat))).lookup i).getD []
noncomputable def bg.mk (g:Sl→Int→Sl→Sl→Int→Int→Hp→OA) (args:List AV) (H:Hp):OA:=match args with
 | [(.agg [(.sl aa),(.int .i64 ab)]),(.agg [(.sl ar),(.sl bA)]),(.agg [(.int .i64 ez),(.int .i64 dt)])]=>g aa ab ar bA ez dt H
 | _=>none
noncomputable def bg.cs (F:Nat) (bE:Int→Int→Int→Int→Int→Hp→OA) (bF:Int→Int→Int→Int→Int→Int→Hp→OA):List (FuncId×(List AV→Hp→OA)):=[(155,aZ.mk bE),(156,a_.mk bF)]
theorem bg.loops (F:Nat) (bE:Int→Int→Int→Int→Int→Hp→OA) (bF:Int→Int→Int→Int→Int→Int→Hp→OA):LoopsOk tabs (mkOrc (bg.cs F bE bF)) bg.pn (bg.lh F bE bF) F [] 1 bg.code (fun tm H=>aresults tabs.ty H tm Try.f139.results.toList fun v=>some (v,H)) (fun _ _ _=>none) (fun tm H=>aresults tabs.ty H tm Try.f139.results.toList fun v=>some (v,H)):=by
 exact loops_none (by kernel_rfl)
theorem bg.eqX (F:Nat) (bE:Int→Int→Int→Int→Int→Hp→OA) (bF:Int→Int→Int→Int→Int→Int→Hp→OA) (aa:Sl) (ab:Int) (ar:Sl) (bA:Sl) (ez:Int) (dt:Int) (H:Hp):aCode tabs (mkOrc (bg.cs F bE bF)) bg.pn (bg.lh F bE bF) F [] 1 bg.code (argTm [(.agg [(.sl aa),(.int .i64 ab)]),(.agg [(.sl ar),(.sl bA)]),(.agg [(.int .i64 ez),(.int .i64 dt)])]) H (fun tm H=>aresults tabs.ty H tm Try.f139.results.toList fun v=>some (v,H)) (fun _ _ _=>none) (fun tm H=>aresults tabs.ty H tm Try.f139.results.toList fun v=>some (v,H)) = bg.twX F bE bF aa ab ar bA ez dt H:=by kernel_rfl
theorem bg.cs_ok (F:Nat):∀ p ∈ bg.cs F (aZ.tw F) (a_.tw F),∀ args H v H',p.2 args H = some (v,H')→Go.AE.T Try.prog p.1 args H v H':=by
 intro p hp
 simp only [bg.cs,List.mem_cons,List.not_mem_nil,or_false] at hp
 rcases hp with rfl | rfl
 ·exact fun args H v H' h=>aZ.mk_T h
 ·exact fun args H v H' h=>a_.mk_T h
theorem bg.ok:codeOk bg.pn Try.f139.ntmps bg.tb bg.code = true:=by kernel_rfl
theorem bg.T {F:Nat} {aa:Sl} {ab:Int} {ar:Sl} {bA:Sl} {ez:Int} {dt:Int} {H:Hp} {v:AV} {H':Hp} (h:bg.tw F aa ab ar bA ez dt H = some (v,H')):Go.AE.T Try.prog 139 [(.agg [(.sl aa),(.int .i64 ab)]),(.agg [(.sl ar),(.sl bA)]),(.agg [(.int .i64 ez),(.int .i64 dt)])] H v H':=
 Go.AE.T.of (Y:=tabs) (C:=mkOrc (bg.cs F (aZ.tw F) (a_.tw F))) (PN:=bg.pn) (LH:=bg.lh F (aZ.tw F) (a_.tw F)) (F:=F) (TB:=bg.tb) (fn:=Try.f139) (code:=bg.code) mixed tabs_ok (mkOrc_ok (bg.cs_ok F)) Try.func139 (by kernel_rfl) (by kernel_rfl) bg.ok (Nat.le_of_ble_eq_true (by kernel_rfl)) (bg.loops F (aZ.tw F) (a_.tw F)) (Eq.trans (bg.eqX F (aZ.tw F) (a_.tw F) aa ab ar bA ez dt H) h)
theorem bg.mk_T {F:Nat} {args:List AV} {H:Hp} {v:AV} {H':Hp} (h:bg.mk (bg.tw F) args H = some (v,H')):Go.AE.T Try.prog 139 args H v H':=by
 unfold bg.mk at h
 split at h
 ·exact bg.T h
 ·cases h
noncomputable def ai.j4 (F:Nat) (bM:Sl→Int→Sl→Sl→Int→Int→Hp→OA) (C61_:Nat→Nat→Nat→Nat→Sl→Sl→Int→Int→Hp→OA) (mi:Nat) (xe:Nat) (mj:Nat) (xf:Nat) (xg:Sl) (xh:Sl) (jg:Int) (jh:Int) (H248:Hp):OA:=C61_ mi xe mj xf xg xh jg (IntKind.i64.wrap (jh + 1)) H248
noncomputable def ai.j5 (F:Nat) (bM:Sl→Int→Sl→Sl→Int→Int→Hp→OA) (C61_:Nat→Nat→Nat→Nat→Sl→Sl→Int→Int→Hp→OA) (ml:Nat) (xi:Nat) (iN:Nat) (xj:Nat) (ho:Sl) (xk:Sl) (ji:Int) (jj:Int) (H228:Hp):OA:=ai.j4 F bM C61_ ml xi iN xj ho xk ji jj H228
noncomputable def ai.j6 (F:Nat) (bM:Sl→Int→Sl→Sl→Int→Int→Hp→OA) (C61_:Nat→Nat→Nat→Nat→Sl→Sl→Int→Int→Hp→OA) (jz:Nat) (rE:Nat) (jA:Nat) (rF:Nat) (rG:Sl) (rH:Sl) (rI:Sl) (hB:Int) (hC:Int) (H205:Hp):OA:=(bif (decide ((rI.n:Int) > 0)) then ((Hp.new H205 [(.sl rI)]).bind fun H206=>(Sl.row H206 (⟨some (H205.length,0),1,.ex 1⟩:Sl) 1).bind fun xs208=>(Hp.app H206 1 24 rG (⟨some (H205.length,0),1,.ex 1⟩:Sl).n xs208).bind fun a207=>ai.j5 F bM C61_ jz rE jA rF a207.1 rH hB hC a207.2) else (ai.j5 F bM C61_ jz rE jA rF rG rH hB hC H205))
noncomputable def ai.l15725 (F:Nat) (bM:Sl→Int→Sl→Sl→Int→Int→Hp→OA) (C61_:Nat→Nat→Nat→Nat→Sl→Sl→Int→Int→Hp→OA):Nat→Nat→Nat→Nat→Nat→Sl→Sl→Int→Int→Sl→Int→Hp→OA
 | 0,_,_,_,_,_,_,_,_,_,_,_=>none
 | xl + 1,cM,dP,cW,eh,eU,eK,dQ,ei,fj,co,H164=>(Sl.idx eK co 1).bind fun p249=>(Hp.ldB H164 p249.1 p249.2).bind fun b250=>(bif (!b250) then ((Sl.idx eK co 1).bind fun p251=>(Hp.st H164 p251.1 p251.2 (.bool true)).bind fun H252=>(Hp.new H252 [(.int .i64 co)]).bind fun H253=>(Sl.row H253 (⟨some (H252.length,0),1,.ex 1⟩:Sl) 1).bind fun xs255=>(Hp.app H253 1 8 fj (⟨some (H252.length,0),1,.ex 1⟩:Sl).n xs255).bind fun a254=>(Hp.ldSl a254.2 cM dP).bind fun s256=>(Hp.ldI a254.2 .i64 cM (dP + 1)).bind fun n257=>(Hp.ldSl a254.2 cW eh).bind fun s258=>(Hp.ldSl a254.2 cW (eh + 1)).bind fun s259=>(bM s256 n257 s258 s259 (IntKind.i64.wrap (Int.tdiv co 4)) (Int.tmod (IntKind.i64.wrap (co + 1)) 4) a254.2).bind fun r260=>((r260.1).asAgg 2).bind fun l261=>(l261[0]?).bind fun v262=>((v262).asI .i64).bind fun n263=>(l261[1]?).bind fun v264=>((v264).asI .i64).bind fun n265=>(Hp.new r260.2 [.int .i64 0,.int .i64 0]).bind fun H266=>(Hp.st H266 r260.2.length 0 (.int .i64 n263)).bind fun H267=>(Hp.st H267 r260.2.length (0 + 1) (.int .i64 n265)).bind fun H268=>(Hp.ldI H268 .i64 r260.2.length 0).bind fun n269=>(Hp.ldI H268 .i64 r260.2.length 1).bind fun n270=>ai.l15725 F bM C61_ xl cM dP cW eh eU eK dQ ei a254.1 (IntKind.i64.wrap ((IntKind.i64.wrap (4 * n269)) + n270)) H268) else (ai.j6 F bM C61_ cM dP cW eh eU eK fj dQ ei H164))
termination_by structural n=>n
noncomputable def ai.l61 (F:Nat) (bM:Sl→Int→Sl→Sl→Int→Int→Hp→OA) :Nat→Nat→Nat→Nat→Nat→Sl→Sl→Int→Int→Hp→OA
 | 0,_,_,_,_,_,_,_,_,_=>none
 | bj + 1,dR,e_,ej,fk,fl,fU,dS,dI,H22=>(bif (decide (dI < dS)) then (ai.l15725 F bM (ai.l61 F bM bj) F dR e_ ej fk fl fU dS dI (⟨none,0,.ex 0⟩:Sl) dI H22) else (some ((.sl fl),H22)))
termination_by structural n=>n
noncomputable def ai.twX (F:Nat) (bM:Sl→Int→Sl→Sl→Int→Int→Hp→OA) (aa:Sl) (ab:Int) (ar:Sl) (bA:Sl) (H:Hp):OA:=(Hp.new H [(.sl aa),(.int .i64 ab)]).bind fun H5=>(Hp.new H5 [(.sl ar),(.sl bA)]).bind fun H6=>(Hp.ldSl H6 H.length 0).bind fun s7=>(Hp.mk H6 [.bool false] 1 (IntKind.i64.wrap (4 * (s7.n:Int))) (IntKind.i64.wrap (4 * (s7.n:Int)))).bind fun m8=>ai.l61 F bM F H.length 0 H5.length 0 (⟨none,0,.ex 0⟩:Sl) m8.1 (m8.1.n:Int) 0 m8.2
noncomputable def ai.tw (F:Nat) (aa:Sl) (ab:Int) (ar:Sl) (bA:Sl) (H:Hp):OA:=ai.twX F (bg.tw F) aa ab ar bA H
noncomputable def ai.code:Go.Code:=(Try.f103.body).getD .skip
noncomputable def ai.lh61 (F:Nat) (bM:Sl→Int→Sl→Sl→Int→Int→Hp→OA) (ks:List Nat) (n:Nat) (tm:Tm) (H:Hp):OA:=match ks,tm 2,tm 3,tm 5,tm 6,tm 17,tm 18 with
 | [],(.ptr dR e_),(.ptr ej fk),(.sl fl),(.sl fU),(.int .i64 dS),(.int .i64 dI)=>ai.l61 F bM n dR e_ ej fk fl fU dS dI H
 | _,_,_,_,_,_,_=>none
theorem ai.lh61_inv {F:Nat} {bM:Sl→Int→Sl→Sl→Int→Int→Hp→OA} {ks:List Nat} {n:Nat} {tm:Tm} {H:Hp} {r:AV×Hp} (h:ai.lh61 F bM ks n tm H = some r):∃ dR:Nat,∃ e_:Nat,∃ ej:Nat,∃ fk:Nat,∃ fl:Sl,∃ fU:Sl,∃ dS:Int,∃ dI:Int,ks = []∧tm 2 = (.ptr dR e_)∧tm 3 = (.ptr ej fk)∧tm 5 = (.sl fl)∧tm 6 = (.sl fU)∧tm 17 = (.int .i64 dS)∧tm 18 = (.int .i64 dI)∧ai.l61 F bM n dR e_ ej fk fl fU dS dI H = some r:=by
 unfold ai.lh61 at h
 split at h
 ·exact ⟨_,_,_,_,_,_,_,_,rfl,by assumption,by assumption,by assumption,by assumption,by assumption,by assumption,h⟩
 ·cases h
noncomputable def ai.lh15725 (F:Nat) (bM:Sl→Int→Sl→Sl→Int→Int→Hp→OA) (ks:List Nat) (n:Nat) (tm:Tm) (H:Hp):OA:=match ks,tm 2,tm 3,tm 5,tm 6,tm 8,tm 9,tm 17,tm 18 with
 | [bj],(.ptr cM dP),(.ptr cW eh),(.sl eU),(.sl eK),(.sl fj),(.int .i64 co),(.int .i64 dQ),(.int .i64 ei)=>ai.l15725 F bM (ai.l61 F bM bj) n cM dP cW eh eU eK dQ ei fj co H
 | _,_,_,_,_,_,_,_,_=>none
theorem ai.lh15725_inv {F:Nat} {bM:Sl→Int→Sl→Sl→Int→Int→Hp→OA} {ks:List Nat} {n:Nat} {tm:Tm} {H:Hp} {r:AV×Hp} (h:ai.lh15725 F bM ks n tm H = some r):∃ bj:Nat,∃ cM:Nat,∃ dP:Nat,∃ cW:Nat,∃ eh:Nat,∃ eU:Sl,∃ eK:Sl,∃ fj:Sl,∃ co:Int,∃ dQ:Int,∃ ei:Int,ks = [bj]∧tm 2 = (.ptr cM dP)∧tm 3 = (.ptr cW eh)∧tm 5 = (.sl eU)∧tm 6 = (.sl eK)∧tm 8 = (.sl fj)∧tm 9 = (.int .i64 co)∧tm 17 = (.int .i64 dQ)∧tm 18 = (.int .i64 ei)∧ai.l15725 F bM (ai.l61 F bM bj) n cM dP cW eh eU eK dQ ei fj co H = some r:=by
 unfold ai.lh15725 at h
 split at h
 ·exact ⟨_,_,_,_,_,_,_,_,_,_,_,rfl,by assumption,by assumption,by assumption,by assumption,by assumption,by assumption,by assumption,by assumption,h⟩
 ·cases h
noncomputable def ai.lh (F:Nat) (bM:Sl→Int→Sl→Sl→Int→Int→Hp→OA) (p:Nat) (ks:List Nat) (n:Nat) (tm:Tm) (H:Hp):OA:=bif p.beq 15725 then ai.lh15725 F bM ks n tm H else (bif p.beq 61 then ai.lh61 F bM ks n tm H else (none))
def ai.pn:Nat→List Nat:=fun i=>(([]:List (Nat×List Nat)).lookup i).getD []
def ai.tb:Nat→List (List Nat):=fun i=>(([]:List (Nat×List (List Nat))).lookup i).getD []
noncomputable def ai.mk (g:Sl→Int→Sl→Sl→Hp→OA) (args:List AV) (H:Hp):OA:=match args with
 | [(.agg [(.sl aa),(.int .i64 ab)]),(.agg [(.sl ar),(.sl bA)])]=>g aa ab ar bA H
 | _=>none
noncomputable def ai.cs (F:Nat) (bM:Sl→Int→Sl→Sl→Int→Int→Hp→OA):List (FuncId×(List AV→Hp→OA)):=[(139,bg.mk bM)]
theorem ai.loops (F:Nat) (bM:Sl→Int→Sl→Sl→Int→Int→Hp→OA):LoopsOk tabs (mkOrc (ai.cs F bM)) ai.pn (ai.lh F bM) F [] 1 ai.code (fun tm H=>aresults tabs.ty H tm Try.f103.results.toList fun v=>some (v,H)) (fun _ _ _=>none) (fun tm H=>aresults tabs.ty H tm Try.f103.results.toList fun v=>some (v,H)):=by
 refine LoopsOk.seq ?_ ?_
 ·exact loops_none (by kernel_rfl)
 ·refine LoopsOk.seq ?_ ?_
  ·exact loops_none (by kernel_rfl)
  ·refine LoopsOk.seq ?_ ?_
   ·exact loops_none (by kernel_rfl)
   ·refine LoopsOk.seq ?_ ?_
    ·refine LoopsOk.seq ?_ ?_
     ·exact loops_none (by kernel_rfl)
     ·refine LoopsOk.block ?_
      refine LoopsOk.loop (fun tm H=>?_) (fun k61 tm H r h0=>?_) (fun k61=>?_)
      ·refine none_of fun r h0=>?_
       obtain ⟨dR,e_,ej,fk,fl,fU,dS,dI,hks,e2,e3,e5,e6,e17,e18,h⟩:=ai.lh61_inv (show ai.lh61 F bM [] 0 tm H = some r from h0)
       cases h
      ·obtain ⟨dR,e_,ej,fk,fl,fU,dS,dI,hks,e2,e3,e5,e6,e17,e18,h⟩:=ai.lh61_inv (show ai.lh61 F bM [] (k61 + 1) tm H = some r from h0)
       have q0:(Tm.put tm 2 (.ptr dR e_)) = tm:=by exact Tm.put_same e2
       have q1:(Tm.put (Tm.put tm 2 (.ptr dR e_)) 3 (.ptr ej fk)) = tm:=by rw [q0]; exact Tm.put_same e3
       have q2:(Tm.put (Tm.put (Tm.put tm 2 (.ptr dR e_)) 3 (.ptr ej fk)) 5 (.sl fl)) = tm:=by rw [q1]; exact Tm.put_same e5
       have q3:(Tm.put (Tm.put (Tm.put (Tm.put tm 2 (.ptr dR e_)) 3 (.ptr ej fk)) 5 (.sl fl)) 6 (.sl fU)) = tm:=by rw [q2]; exact Tm.put_same e6
       have q4:(Tm.put (Tm.put (Tm.put (Tm.put (Tm.put tm 2 (.ptr dR e_)) 3 (.ptr ej fk)) 5 (.sl fl)) 6 (.sl fU)) 17 (.int .i64 dS)) = tm:=by rw [q3]; exact Tm.put_same e17
       have q5:(Tm.put (Tm.put (Tm.put (Tm.put (Tm.put (Tm.put tm 2 (.ptr dR e_)) 3 (.ptr ej fk)) 5 (.sl fl)) 6 (.sl fU)) 17 (.int .i64 dS)) 18 (.int .i64 dI)) = tm:=by rw [q4]; exact Tm.put_same e18
       rw [← q5]
       exact Eq.trans (by kernel_rfl) h
      ·refine LoopsOk.seq ?_ ?_
       ·exact loops_none (by kernel_rfl)
       ·refine LoopsOk.seq ?_ ?_
        ·exact loops_none (by kernel_rfl)
        ·refine LoopsOk.seq ?_ ?_
         ·refine LoopsOk.block ?_
          refine LoopsOk.seq ?_ ?_
          ·exact loops_none (by kernel_rfl)
          ·refine LoopsOk.seq ?_ ?_
           ·exact loops_none (by kernel_rfl)
           ·refine LoopsOk.seq ?_ ?_
            ·refine LoopsOk.seq ?_ ?_
             ·exact loops_none (by kernel_rfl)
             ·refine LoopsOk.block ?_
              refine LoopsOk.loop (fun tm H=>?_) (fun k15725 tm H r h0=>?_) (fun k15725=>?_)
              ·refine none_of fun r h0=>?_
               obtain ⟨bj,cM,dP,cW,eh,eU,eK,fj,co,dQ,ei,hks,e2,e3,e5,e6,e8,e9,e17,e18,h⟩:=ai.lh15725_inv (show ai.lh15725 F bM [k61] 0 tm H = some r from h0)
               cases h
              ·obtain ⟨bj,cM,dP,cW,eh,eU,eK,fj,co,dQ,ei,hks,e2,e3,e5,e6,e8,e9,e17,e18,h⟩:=ai.lh15725_inv (show ai.lh15725 F bM [k61] (k15725 + 1) tm H = some r from h0)
               obtain rfl:bj = k61:=by simpa [eq_comm] using hks
               have q0:(Tm.put tm 2 (.ptr cM dP)) = tm:=by exact Tm.put_same e2
               have q1:(Tm.put (Tm.put tm 2 (.ptr cM dP)) 3 (.ptr cW eh)) = tm:=by rw [q0]; exact Tm.put_same e3
               have q2:(Tm.put (Tm.put (Tm.put tm 2 (.ptr cM dP)) 3 (.ptr cW eh)) 5 (.sl eU)) = tm:=by rw [q1]; exact Tm.put_same e5
               have q3:(Tm.put (Tm.put (Tm.put (Tm.put tm 2 (.ptr cM dP)) 3 (.ptr cW eh)) 5 (.sl eU)) 6 (.sl eK)) = tm:=by rw [q2]; exact Tm.put_same e6
               have q4:(Tm.put (Tm.put (Tm.put (Tm.put (Tm.put tm 2 (.ptr cM dP)) 3 (.ptr cW eh)) 5 (.sl eU)) 6 (.sl eK)) 8 (.sl fj)) = tm:=by rw [q3]; exact Tm.put_same e8
               have q5:(Tm.put (Tm.put (Tm.put (Tm.put (Tm.put (Tm.put tm 2 (.ptr cM dP)) 3 (.ptr cW eh)) 5 (.sl eU)) 6 (.sl eK)) 8 (.sl fj)) 9 (.int .i64 co)) = tm:=by rw [q4]; exact Tm.put_same e9
               have q6:(Tm.put (Tm.put (Tm.put (Tm.put (Tm.put (Tm.put (Tm.put tm 2 (.ptr cM dP)) 3 (.ptr cW eh)) 5 (.sl eU)) 6 (.sl eK)) 8 (.sl fj)) 9 (.int .i64 co)) 17 (.int .i64 dQ)) = tm:=by rw [q5]; exact Tm.put_same e17
               have q7:(Tm.put (Tm.put (Tm.put (Tm.put (Tm.put (Tm.put (Tm.put (Tm.put tm 2 (.ptr cM dP)) 3 (.ptr cW eh)) 5 (.sl eU)) 6 (.sl eK)) 8 (.sl fj)) 9 (.int .i64 co)) 17 (.int .i64 dQ)) 18 (.int .i64 ei)) = tm:=by rw [q6]; exact Tm.put_same e18
               rw [← q7]
               exact Eq.trans (by kernel_rfl) h
              ·exact loops_none (by kernel_rfl)
            ·exact loops_none (by kernel_rfl)
         ·exact loops_none (by kernel_rfl)
    ·exact loops_none (by kernel_rfl)
theorem ai.eqX (F:Nat) (bM:Sl→Int→Sl→Sl→Int→Int→Hp→OA) (aa:Sl) (ab:Int) (ar:Sl) (bA:Sl) (H:Hp):aCode tabs (mkOrc (ai.cs F bM)) ai.pn (ai.lh F bM) F [] 1 ai.code (argTm [(.agg [(.sl aa),(.int .i64 ab)]),(.agg [(.sl ar),(.sl bA)])]) H (fun tm H=>aresults tabs.ty H tm Try.f103.results.toList fun v=>some (v,H)) (fun _ _ _=>none) (fun tm H=>aresults tabs.ty H tm Try.f103.results.toList fun v=>some (v,H)) = ai.twX F bM aa ab ar bA H:=by kernel_rfl
theorem ai.cs_ok (F:Nat):∀ p ∈ ai.cs F (bg.tw F),∀ args H v H',p.2 args H = some (v,H')→Go.AE.T Try.prog p.1 args H v H':=by
 intro p hp
 simp only [ai.cs,List.mem_cons,List.not_mem_nil,or_false] at hp
 subst hp
 exact fun args H v H' h=>bg.mk_T h
theorem ai.ok:codeOk ai.pn Try.f103.ntmps ai.tb ai.code = true:=by kernel_rfl
theorem ai.T {F:Nat} {aa:Sl} {ab:Int} {ar:Sl} {bA:Sl} {H:Hp} {v:AV} {H':Hp} (h:ai.tw F aa ab ar bA H = some (v,H')):Go.AE.T Try.prog 103 [(.agg [(.sl aa),(.int .i64 ab)]),(.agg [(.sl ar),(.sl bA)])] H v H':=
 Go.AE.T.of (Y:=tabs) (C:=mkOrc (ai.cs F (bg.tw F))) (PN:=ai.pn) (LH:=ai.lh F (bg.tw F)) (F:=F) (TB:=ai.tb) (fn:=Try.f103) (code:=ai.code) mixed tabs_ok (mkOrc_ok (ai.cs_ok F)) Try.func103 (by kernel_rfl) (by kernel_rfl) ai.ok (Nat.le_of_ble_eq_true (by kernel_rfl)) (ai.loops F (bg.tw F)) (Eq.trans (ai.eqX F (bg.tw F) aa ab ar bA H) h)
theorem ai.mk_T {F:Nat} {args:List AV} {H:Hp} {v:AV} {H':Hp} (h:ai.mk (ai.tw F) args H = some (v,H')):Go.AE.T Try.prog 103 args H v H':=by
 unfold ai.mk at h
 split at h
 ·exact ai.T h
 ·cases h
noncomputable def bx.twX (F:Nat) (aa:Sl) (H:Hp):OA:=some ((.int .i64 (aa.n:Int)),H)
noncomputable def bx.tw (F:Nat) (aa:Sl) (H:Hp):OA:=bx.twX F aa H
noncomputable def bx.code:Go.Code:=(Try.f89.body).getD .skip
noncomputable def bx.lh (F:Nat) (p:Nat) (ks:List Nat) (n:Nat) (tm:Tm) (H:Hp):OA:=none
def bx.pn:Nat→List Nat:=fun i=>(([]:List (Nat×List Nat)).lookup i).getD []
def bx.tb:Nat→List (List Nat):=fun i=>(([]:List (Nat×List (List Nat))).lookup i).getD []
noncomputable def bx.mk (g:Sl→Hp→OA) (args:List AV) (H:Hp):OA:=match args with
 | [(.sl aa)]=>g aa H
 | _=>none
noncomputable def bx.cs (F:Nat):List (FuncId×(List AV→Hp→OA)):=[]
theorem bx.loops (F:Nat):LoopsOk tabs (mkOrc (bx.cs F)) bx.pn (bx.lh F) F [] 1 bx.code (fun tm H=>aresults tabs.ty H tm Try.f89.results.toList fun v=>some (v,H)) (fun _ _ _=>none) (fun tm H=>aresults tabs.ty H tm Try.f89.results.toList fun v=>some (v,H)):=by
 exact loops_none (by kernel_rfl)
theorem bx.eqX (F:Nat) (aa:Sl) (H:Hp):aCode tabs (mkOrc (bx.cs F)) bx.pn (bx.lh F) F [] 1 bx.code (argTm [(.sl aa)]) H (fun tm H=>aresults tabs.ty H tm Try.f89.results.toList fun v=>some (v,H)) (fun _ _ _=>none) (fun tm H=>aresults tabs.ty H tm Try.f89.results.toList fun v=>some (v,H)) = bx.twX F aa H:=by kernel_rfl
theorem bx.cs_ok (F:Nat):∀ p ∈ bx.cs F,∀ args H v H',p.2 args H = some (v,H')→Go.AE.T Try.prog p.1 args H v H':=by
 intro p hp
 exact absurd (show p ∈ [] from hp) List.not_mem_nil
theorem bx.ok:codeOk bx.pn Try.f89.ntmps bx.tb bx.code = true:=by kernel_rfl
theorem bx.T {F:Nat} {aa:Sl} {H:Hp} {v:AV} {H':Hp} (h:bx.tw F aa H = some (v,H')):Go.AE.T Try.prog 89 [(.sl aa)] H v H':=
 Go.AE.T.of (Y:=tabs) (C:=mkOrc (bx.cs F)) (PN:=bx.pn) (LH:=bx.lh F) (F:=F) (TB:=bx.tb) (fn:=Try.f89) (code:=bx.code) mixed tabs_ok (mkOrc_ok (bx.cs_ok F)) Try.func89 (by kernel_rfl) (by kernel_rfl) bx.ok (Nat.le_of_ble_eq_true (by kernel_rfl)) (bx.loops F) (Eq.trans (bx.eqX F aa H) h)
theorem bx.mk_T {F:Nat} {args:List AV} {H:Hp} {v:AV} {H':Hp} (h:bx.mk (bx.tw F) args H = some (v,H')):Go.AE.T Try.prog 89 args H v H':=by
 unfold bx.mk at h
 split at h
 ·exact bx.T h
 ·cases h
noncomputable def aA.l29 (F:Nat) :Nat→Sl→Int→Int→Hp→OA
 | 0,_,_,_,_=>none
 | eN + 1,fB,dU,du,H7=>(bif (decide (du < dU)) then ((Hp.new H7 [(.int .i64 du)]).bind fun H11=>(Sl.row H11 (⟨some (H7.length,0),1,.ex 1⟩:Sl) 1).bind fun xs13=>(Hp.app H11 1 8 fB (⟨some (H7.length,0),1,.ex 1⟩:Sl).n xs13).bind fun a12=>aA.l29 F eN a12.1 dU (IntKind.i64.wrap (du + 1)) a12.2) else (some ((.sl fB),H7)))
termination_by structural n=>n
noncomputable def aA.twX (F:Nat) (aa:Int) (H:Hp):OA:=aA.l29 F F (⟨none,0,.ex 0⟩:Sl) aa 0 H
noncomputable def aA.tw (F:Nat) (aa:Int) (H:Hp):OA:=aA.twX F aa H
noncomputable def aA.code:Go.Code:=(Try.f116.body).getD .skip
noncomputable def aA.lh29 (F:Nat) (ks:List Nat) (n:Nat) (tm:Tm) (H:Hp):OA:=match ks,tm 3,tm 5,tm 6 with
 | [],(.sl fB),(.int .i64 dU),(.int .i64 du)=>aA.l29 F n fB dU du H
 | _,_,_,_=>none
theorem aA.lh29_inv {F:Nat} {ks:List Nat} {n:Nat} {tm:Tm} {H:Hp} {r:AV×Hp} (h:aA.lh29 F ks n tm H = some r):∃ fB:Sl,∃ dU:Int,∃ du:Int,ks = []∧tm 3 = (.sl fB)∧tm 5 = (.int .i64 dU)∧tm 6 = (.int .i64 du)∧aA.l29 F n fB dU du H = some r:=by
 unfold aA.lh29 at h
 split at h
 ·exact ⟨_,_,_,rfl,by assumption,by assumption,by assumption,h⟩
 ·cases h
noncomputable def aA.lh (F:Nat) (p:Nat) (ks:List Nat) (n:Nat) (tm:Tm) (H:Hp):OA:=bif p.beq 29 then aA.lh29 F ks n tm H else (none)
def aA.pn:Nat→List Nat:=fun i=>(([]:List (Nat×List Nat)).lookup i).getD []
def aA.tb:Nat→List (List Nat):=fun i=>(([]:List (Nat×List (List Nat))).lookup i).getD []
noncomputable def aA.mk (g:Int→Hp→OA) (args:List AV) (H:Hp):OA:=match args with
 | [(.int .i64 aa)]=>g aa H
 | _=>none
noncomputable def aA.cs (F:Nat):List (FuncId×(List AV→Hp→OA)):=[]
theorem aA.loops (F:Nat):LoopsOk tabs (mkOrc (aA.cs F)) aA.pn (aA.lh F) F [] 1 aA.code (fun tm H=>aresults tabs.ty H tm Try.f116.results.toList fun v=>some (v,H)) (fun _ _ _=>none) (fun tm H=>aresults tabs.ty H tm Try.f116.results.toList fun v=>some (v,H)):=by
 refine LoopsOk.seq ?_ ?_
 ·exact loops_none (by kernel_rfl)
 ·refine LoopsOk.seq ?_ ?_
  ·exact loops_none (by kernel_rfl)
  ·refine LoopsOk.seq ?_ ?_
   ·refine LoopsOk.seq ?_ ?_
    ·exact loops_none (by kernel_rfl)
    ·refine LoopsOk.block ?_
     refine LoopsOk.loop (fun tm H=>?_) (fun k29 tm H r h0=>?_) (fun k29=>?_)
     ·refine none_of fun r h0=>?_
      obtain ⟨fB,dU,du,hks,e3,e5,e6,h⟩:=aA.lh29_inv (show aA.lh29 F [] 0 tm H = some r from h0)
      cases h
     ·obtain ⟨fB,dU,du,hks,e3,e5,e6,h⟩:=aA.lh29_inv (show aA.lh29 F [] (k29 + 1) tm H = some r from h0)
      have q0:(Tm.put tm 3 (.sl fB)) = tm:=by exact Tm.put_same e3
      have q1:(Tm.put (Tm.put tm 3 (.sl fB)) 5 (.int .i64 dU)) = tm:=by rw [q0]; exact Tm.put_same e5
      have q2:(Tm.put (Tm.put (Tm.put tm 3 (.sl fB)) 5 (.int .i64 dU)) 6 (.int .i64 du)) = tm:=by rw [q1]; exact Tm.put_same e6
      rw [← q2]
      exact Eq.trans (by kernel_rfl) h
     ·exact loops_none (by kernel_rfl)
   ·exact loops_none (by kernel_rfl)
theorem aA.eqX (F:Nat) (aa:Int) (H:Hp):aCode tabs (mkOrc (aA.cs F)) aA.pn (aA.lh F) F [] 1 aA.code (argTm [(.int .i64 aa)]) H (fun tm H=>aresults tabs.ty H tm Try.f116.results.toList fun v=>some (v,H)) (fun _ _ _=>none) (fun tm H=>aresults tabs.ty H tm Try.f116.results.toList fun v=>some (v,H)) = aA.twX F aa H:=by kernel_rfl
theorem aA.cs_ok (F:Nat):∀ p ∈ aA.cs F,∀ args H v H',p.2 args H = some (v,H')→Go.AE.T Try.prog p.1 args H v H':=by
 intro p hp
 exact absurd (show p ∈ [] from hp) List.not_mem_nil
theorem aA.ok:codeOk aA.pn Try.f116.ntmps aA.tb aA.code = true:=by kernel_rfl
theorem aA.T {F:Nat} {aa:Int} {H:Hp} {v:AV} {H':Hp} (h:aA.tw F aa H = some (v,H')):Go.AE.T Try.prog 116 [(.int .i64 aa)] H v H':=
 Go.AE.T.of (Y:=tabs) (C:=mkOrc (aA.cs F)) (PN:=aA.pn) (LH:=aA.lh F) (F:=F) (TB:=aA.tb) (fn:=Try.f116) (code:=aA.code) mixed tabs_ok (mkOrc_ok (aA.cs_ok F)) Try.func116 (by kernel_rfl) (by kernel_rfl) aA.ok (Nat.le_of_ble_eq_true (by kernel_rfl)) (aA.loops F) (Eq.trans (aA.eqX F aa H) h)
theorem aA.mk_T {F:Nat} {args:List AV} {H:Hp} {v:AV} {H':Hp} (h:aA.mk (aA.tw F) args H = some (v,H')):Go.AE.T Try.prog 116 args H v H':=by
 unfold aA.mk at h
 split at h
 ·exact aA.T h
 ·cases h
noncomputable def av.j2 (F:Nat) (C7_:Sl→Int→Int→Sl→Int→Int→Hp→OA) (xm:Sl) (jk:Int) (jl:Int) (xn:Sl) (jm:Int) (jn:Int) (H50:Hp):OA:=C7_ xm jk jl xn jm (IntKind.i64.wrap (jn + 1)) H50
noncomputable def av.l7 (F:Nat) :Nat→Sl→Int→Int→Sl→Int→Int→Hp→OA
 | 0,_,_,_,_,_,_,_=>none
 | rJ + 1,cd,cN,cX,fm,dB,cO,H16=>(bif (decide (cO < dB)) then ((Sl.idx fm cO 1).bind fun p34=>(Hp.ldI H16 .i64 p34.1 p34.2).bind fun n35=>(bif (n35 == cN) then ((Sl.idx cd cO 1).bind fun p36=>(Hp.st H16 p36.1 p36.2 (.int .i64 cX)).bind fun H37=>av.j2 F (av.l7 F rJ) cd cN cX fm dB cO H37) else (av.j2 F (av.l7 F rJ) cd cN cX fm dB cO H16))) else (some ((.tup []),H16)))
termination_by structural n=>n
noncomputable def av.twX (F:Nat) (aa:Sl) (ae:Int) (bC:Int) (H:Hp):OA:=(Sl.idx aa bC 1).bind fun p4=>(Hp.ldI H .i64 p4.1 p4.2).bind fun n5=>(Sl.idx aa ae 1).bind fun p6=>(Hp.ldI H .i64 p6.1 p6.2).bind fun n7=>av.l7 F F aa n5 n7 aa (aa.n:Int) 0 H
noncomputable def av.tw (F:Nat) (aa:Sl) (ae:Int) (bC:Int) (H:Hp):OA:=av.twX F aa ae bC H
noncomputable def av.code:Go.Code:=(Try.f118.body).getD .skip
noncomputable def av.lh7 (F:Nat) (ks:List Nat) (n:Nat) (tm:Tm) (H:Hp):OA:=match ks,tm 0,tm 6,tm 7,tm 18,tm 19,tm 20 with
 | [],(.sl cd),(.int .i64 cN),(.int .i64 cX),(.sl fm),(.int .i64 dB),(.int .i64 cO)=>av.l7 F n cd cN cX fm dB cO H
 | _,_,_,_,_,_,_=>none
theorem av.lh7_inv {F:Nat} {ks:List Nat} {n:Nat} {tm:Tm} {H:Hp} {r:AV×Hp} (h:av.lh7 F ks n tm H = some r):∃ cd:Sl,∃ cN:Int,∃ cX:Int,∃ fm:Sl,∃ dB:Int,∃ cO:Int,ks = []∧tm 0 = (.sl cd)∧tm 6 = (.int .i64 cN)∧tm 7 = (.int .i64 cX)∧tm 18 = (.sl fm)∧tm 19 = (.int .i64 dB)∧tm 20 = (.int .i64 cO)∧av.l7 F n cd cN cX fm dB cO H = some r:=by
 unfold av.lh7 at h
 split at h
 ·exact ⟨_,_,_,_,_,_,rfl,by assumption,by assumption,by assumption,by assumption,by assumption,by assumption,h⟩
 ·cases h
noncomputable def av.lh (F:Nat) (p:Nat) (ks:List Nat) (n:Nat) (tm:Tm) (H:Hp):OA:=bif p.beq 7 then av.lh7 F ks n tm H else (none)
def av.pn:Nat→List Nat:=fun i=>(([(0,[])]:List (Nat×List Nat)).lookup i).getD []
def av.tb:Nat→List (List Nat):=fun i=>(([(0,[[],[],[0,1],[0,1,2],[],[],[4,5],[4,5,6],[0,1,2,3],[0,1,2,3,4,5,6,7,8]])]:List (Nat×List (List Nat))).lookup i).getD []
noncomputable def av.mk (g:Sl→Int→Int→Hp→OA) (args:List AV) (H:Hp):OA:=match args with
 | [(.sl aa),(.int .i64 ae),(.int .i64 bC)]=>g aa ae bC H
 | _=>none
noncomputable def av.cs (F:Nat):List (FuncId×(List AV→Hp→OA)):=[]
theorem av.loops (F:Nat):LoopsOk tabs (mkOrc (av.cs F)) av.pn (av.lh F) F [] 1 av.code (fun tm H=>aresults tabs.ty H tm Try.f118.results.toList fun v=>some (v,H)) (fun _ _ _=>none) (fun tm H=>aresults tabs.ty H tm Try.f118.results.toList fun v=>some (v,H)):=by
 refine LoopsOk.seq ?_ ?_
 ·exact loops_none (by kernel_rfl)
 ·refine LoopsOk.seq ?_ ?_
  ·exact loops_none (by kernel_rfl)
  ·refine LoopsOk.block ?_
   refine LoopsOk.loop (fun tm H=>?_) (fun k7 tm H r h0=>?_) (fun k7=>?_)
   ·refine none_of fun r h0=>?_
    obtain ⟨cd,cN,cX,fm,dB,cO,hks,e0,e6,e7,e18,e19,e20,h⟩:=av.lh7_inv (show av.lh7 F [] 0 tm H = some r from h0)
    cases h
   ·obtain ⟨cd,cN,cX,fm,dB,cO,hks,e0,e6,e7,e18,e19,e20,h⟩:=av.lh7_inv (show av.lh7 F [] (k7 + 1) tm H = some r from h0)
    have q0:(Tm.put tm 0 (.sl cd)) = tm:=by exact Tm.put_same e0
    have q1:(Tm.put (Tm.put tm 0 (.sl cd)) 6 (.int .i64 cN)) = tm:=by rw [q0]; exact Tm.put_same e6
    have q2:(Tm.put (Tm.put (Tm.put tm 0 (.sl cd)) 6 (.int .i64 cN)) 7 (.int .i64 cX)) = tm:=by rw [q1]; exact Tm.put_same e7
    have q3:(Tm.put (Tm.put (Tm.put (Tm.put tm 0 (.sl cd)) 6 (.int .i64 cN)) 7 (.int .i64 cX)) 18 (.sl fm)) = tm:=by rw [q2]; exact Tm.put_same e18
    have q4:(Tm.put (Tm.put (Tm.put (Tm.put (Tm.put tm 0 (.sl cd)) 6 (.int .i64 cN)) 7 (.int .i64 cX)) 18 (.sl fm)) 19 (.int .i64 dB)) = tm:=by rw [q3]; exact Tm.put_same e19
    have q5:(Tm.put (Tm.put (Tm.put (Tm.put (Tm.put (Tm.put tm 0 (.sl cd)) 6 (.int .i64 cN)) 7 (.int .i64 cX)) 18 (.sl fm)) 19 (.int .i64 dB)) 20 (.int .i64 cO)) = tm:=by rw [q4]; exact Tm.put_same e20
    rw [← q5]
    exact Eq.trans (by kernel_rfl) h
   ·exact loops_none (by kernel_rfl)
theorem av.eqX (F:Nat) (aa:Sl) (ae:Int) (bC:Int) (H:Hp):aCode tabs (mkOrc (av.cs F)) av.pn (av.lh F) F [] 1 av.code (argTm [(.sl aa),(.int .i64 ae),(.int .i64 bC)]) H (fun tm H=>aresults tabs.ty H tm Try.f118.results.toList fun v=>some (v,H)) (fun _ _ _=>none) (fun tm H=>aresults tabs.ty H tm Try.f118.results.toList fun v=>some (v,H)) = av.twX F aa ae bC H:=by kernel_rfl
theorem av.cs_ok (F:Nat):∀ p ∈ av.cs F,∀ args H v H',p.2 args H = some (v,H')→Go.AE.T Try.prog p.1 args H v H':=by
 intro p hp
 exact absurd (show p ∈ [] from hp) List.not_mem_nil
theorem av.ok:codeOk av.pn Try.f118.ntmps av.tb av.code = true:=by kernel_rfl
theorem av.T {F:Nat} {aa:Sl} {ae:Int} {bC:Int} {H:Hp} {v:AV} {H':Hp} (h:av.tw F aa ae bC H = some (v,H')):Go.AE.T Try.prog 118 [(.sl aa),(.int .i64 ae),(.int .i64 bC)] H v H':=
 Go.AE.T.of (Y:=tabs) (C:=mkOrc (av.cs F)) (PN:=av.pn) (LH:=av.lh F) (F:=F) (TB:=av.tb) (fn:=Try.f118) (code:=av.code) mixed tabs_ok (mkOrc_ok (av.cs_ok F)) Try.func118 (by kernel_rfl) (by kernel_rfl) av.ok (Nat.le_of_ble_eq_true (by kernel_rfl)) (av.loops F) (Eq.trans (av.eqX F aa ae bC H) h)
theorem av.mk_T {F:Nat} {args:List AV} {H:Hp} {v:AV} {H':Hp} (h:av.mk (av.tw F) args H = some (v,H')):Go.AE.T Try.prog 118 args H v H':=by
 unfold av.mk at h
 split at h
 ·exact av.T h
 ·cases h
theorem nm_law:Keyed Try.prog 2:=int_keyed Try.underlying2
theorem nm_zero (w:World):(zeroValue 2).run Try.prog w = .ok (.int .i64 0) w:=by kernel_rfl
theorem nm_info:(Try.prog.info? 2).map (fun i=>(i.zero,i.size,i.bytes)) = some (some (.int .i64 0),1,8):=by kernel_rfl
theorem nm_none (a:Option Addr) (cap:Nat) (w:World):Calls Try.prog 119 #[.slice a 0 cap] w fun e w'=>e = .returned (.slice none 0 0)∧Below w.heap.size w w':=by
 have hmm:=@run_makeMap Try.prog
 go_enter Try.func119,Try.ntmps119
 go_wp2
 refine wp_loop_rounds 1 ?_
 rw [rounds_succ]
 go_wp2
 go_ret
 exact ⟨rfl,(Below.refl _ _).alloc (Nat.le_refl _) _⟩
theorem nm_any (b off len cap:Nat) (zs:List Int) (w:World) (hreach:len ≤ 4294967296) (hz:len ≤ zs.length) (hb:b < w.heap.size)
  (hc:∀ j,j < zs.length→w.cell? ⟨b,off + j,none⟩ = some (.int .i64 (zs.getD j 0))) (hwz:∀ n ∈ zs,(Lit.int .i64 n).wf = true) :
  Calls Try.prog 119 #[.slice (some ⟨b,off,none⟩) len cap] w fun e w'=>∃ v,e = .returned v∧w'.ownsRow (w.heap.size + 1) 2 1 v len ((nst zs len).2.map (Value.int .i64))∧Below w.heap.size w w':=by
 have hmm:=@run_makeMap Try.prog
 obtain ⟨i0,hi,hz0,hz1,hz2⟩:=info_parts nm_info
 go_enter Try.func119,Try.ntmps119
 go_wp2
 go_loopw [4,12] (fun v i wr=>∃ (k:Nat) (D:DataW Unit),k ≤ len∧i = .int .i64 k∧wr.ownsMap Try.prog 2 (plainElem Try.prog 2) w.heap.size k D∧ND D (nst zs k).1 ∧
   wr.ownsRow (w.heap.size + 1) 2 1 v k ((nst zs k).2.map (Value.int .i64))∧Below w.heap.size w wr∧w.heap.size + 1 ≤ wr.heap.size)
  (fun _ i _=>len - (intOf i).toNat)
 case atStart=>exact ⟨0,.map [],Nat.zero_le _,rfl,World.ownsMap_made _ _ _ _,ND.nil,World.ownsRow_nil _ _ _ _,(Below.refl _ _).alloc (Nat.le_refl _) _,by simp⟩
 case round=>
  obtain ⟨k,D,hk,rfl,hown,hD,hrow,hnx,hws⟩:=hrel
  obtain ⟨x,hx⟩:∃ x,x = zs.getD k 0:=⟨_,rfl⟩
  have hwx:(Lit.int .i64 x).wf = true:=by rw [hx]; exact wf_gd hwz k
  have hcx:k < len→wr.cell? ⟨b,off + k,none⟩ = some (.int .i64 x):=fun _=>by rw [hx]; exact (hnx.cell (by exact hb)).trans (hc k (by omega))
  have hkey:keyOf Try.prog 2 (.int .i64 x) = some (.int .i64 x):=keyOf_int_mk Try.underlying2 hwx
  have hl1:=nst_len1 zs k
  have hs1:Maps.size D ≤ k:=by rw [hD.size]; exact hl1
  have hht:=hown.tidy nm_law
  have n1:nst zs (k + 1) = (bif (nst zs k).1.contains x then (nst zs k).1 else (nst zs k).1 ++ [x],(nst zs k).2 ++ [(((bif (nst zs k).1.contains x then (nst zs k).1 else (nst zs k).1 ++ [x]).idxOf x:Nat):Int)]):=by rw [hx]; rfl
  clear hx
  go_wp2_with (first
   | (at_lookup; first
     | (refine wpList_lookup_own_ok_int _ rfl _ _ 157 rfl 2 2 .i64 nm_law Try.underlying157 Try.underlying2 (nm_zero _) w.heap.size k _ rfl hown _ _ rfl hkey ?_; intro c hat hwc)
     | (refine wpList_lookup_own_int _ rfl _ _ 157 rfl 2 2 .i64 nm_law Try.underlying157 Try.underlying2 (nm_zero _) w.heap.size (k + 1) _ rfl hown1 _ _ rfl hkey ?_; intro c2 hat2 hwc2)
     | (refine wpList_lookup_own_int _ rfl _ _ 157 rfl 2 2 .i64 nm_law Try.underlying157 Try.underlying2 (nm_zero _) w.heap.size k _ rfl hown _ _ rfl hkey ?_; intro c2 hat2 hwc2))
   | (at_len; refine wpList_len_own _ rfl _ 157 rfl 2 2 Try.underlying157 _ w.heap.size k _ rfl hown ?_)
   | (at_mapUpdate; refine wpList_mapUpdate_own _ rfl _ _ _ 157 rfl 2 2 nm_law Try.underlying157 (plainElem Try.prog 2) w.heap.size k _ rfl hown (by unfold maxLen; omega) _ _ _ rfl rfl hkey _ [] (plainElem_int Try.underlying2 (WalkArith.wf_i64 (by omega))) ?_; intro w1 hown1 hgrow1)
   | (at_builtin; first
     | (refine wpList_append_own _ rfl _ _ 26 rfl (w.heap.size + 1) 2 i0 (.int .i64 0) 1 8 Try.underlying26 hi hz0 hz1 hz2 rfl (by decide) _ _ _ rfl ((hrow.kept hgrow1 (Or.inr (rowNe hrow (Nat.lt_succ_self _)).symm)).alloc _) ⟨w1.heap.size,0,none⟩ 1 1 [.int .i64 c2] rfl rfl (cell_one_new _ _ _) (ints_oneCell .i64 [c2]) (by unfold maxLen; omega) (by omega) (by have:=hgrow1.size; simp at this ⊢; omega) ?_; intro v' w2 hown' hgrow2 hnil2)
     | (refine wpList_append_own _ rfl _ _ 26 rfl (w.heap.size + 1) 2 i0 (.int .i64 0) 1 8 Try.underlying26 hi hz0 hz1 hz2 rfl (by decide) _ _ _ rfl (hrow.alloc _) ⟨wr.heap.size,0,none⟩ 1 1 [.int .i64 c2] rfl rfl (cell_one_new _ _ _) (ints_oneCell .i64 [c2]) (by unfold maxLen; omega) (by omega) (by simp; omega) ?_; intro v' w2 hown' hgrow2 hnil2))
   | go_in)
  ·have hlt:k < len:=by assumption
   have ht:(!Maps.has D (Lit.int .i64 x)) = true:=by assumption
   have hc0:(nst zs k).1.contains x = false:=by rw [← hD.has x]; simpa using ht
   have hr1:=hrow.kept hgrow1 (Or.inr (rowNe hrow (Nat.lt_succ_self _)).symm)
   have s1:=hgrow1.size
   have s2:=hgrow2.size
   simp at s1 s2
   have hD1:=hD.new hht hc0
   rw [hD1.at_ x (by simp) _] at hat2
   have e2:c2 = (((nst zs k).1 ++ [x]).idxOf x:Nat):=by injection hat2 with q; injection q with _ q; exact q.symm
   rw [hc0,cond_false] at n1
   go_roundw
   case rel=>
    refine ⟨k + 1,_,by omega,by go_num,(hown1.alloc _).kept hgrow2 (rowNe hr1 (Nat.lt_succ_self _)),by rw [n1]; exact hD1,?_,?_,by omega⟩
    ·rw [n1,List.map_append,← e2]; exact hown'
    ·exact (((hnx.grown hgrow1 hnx.size (fun j hj=>by cases hj; exact Nat.le_refl _)).alloc (by omega) _).grown hgrow2 (by simp; omega) (fun j hj=>Nat.le_trans (Nat.le_succ _) (hr1.lt j hj).1))
   case measure=>simp [intOf]; omega
  ·have hlt:k < len:=by assumption
   have ht:(!Maps.has D (Lit.int .i64 x)) = false:=by assumption
   have hc1:(nst zs k).1.contains x = true:=by rw [← hD.has x]; simpa using ht
   have s2:=hgrow2.size
   simp at s2
   rw [hD.at_ x hc1 _] at hat2
   have e2:c2 = ((nst zs k).1.idxOf x:Nat):=by injection hat2 with q; injection q with _ q; exact q.symm
   rw [hc1,cond_true] at n1
   go_roundw
   case rel=>
    refine ⟨k + 1,_,by omega,by go_num,((hown.alloc _).kept hgrow2 (rowNe hrow (Nat.lt_succ_self _))).mono (Nat.le_succ _),by rw [n1]; exact hD,?_,?_,by omega⟩
    ·rw [n1,List.map_append,← e2]; exact hown'
    ·exact ((hnx.alloc hnx.size _).grown hgrow2 (by simp; omega) (fun j hj=>Nat.le_trans (Nat.le_succ _) (hrow.lt j hj).1))
   case measure=>simp [intOf]; omega
  ·have:k = len:=by omega
   subst this
   go_ret
   exact ⟨_,rfl,hrow,hnx⟩
theorem nm_ok:NumOk Try.prog 119 2:=⟨nm_none,nm_any⟩
noncomputable def bN.tw (F:Nat) (aa:Sl) (H:Hp):OA:=numTw aa H
noncomputable def bN.mk (g:Sl→Hp→OA) (args:List AV) (H:Hp):OA:=match args with
 | [.sl aa]=>g aa H
 | _=>none
theorem bN.T {F:Nat} {aa:Sl} {H:Hp} {v:AV} {H':Hp} (h:bN.tw F aa H = some (v,H')):Go.AE.T Try.prog 119 [.sl aa] H v H':=
 nm_ok.T (enters_of Try.func119 (by kernel_rfl) (by kernel_rfl)) h
theorem bN.mk_T {F:Nat} {args:List AV} {H:Hp} {v:AV} {H':Hp} (h:bN.mk (bN.tw F) args H = some (v,H')):Go.AE.T Try.prog 119 args H v H':=by
 unfold bN.mk at h
 split at h
 ·exact bN.T h
 ·cases h
noncomputable def aH.l29 (F:Nat) (bz:Sl→Hp→OA) (bH:Int→Hp→OA) (bI:Sl→Int→Int→Hp→OA) (bJ:Sl→Hp→OA) :Nat→Nat→Nat→Sl→Sl→Int→Int→Hp→OA
 | 0,_,_,_,_,_,_,_=>none
 | eN + 1,dV,fa,fb,fC,dW,dv,H26=>(bif (decide (dv < dW)) then ((Sl.idx fC dv 2).bind fun p40=>(Hp.ldI H26 .i64 p40.1 p40.2).bind fun n41=>(Hp.ldI H26 .i64 p40.1 (p40.2 + 1)).bind fun n42=>(Hp.new H26 [.int .i64 0,.int .i64 0]).bind fun H43=>(Hp.st H43 H26.length 0 (.int .i64 n41)).bind fun H44=>(Hp.st H44 H26.length (0 + 1) (.int .i64 n42)).bind fun H45=>(Hp.ldI H45 .i64 H26.length 0).bind fun n46=>(Hp.ldSl H45 dV (fa + 1)).bind fun s47=>(Sl.idx s47 dv 2).bind fun p48=>(Hp.ldI H45 .i64 p48.1 p48.2).bind fun n49=>(bI fb n46 n49 H45).bind fun r50=>aH.l29 F bz bH bI bJ eN dV fa fb fC dW (IntKind.i64.wrap (dv + 1)) r50.2) else ((bJ fb H26).bind fun r51=>((r51.1).asSl).bind fun s52=>some ((.sl s52),r51.2)))
termination_by structural n=>n
noncomputable def aH.twX (F:Nat) (bz:Sl→Hp→OA) (bH:Int→Hp→OA) (bI:Sl→Int→Int→Hp→OA) (bJ:Sl→Hp→OA) (aa:Sl) (ab:Int) (ar:Sl) (bA:Sl) (H:Hp):OA:=(Hp.new H [(.sl aa),(.int .i64 ab)]).bind fun H5=>(Hp.new H5 [(.sl ar),(.sl bA)]).bind fun H6=>(Hp.ldSl H6 H.length 0).bind fun s7=>(bz s7 H6).bind fun r8=>((r8.1).asI .i64).bind fun n9=>(bH n9 r8.2).bind fun r10=>((r10.1).asSl).bind fun s11=>(Hp.ldSl r10.2 H5.length 0).bind fun s12=>aH.l29 F bz bH bI bJ F H5.length 0 s11 s12 (s12.n:Int) 0 r10.2
noncomputable def aH.tw (F:Nat) (aa:Sl) (ab:Int) (ar:Sl) (bA:Sl) (H:Hp):OA:=aH.twX F (aP.tw F) (aA.tw F) (av.tw F) (bN.tw F) aa ab ar bA H
noncomputable def aH.code:Go.Code:=(Try.f126.body).getD .skip
noncomputable def aH.lh29 (F:Nat) (bz:Sl→Hp→OA) (bH:Int→Hp→OA) (bI:Sl→Int→Int→Hp→OA) (bJ:Sl→Hp→OA) (ks:List Nat) (n:Nat) (tm:Tm) (H:Hp):OA:=match ks,tm 3,tm 5,tm 13,tm 14,tm 15 with
 | [],(.ptr dV fa),(.sl fb),(.sl fC),(.int .i64 dW),(.int .i64 dv)=>aH.l29 F bz bH bI bJ n dV fa fb fC dW dv H
 | _,_,_,_,_,_=>none
theorem aH.lh29_inv {F:Nat} {bz:Sl→Hp→OA} {bH:Int→Hp→OA} {bI:Sl→Int→Int→Hp→OA} {bJ:Sl→Hp→OA} {ks:List Nat} {n:Nat} {tm:Tm} {H:Hp} {r:AV×Hp} (h:aH.lh29 F bz bH bI bJ ks n tm H = some r):∃ dV:Nat,∃ fa:Nat,∃ fb:Sl,∃ fC:Sl,∃ dW:Int,∃ dv:Int,ks = []∧tm 3 = (.ptr dV fa)∧tm 5 = (.sl fb)∧tm 13 = (.sl fC)∧tm 14 = (.int .i64 dW)∧tm 15 = (.int .i64 dv)∧aH.l29 F bz bH bI bJ n dV fa fb fC dW dv H = some r:=by
 unfold aH.lh29 at h
 split at h
 ·exact ⟨_,_,_,_,_,_,rfl,by assumption,by assumption,by assumption,by assumption,by assumption,h⟩
 ·cases h
noncomputable def aH.lh (F:Nat) (bz:Sl→Hp→OA) (bH:Int→Hp→OA) (bI:Sl→Int→Int→Hp→OA) (bJ:Sl→Hp→OA) (p:Nat) (ks:List Nat) (n:Nat) (tm:Tm) (H:Hp):OA:=bif p.beq 29 then aH.lh29 F bz bH bI bJ ks n tm H else (none)
def aH.pn:Nat→List Nat:=fun i=>(([(5,[9])]:List (Nat×List Nat)).lookup i).getD []
def aH.tb:Nat→List (List Nat):=fun i=>(([(5,[[],[],[1],[],[3],[],[3,4,5],[3,4,5,6],[3,4,5,6,7],[0,1,2,3,4,5,6,7,8]])]:List (Nat×List (List Nat))).lookup i).getD []
noncomputable def aH.mk (g:Sl→Int→Sl→Sl→Hp→OA) (args:List AV) (H:Hp):OA:=match args with
 | [(.agg [(.sl aa),(.int .i64 ab)]),(.agg [(.sl ar),(.sl bA)])]=>g aa ab ar bA H
 | _=>none
noncomputable def aH.cs (F:Nat) (bz:Sl→Hp→OA) (bH:Int→Hp→OA) (bI:Sl→Int→Int→Hp→OA) (bJ:Sl→Hp→OA):List (FuncId×(List AV→Hp→OA)):=[(117,aP.mk bz),(116,aA.mk bH),(118,av.mk bI),(119,bN.mk bJ)]
theorem aH.loops (F:Nat) (bz:Sl→Hp→OA) (bH:Int→Hp→OA) (bI:Sl→Int→Int→Hp→OA) (bJ:Sl→Hp→OA):LoopsOk tabs (mkOrc (aH.cs F bz bH bI bJ)) aH.pn (aH.lh F bz bH bI bJ) F [] 1 aH.code (fun tm H=>aresults tabs.ty H tm Try.f126.results.toList fun v=>some (v,H)) (fun _ _ _=>none) (fun tm H=>aresults tabs.ty H tm Try.f126.results.toList fun v=>some (v,H)):=by
 refine LoopsOk.seq ?_ ?_
 ·exact loops_none (by kernel_rfl)
 ·refine LoopsOk.seq ?_ ?_
  ·exact loops_none (by kernel_rfl)
  ·refine LoopsOk.seq ?_ ?_
   ·refine LoopsOk.seq ?_ ?_
    ·exact loops_none (by kernel_rfl)
    ·refine LoopsOk.block ?_
     refine LoopsOk.loop (fun tm H=>?_) (fun k29 tm H r h0=>?_) (fun k29=>?_)
     ·refine none_of fun r h0=>?_
      obtain ⟨dV,fa,fb,fC,dW,dv,hks,e3,e5,e13,e14,e15,h⟩:=aH.lh29_inv (show aH.lh29 F bz bH bI bJ [] 0 tm H = some r from h0)
      cases h
     ·obtain ⟨dV,fa,fb,fC,dW,dv,hks,e3,e5,e13,e14,e15,h⟩:=aH.lh29_inv (show aH.lh29 F bz bH bI bJ [] (k29 + 1) tm H = some r from h0)
      have q0:(Tm.put tm 3 (.ptr dV fa)) = tm:=by exact Tm.put_same e3
      have q1:(Tm.put (Tm.put tm 3 (.ptr dV fa)) 5 (.sl fb)) = tm:=by rw [q0]; exact Tm.put_same e5
      have q2:(Tm.put (Tm.put (Tm.put tm 3 (.ptr dV fa)) 5 (.sl fb)) 13 (.sl fC)) = tm:=by rw [q1]; exact Tm.put_same e13
      have q3:(Tm.put (Tm.put (Tm.put (Tm.put tm 3 (.ptr dV fa)) 5 (.sl fb)) 13 (.sl fC)) 14 (.int .i64 dW)) = tm:=by rw [q2]; exact Tm.put_same e14
      have q4:(Tm.put (Tm.put (Tm.put (Tm.put (Tm.put tm 3 (.ptr dV fa)) 5 (.sl fb)) 13 (.sl fC)) 14 (.int .i64 dW)) 15 (.int .i64 dv)) = tm:=by rw [q3]; exact Tm.put_same e15
      rw [← q4]
      exact Eq.trans (by kernel_rfl) h
     ·exact loops_none (by kernel_rfl)
   ·exact loops_none (by kernel_rfl)
theorem aH.eqX (F:Nat) (bz:Sl→Hp→OA) (bH:Int→Hp→OA) (bI:Sl→Int→Int→Hp→OA) (bJ:Sl→Hp→OA) (aa:Sl) (ab:Int) (ar:Sl) (bA:Sl) (H:Hp):aCode tabs (mkOrc (aH.cs F bz bH bI bJ)) aH.pn (aH.lh F bz bH bI bJ) F [] 1 aH.code (argTm [(.agg [(.sl aa),(.int .i64 ab)]),(.agg [(.sl ar),(.sl bA)])]) H (fun tm H=>aresults tabs.ty H tm Try.f126.results.toList fun v=>some (v,H)) (fun _ _ _=>none) (fun tm H=>aresults tabs.ty H tm Try.f126.results.toList fun v=>some (v,H)) = aH.twX F bz bH bI bJ aa ab ar bA H:=by kernel_rfl
theorem aH.cs_ok (F:Nat):∀ p ∈ aH.cs F (aP.tw F) (aA.tw F) (av.tw F) (bN.tw F),∀ args H v H',p.2 args H = some (v,H')→Go.AE.T Try.prog p.1 args H v H':=by
 intro p hp
 simp only [aH.cs,List.mem_cons,List.not_mem_nil,or_false] at hp
 rcases hp with rfl | rfl | rfl | rfl
 ·exact fun args H v H' h=>aP.mk_T h
 ·exact fun args H v H' h=>aA.mk_T h
 ·exact fun args H v H' h=>av.mk_T h
 ·exact fun args H v H' h=>bN.mk_T h
theorem aH.ok:codeOk aH.pn Try.f126.ntmps aH.tb aH.code = true:=by kernel_rfl
theorem aH.T {F:Nat} {aa:Sl} {ab:Int} {ar:Sl} {bA:Sl} {H:Hp} {v:AV} {H':Hp} (h:aH.tw F aa ab ar bA H = some (v,H')):Go.AE.T Try.prog 126 [(.agg [(.sl aa),(.int .i64 ab)]),(.agg [(.sl ar),(.sl bA)])] H v H':=
 Go.AE.T.of (Y:=tabs) (C:=mkOrc (aH.cs F (aP.tw F) (aA.tw F) (av.tw F) (bN.tw F))) (PN:=aH.pn) (LH:=aH.lh F (aP.tw F) (aA.tw F) (av.tw F) (bN.tw F)) (F:=F) (TB:=aH.tb) (fn:=Try.f126) (code:=aH.code) mixed tabs_ok (mkOrc_ok (aH.cs_ok F)) Try.func126 (by kernel_rfl) (by kernel_rfl) aH.ok (Nat.le_of_ble_eq_true (by kernel_rfl)) (aH.loops F (aP.tw F) (aA.tw F) (av.tw F) (bN.tw F)) (Eq.trans (aH.eqX F (aP.tw F) (aA.tw F) (av.tw F) (bN.tw F) aa ab ar bA H) h)
theorem aH.mk_T {F:Nat} {args:List AV} {H:Hp} {v:AV} {H':Hp} (h:aH.mk (aH.tw F) args H = some (v,H')):Go.AE.T Try.prog 126 args H v H':=by
 unfold aH.mk at h
 split at h
 ·exact aH.T h
 ·cases h
noncomputable def aB.l61 (F:Nat) :Nat→Sl→Int→Int→Hp→OA
 | 0,_,_,_,_=>none
 | bj + 1,cd,b_,dJ,H13=>(bif (decide (dJ < (cd.n:Int))) then ((Sl.idx cd dJ 1).bind fun p16=>(Hp.ldI H13 .i64 p16.1 p16.2).bind fun n17=>aB.l61 F bj cd (if n17 > b_ then n17 else b_) (IntKind.i64.wrap (dJ + 1)) H13) else (some ((.int .i64 b_),H13)))
termination_by structural n=>n
noncomputable def aB.j1 (F:Nat) (rK:Sl) (H5:Hp):OA:=(Sl.idx rK 0 1).bind fun p6=>(Hp.ldI H5 .i64 p6.1 p6.2).bind fun n7=>aB.l61 F F rK n7 1 H5
noncomputable def aB.twX (F:Nat) (aa:Sl) (H:Hp):OA:=(bif (decide ((aa.n:Int) < 1)) then (none) else (aB.j1 F aa H))
noncomputable def aB.tw (F:Nat) (aa:Sl) (H:Hp):OA:=aB.twX F aa H
noncomputable def aB.code:Go.Code:=(Try.f151.body).getD .skip
noncomputable def aB.lh61 (F:Nat) (ks:List Nat) (n:Nat) (tm:Tm) (H:Hp):OA:=match ks,tm 0,tm 3,tm 4 with
 | [],(.sl cd),(.int .i64 b_),(.int .i64 dJ)=>aB.l61 F n cd b_ dJ H
 | _,_,_,_=>none
theorem aB.lh61_inv {F:Nat} {ks:List Nat} {n:Nat} {tm:Tm} {H:Hp} {r:AV×Hp} (h:aB.lh61 F ks n tm H = some r):∃ cd:Sl,∃ b_:Int,∃ dJ:Int,ks = []∧tm 0 = (.sl cd)∧tm 3 = (.int .i64 b_)∧tm 4 = (.int .i64 dJ)∧aB.l61 F n cd b_ dJ H = some r:=by
 unfold aB.lh61 at h
 split at h
 ·exact ⟨_,_,_,rfl,by assumption,by assumption,by assumption,h⟩
 ·cases h
noncomputable def aB.lh (F:Nat) (p:Nat) (ks:List Nat) (n:Nat) (tm:Tm) (H:Hp):OA:=bif p.beq 61 then aB.lh61 F ks n tm H else (none)
def aB.pn:Nat→List Nat:=fun i=>(([]:List (Nat×List Nat)).lookup i).getD []
def aB.tb:Nat→List (List Nat):=fun i=>(([]:List (Nat×List (List Nat))).lookup i).getD []
noncomputable def aB.mk (g:Sl→Hp→OA) (args:List AV) (H:Hp):OA:=match args with
 | [(.sl aa)]=>g aa H
 | _=>none
noncomputable def aB.cs (F:Nat):List (FuncId×(List AV→Hp→OA)):=[]
theorem aB.loops (F:Nat):LoopsOk tabs (mkOrc (aB.cs F)) aB.pn (aB.lh F) F [] 1 aB.code (fun tm H=>aresults tabs.ty H tm Try.f151.results.toList fun v=>some (v,H)) (fun _ _ _=>none) (fun tm H=>aresults tabs.ty H tm Try.f151.results.toList fun v=>some (v,H)):=by
 refine LoopsOk.seq ?_ ?_
 ·exact loops_none (by kernel_rfl)
 ·refine LoopsOk.seq ?_ ?_
  ·exact loops_none (by kernel_rfl)
  ·refine LoopsOk.seq ?_ ?_
   ·exact loops_none (by kernel_rfl)
   ·refine LoopsOk.seq ?_ ?_
    ·refine LoopsOk.seq ?_ ?_
     ·exact loops_none (by kernel_rfl)
     ·refine LoopsOk.block ?_
      refine LoopsOk.loop (fun tm H=>?_) (fun k61 tm H r h0=>?_) (fun k61=>?_)
      ·refine none_of fun r h0=>?_
       obtain ⟨cd,b_,dJ,hks,e0,e3,e4,h⟩:=aB.lh61_inv (show aB.lh61 F [] 0 tm H = some r from h0)
       cases h
      ·obtain ⟨cd,b_,dJ,hks,e0,e3,e4,h⟩:=aB.lh61_inv (show aB.lh61 F [] (k61 + 1) tm H = some r from h0)
       have q0:(Tm.put tm 0 (.sl cd)) = tm:=by exact Tm.put_same e0
       have q1:(Tm.put (Tm.put tm 0 (.sl cd)) 3 (.int .i64 b_)) = tm:=by rw [q0]; exact Tm.put_same e3
       have q2:(Tm.put (Tm.put (Tm.put tm 0 (.sl cd)) 3 (.int .i64 b_)) 4 (.int .i64 dJ)) = tm:=by rw [q1]; exact Tm.put_same e4
       rw [← q2]
       exact Eq.trans (by kernel_rfl) h
      ·exact loops_none (by kernel_rfl)
    ·exact loops_none (by kernel_rfl)
theorem aB.eqX (F:Nat) (aa:Sl) (H:Hp):aCode tabs (mkOrc (aB.cs F)) aB.pn (aB.lh F) F [] 1 aB.code (argTm [(.sl aa)]) H (fun tm H=>aresults tabs.ty H tm Try.f151.results.toList fun v=>some (v,H)) (fun _ _ _=>none) (fun tm H=>aresults tabs.ty H tm Try.f151.results.toList fun v=>some (v,H)) = aB.twX F aa H:=by kernel_rfl
theorem aB.cs_ok (F:Nat):∀ p ∈ aB.cs F,∀ args H v H',p.2 args H = some (v,H')→Go.AE.T Try.prog p.1 args H v H':=by
 intro p hp
 exact absurd (show p ∈ [] from hp) List.not_mem_nil
theorem aB.ok:codeOk aB.pn Try.f151.ntmps aB.tb aB.code = true:=by kernel_rfl
theorem aB.T {F:Nat} {aa:Sl} {H:Hp} {v:AV} {H':Hp} (h:aB.tw F aa H = some (v,H')):Go.AE.T Try.prog 151 [(.sl aa)] H v H':=
 Go.AE.T.of (Y:=tabs) (C:=mkOrc (aB.cs F)) (PN:=aB.pn) (LH:=aB.lh F) (F:=F) (TB:=aB.tb) (fn:=Try.f151) (code:=aB.code) mixed tabs_ok (mkOrc_ok (aB.cs_ok F)) Try.func151 (by kernel_rfl) (by kernel_rfl) aB.ok (Nat.le_of_ble_eq_true (by kernel_rfl)) (aB.loops F) (Eq.trans (aB.eqX F aa H) h)
theorem aB.mk_T {F:Nat} {args:List AV} {H:Hp} {v:AV} {H':Hp} (h:aB.mk (aB.tw F) args H = some (v,H')):Go.AE.T Try.prog 151 args H v H':=by
 unfold aB.mk at h
 split at h
 ·exact aB.T h
 ·cases h
noncomputable def aX.twX (F:Nat) (fV:Sl→Hp→OA) (aa:Sl) (H:Hp):OA:=(bif ((aa.n:Int) == 0) then (some ((.int .i64 0),H)) else ((fV aa H).bind fun r2=>((r2.1).asI .i64).bind fun n3=>some ((.int .i64 (IntKind.i64.wrap (n3 + 1))),r2.2)))
noncomputable def aX.tw (F:Nat) (aa:Sl) (H:Hp):OA:=aX.twX F (aB.tw F) aa H
noncomputable def aX.code:Go.Code:=(Try.f120.body).getD .skip
noncomputable def aX.lh (F:Nat) (fV:Sl→Hp→OA) (p:Nat) (ks:List Nat) (n:Nat) (tm:Tm) (H:Hp):OA:=none
def aX.pn:Nat→List Nat:=fun i=>(([]:List (Nat×List Nat)).lookup i).getD []
def aX.tb:Nat→List (List Nat):=fun i=>(([]:List (Nat×List (List Nat))).lookup i).getD []
noncomputable def aX.mk (g:Sl→Hp→OA) (args:List AV) (H:Hp):OA:=match args with
 | [(.sl aa)]=>g aa H
 | _=>none
noncomputable def aX.cs (F:Nat) (fV:Sl→Hp→OA):List (FuncId×(List AV→Hp→OA)):=[(151,aB.mk fV)]
theorem aX.loops (F:Nat) (fV:Sl→Hp→OA):LoopsOk tabs (mkOrc (aX.cs F fV)) aX.pn (aX.lh F fV) F [] 1 aX.code (fun tm H=>aresults tabs.ty H tm Try.f120.results.toList fun v=>some (v,H)) (fun _ _ _=>none) (fun tm H=>aresults tabs.ty H tm Try.f120.results.toList fun v=>some (v,H)):=by
 exact loops_none (by kernel_rfl)
theorem aX.eqX (F:Nat) (fV:Sl→Hp→OA) (aa:Sl) (H:Hp):aCode tabs (mkOrc (aX.cs F fV)) aX.pn (aX.lh F fV) F [] 1 aX.code (argTm [(.sl aa)]) H (fun tm H=>aresults tabs.ty H tm Try.f120.results.toList fun v=>some (v,H)) (fun _ _ _=>none) (fun tm H=>aresults tabs.ty H tm Try.f120.results.toList fun v=>some (v,H)) = aX.twX F fV aa H:=by kernel_rfl
theorem aX.cs_ok (F:Nat):∀ p ∈ aX.cs F (aB.tw F),∀ args H v H',p.2 args H = some (v,H')→Go.AE.T Try.prog p.1 args H v H':=by
 intro p hp
 simp only [aX.cs,List.mem_cons,List.not_mem_nil,or_false] at hp
 subst hp
 exact fun args H v H' h=>aB.mk_T h
theorem aX.ok:codeOk aX.pn Try.f120.ntmps aX.tb aX.code = true:=by kernel_rfl
theorem aX.T {F:Nat} {aa:Sl} {H:Hp} {v:AV} {H':Hp} (h:aX.tw F aa H = some (v,H')):Go.AE.T Try.prog 120 [(.sl aa)] H v H':=
 Go.AE.T.of (Y:=tabs) (C:=mkOrc (aX.cs F (aB.tw F))) (PN:=aX.pn) (LH:=aX.lh F (aB.tw F)) (F:=F) (TB:=aX.tb) (fn:=Try.f120) (code:=aX.code) mixed tabs_ok (mkOrc_ok (aX.cs_ok F)) Try.func120 (by kernel_rfl) (by kernel_rfl) aX.ok (Nat.le_of_ble_eq_true (by kernel_rfl)) (aX.loops F (aB.tw F)) (Eq.trans (aX.eqX F (aB.tw F) aa H) h)
theorem aX.mk_T {F:Nat} {args:List AV} {H:Hp} {v:AV} {H':Hp} (h:aX.mk (aX.tw F) args H = some (v,H')):Go.AE.T Try.prog 120 args H v H':=by
 unfold aX.mk at h
 split at h
 ·exact aX.T h
 ·cases h
noncomputable def bb.twX (F:Nat) (bz:Sl→Hp→OA) (cU:Int→Int→Int→Hp→OA) (fW:Sl→Hp→OA) (fX:Sl→Int→Hp→OA) (fY:Sl→Int→Sl→Sl→Hp→OA) (fZ:Sl→Hp→OA) (f_:Sl→Int→Sl→Sl→Hp→OA) (bV:Sl→Hp→OA) (aa:Sl) (ab:Int) (H:Hp):OA:=(Hp.new H [(.sl aa),(.int .i64 ab)]).bind fun H3=>(Hp.new H3 [.sl ⟨none,0,.ex 0⟩,.sl ⟨none,0,.ex 0⟩]).bind fun H4=>(Hp.ldSl H4 H.length 0).bind fun s5=>(bz s5 H4).bind fun r6=>((r6.1).asI .i64).bind fun n7=>(bif (decide (n7 > 10)) then ((Hp.st r6.2 H3.length 0 (.sl (⟨none,0,.ex 0⟩:Sl))).bind fun H8=>(Hp.st H8 H3.length (0 + 1) (.sl (⟨none,0,.ex 0⟩:Sl))).bind fun H9=>(Hp.ldSl H9 H3.length 0).bind fun s10=>(Hp.ldSl H9 H3.length (0 + 1)).bind fun s11=>some ((.tup [(.agg [(.sl s10),(.sl s11)]),(.bool false)]),H9)) else ((Hp.ldI r6.2 .i64 H.length 1).bind fun n12=>(cU n12 0 8 r6.2).bind fun r13=>((r13.1).asB).bind fun b14=>(bif (!b14) then ((Hp.st r13.2 H3.length 0 (.sl (⟨none,0,.ex 0⟩:Sl))).bind fun H15=>(Hp.st H15 H3.length (0 + 1) (.sl (⟨none,0,.ex 0⟩:Sl))).bind fun H16=>(Hp.ldSl H16 H3.length 0).bind fun s17=>(Hp.ldSl H16 H3.length (0 + 1)).bind fun s18=>some ((.tup [(.agg [(.sl s17),(.sl s18)]),(.bool false)]),H16)) else ((Hp.ldSl r13.2 H.length 0).bind fun s19=>(fW s19 r13.2).bind fun r20=>((r20.1).asB).bind fun b21=>(bif b21 then ((Hp.st r20.2 H3.length 0 (.sl (⟨none,0,.ex 0⟩:Sl))).bind fun H22=>(Hp.st H22 H3.length (0 + 1) (.sl (⟨none,0,.ex 0⟩:Sl))).bind fun H23=>(Hp.ldSl H23 H3.length 0).bind fun s24=>(Hp.ldSl H23 H3.length (0 + 1)).bind fun s25=>some ((.tup [(.agg [(.sl s24),(.sl s25)]),(.bool false)]),H23)) else ((Hp.ldSl r20.2 H.length 0).bind fun s26=>(Hp.ldI r20.2 .i64 H.length (0 + 1)).bind fun n27=>(fX s26 n27 r20.2).bind fun r28=>((r28.1).asTup 2).bind fun l29=>(l29[0]?).bind fun v30=>((v30).asAgg 2).bind fun l31=>(l31[0]?).bind fun v32=>((v32).asSl).bind fun s33=>(l31[1]?).bind fun v34=>((v34).asSl).bind fun s35=>(l29[1]?).bind fun v36=>((v36).asB).bind fun b37=>(Hp.new r28.2 [.sl ⟨none,0,.ex 0⟩,.sl ⟨none,0,.ex 0⟩]).bind fun H38=>(Hp.st H38 r28.2.length 0 (.sl s33)).bind fun H39=>(Hp.st H39 r28.2.length (0 + 1) (.sl s35)).bind fun H40=>(bif (!b37) then ((Hp.st H40 H3.length 0 (.sl (⟨none,0,.ex 0⟩:Sl))).bind fun H41=>(Hp.st H41 H3.length (0 + 1) (.sl (⟨none,0,.ex 0⟩:Sl))).bind fun H42=>(Hp.ldSl H42 H3.length 0).bind fun s43=>(Hp.ldSl H42 H3.length (0 + 1)).bind fun s44=>some ((.tup [(.agg [(.sl s43),(.sl s44)]),(.bool false)]),H42)) else ((Hp.ldSl H40 H.length 0).bind fun s45=>(Hp.ldI H40 .i64 H.length (0 + 1)).bind fun n46=>(Hp.ldSl H40 r28.2.length 0).bind fun s47=>(Hp.ldSl H40 r28.2.length (0 + 1)).bind fun s48=>(fY s45 n46 s47 s48 H40).bind fun r49=>((r49.1).asSl).bind fun s50=>(if Cons H40 r49.2 then ((fZ s50 r49.2).bind fun r51=>((r51.1).asI .i64).bind fun n52=>(if Cons r49.2 r51.2 then ((Hp.ldSl r51.2 H.length 0).bind fun s53=>(Hp.ldI r51.2 .i64 H.length (0 + 1)).bind fun n54=>(Hp.ldSl r51.2 r28.2.length 0).bind fun s55=>(Hp.ldSl r51.2 r28.2.length (0 + 1)).bind fun s56=>(f_ s53 n54 s55 s56 r51.2).bind fun r57=>((r57.1).asSl).bind fun s58=>(bV s58 r57.2).bind fun r59=>((r59.1).asI .i64).bind fun n60=>(bif (n52 != (IntKind.i64.wrap (n7 + (IntKind.i64.wrap (2 * n60))))) then ((Hp.st r59.2 H3.length 0 (.sl (⟨none,0,.ex 0⟩:Sl))).bind fun H61=>(Hp.st H61 H3.length (0 + 1) (.sl (⟨none,0,.ex 0⟩:Sl))).bind fun H62=>(Hp.ldSl H62 H3.length 0).bind fun s63=>(Hp.ldSl H62 H3.length (0 + 1)).bind fun s64=>some ((.tup [(.agg [(.sl s63),(.sl s64)]),(.bool false)]),H62)) else ((Hp.ldSl r59.2 r28.2.length 0).bind fun s65=>(Hp.ldSl r59.2 r28.2.length (0 + 1)).bind fun s66=>(Hp.st r59.2 H3.length 0 (.sl s65)).bind fun H67=>(Hp.st H67 H3.length (0 + 1) (.sl s66)).bind fun H68=>(Hp.ldSl H68 H3.length 0).bind fun s69=>(Hp.ldSl H68 H3.length (0 + 1)).bind fun s70=>some ((.tup [(.agg [(.sl s69),(.sl s70)]),(.bool true)]),H68)))) else none)) else none)))))))))
noncomputable def bb.tw (F:Nat) (aa:Sl) (ab:Int) (H:Hp):OA:=bb.twX F (aP.tw F) (ba.tw F) (bp.tw F) (ao.tw F) (ai.tw F) (bx.tw F) (aH.tw F) (aX.tw F) aa ab H
noncomputable def bb.code:Go.Code:=(Try.f69.body).getD .skip
noncomputable def bb.lh (F:Nat) (bz:Sl→Hp→OA) (cU:Int→Int→Int→Hp→OA) (fW:Sl→Hp→OA) (fX:Sl→Int→Hp→OA) (fY:Sl→Int→Sl→Sl→Hp→OA) (fZ:Sl→Hp→OA) (f_:Sl→Int→Sl→Sl→Hp→OA) (bV:Sl→Hp→OA) (p:Nat) (ks:List Nat) (n:Nat) (tm:Tm) (H:Hp):OA:=none
def bb.pn:Nat→List Nat:=fun i=>(([(5,[10,11])]:List (Nat×List Nat)).lookup i).getD []
def bb.tb:Nat→List (List Nat):=fun i=>(([(5,[[],[0],[0,1],[0,1,2],[0,1,2],[0,1,2,3,4],[0,1,2,3,4,5],[0,1,2],[0,1,2],[0,1,2],[0,1,2,3,4,5,6,8,9],[0,1,2,3,4,5,6,8,9,10],[0,1,2,3,4,5,6,8,9,10,11],[0,1,2,3,4,5,6,7,8,9,10,11,12],[0,1,2,3,4,5,6,7,8,9,10,11,12,13],[0,1,2,3,4,5,6,7,8,9,10,11,12,13,14]])]:List (Nat×List (List Nat))).lookup i).getD []
noncomputable def bb.mk (g:Sl→Int→Hp→OA) (args:List AV) (H:Hp):OA:=match args with
 | [(.agg [(.sl aa),(.int .i64 ab)])]=>g aa ab H
 | _=>none
noncomputable def bb.cs (F:Nat) (bz:Sl→Hp→OA) (cU:Int→Int→Int→Hp→OA) (fW:Sl→Hp→OA) (fX:Sl→Int→Hp→OA) (fY:Sl→Int→Sl→Sl→Hp→OA) (fZ:Sl→Hp→OA) (f_:Sl→Int→Sl→Sl→Hp→OA) (bV:Sl→Hp→OA):List (FuncId×(List AV→Hp→OA)):=[(117,aP.mk bz),(81,ba.mk cU),(123,bp.mk fW),(125,ao.mk fX),(103,ai.mk fY),(89,bx.mk fZ),(126,aH.mk f_),(120,aX.mk bV)]
theorem bb.loops (F:Nat) (bz:Sl→Hp→OA) (cU:Int→Int→Int→Hp→OA) (fW:Sl→Hp→OA) (fX:Sl→Int→Hp→OA) (fY:Sl→Int→Sl→Sl→Hp→OA) (fZ:Sl→Hp→OA) (f_:Sl→Int→Sl→Sl→Hp→OA) (bV:Sl→Hp→OA):LoopsOk tabs (mkOrc (bb.cs F bz cU fW fX fY fZ f_ bV)) bb.pn (bb.lh F bz cU fW fX fY fZ f_ bV) F [] 1 bb.code (fun tm H=>aresults tabs.ty H tm Try.f69.results.toList fun v=>some (v,H)) (fun _ _ _=>none) (fun tm H=>aresults tabs.ty H tm Try.f69.results.toList fun v=>some (v,H)):=by
 exact loops_none (by kernel_rfl)
theorem bb.eqX (F:Nat) (bz:Sl→Hp→OA) (cU:Int→Int→Int→Hp→OA) (fW:Sl→Hp→OA) (fX:Sl→Int→Hp→OA) (fY:Sl→Int→Sl→Sl→Hp→OA) (fZ:Sl→Hp→OA) (f_:Sl→Int→Sl→Sl→Hp→OA) (bV:Sl→Hp→OA) (aa:Sl) (ab:Int) (H:Hp):aCode tabs (mkOrc (bb.cs F bz cU fW fX fY fZ f_ bV)) bb.pn (bb.lh F bz cU fW fX fY fZ f_ bV) F [] 1 bb.code (argTm [(.agg [(.sl aa),(.int .i64 ab)])]) H (fun tm H=>aresults tabs.ty H tm Try.f69.results.toList fun v=>some (v,H)) (fun _ _ _=>none) (fun tm H=>aresults tabs.ty H tm Try.f69.results.toList fun v=>some (v,H)) = bb.twX F bz cU fW fX fY fZ f_ bV aa ab H:=by kernel_rfl
theorem bb.cs_ok (F:Nat):∀ p ∈ bb.cs F (aP.tw F) (ba.tw F) (bp.tw F) (ao.tw F) (ai.tw F) (bx.tw F) (aH.tw F) (aX.tw F),∀ args H v H',p.2 args H = some (v,H')→Go.AE.T Try.prog p.1 args H v H':=by
 intro p hp
 simp only [bb.cs,List.mem_cons,List.not_mem_nil,or_false] at hp
 rcases hp with rfl | rfl | rfl | rfl | rfl | rfl | rfl | rfl
 ·exact fun args H v H' h=>aP.mk_T h
 ·exact fun args H v H' h=>ba.mk_T h
 ·exact fun args H v H' h=>bp.mk_T h
 ·exact fun args H v H' h=>ao.mk_T h
 ·exact fun args H v H' h=>ai.mk_T h
 ·exact fun args H v H' h=>bx.mk_T h
 ·exact fun args H v H' h=>aH.mk_T h
 ·exact fun args H v H' h=>aX.mk_T h
theorem bb.ok:codeOk bb.pn Try.f69.ntmps bb.tb bb.code = true:=by kernel_rfl
theorem bb.T {F:Nat} {aa:Sl} {ab:Int} {H:Hp} {v:AV} {H':Hp} (h:bb.tw F aa ab H = some (v,H')):Go.AE.T Try.prog 69 [(.agg [(.sl aa),(.int .i64 ab)])] H v H':=
 Go.AE.T.of (Y:=tabs) (C:=mkOrc (bb.cs F (aP.tw F) (ba.tw F) (bp.tw F) (ao.tw F) (ai.tw F) (bx.tw F) (aH.tw F) (aX.tw F))) (PN:=bb.pn) (LH:=bb.lh F (aP.tw F) (ba.tw F) (bp.tw F) (ao.tw F) (ai.tw F) (bx.tw F) (aH.tw F) (aX.tw F)) (F:=F) (TB:=bb.tb) (fn:=Try.f69) (code:=bb.code) mixed tabs_ok (mkOrc_ok (bb.cs_ok F)) Try.func69 (by kernel_rfl) (by kernel_rfl) bb.ok (Nat.le_of_ble_eq_true (by kernel_rfl)) (bb.loops F (aP.tw F) (ba.tw F) (bp.tw F) (ao.tw F) (ai.tw F) (bx.tw F) (aH.tw F) (aX.tw F)) (Eq.trans (bb.eqX F (aP.tw F) (ba.tw F) (bp.tw F) (ao.tw F) (ai.tw F) (bx.tw F) (aH.tw F) (aX.tw F) aa ab H) h)
theorem bb.mk_T {F:Nat} {args:List AV} {H:Hp} {v:AV} {H':Hp} (h:bb.mk (bb.tw F) args H = some (v,H')):Go.AE.T Try.prog 69 args H v H':=by
 unfold bb.mk at h
 split at h
 ·exact bb.T h
 ·cases h
noncomputable def bm.twX (F:Nat) (ga:Sl→Int→Hp→OA) (aa:Sl) (ab:Int) (H:Hp):OA:=(Hp.new H [(.sl aa),(.int .i64 ab)]).bind fun H3=>(Hp.ldSl H3 H.length 0).bind fun s4=>(Hp.ldI H3 .i64 H.length (0 + 1)).bind fun n5=>(ga s4 n5 H3).bind fun r6=>((r6.1).asTup 2).bind fun l7=>(l7[0]?).bind fun v8=>((v8).asAgg 2).bind fun l9=>(l9[0]?).bind fun v10=>((v10).asSl).bind fun s11=>(l9[1]?).bind fun v12=>((v12).asSl).bind fun s13=>(l7[1]?).bind fun v14=>((v14).asB).bind fun b15=>(Hp.new r6.2 [.sl ⟨none,0,.ex 0⟩,.sl ⟨none,0,.ex 0⟩]).bind fun H16=>(Hp.st H16 r6.2.length 0 (.sl s11)).bind fun H17=>(Hp.st H17 r6.2.length (0 + 1) (.sl s13)).bind fun H18=>some ((.bool b15),H18)
noncomputable def bm.tw (F:Nat) (aa:Sl) (ab:Int) (H:Hp):OA:=bm.twX F (bb.tw F) aa ab H
noncomputable def bm.code:Go.Code:=(Try.f61.body).getD .skip
noncomputable def bm.lh (F:Nat) (ga:Sl→Int→Hp→OA) (p:Nat) (ks:List Nat) (n:Nat) (tm:Tm) (H:Hp):OA:=none
def bm.pn:Nat→List Nat:=fun i=>(([]:List (Nat×List Nat)).lookup i).getD []
def bm.tb:Nat→List (List Nat):=fun i=>(([]:List (Nat×List (List Nat))).lookup i).getD []
noncomputable def bm.mk (g:Sl→Int→Hp→OA) (args:List AV) (H:Hp):OA:=match args with
 | [(.agg [(.sl aa),(.int .i64 ab)])]=>g aa ab H
 | _=>none
noncomputable def bm.cs (F:Nat) (ga:Sl→Int→Hp→OA):List (FuncId×(List AV→Hp→OA)):=[(69,bb.mk ga)]
theorem bm.loops (F:Nat) (ga:Sl→Int→Hp→OA):LoopsOk tabs (mkOrc (bm.cs F ga)) bm.pn (bm.lh F ga) F [] 1 bm.code (fun tm H=>aresults tabs.ty H tm Try.f61.results.toList fun v=>some (v,H)) (fun _ _ _=>none) (fun tm H=>aresults tabs.ty H tm Try.f61.results.toList fun v=>some (v,H)):=by
 exact loops_none (by kernel_rfl)
theorem bm.eqX (F:Nat) (ga:Sl→Int→Hp→OA) (aa:Sl) (ab:Int) (H:Hp):aCode tabs (mkOrc (bm.cs F ga)) bm.pn (bm.lh F ga) F [] 1 bm.code (argTm [(.agg [(.sl aa),(.int .i64 ab)])]) H (fun tm H=>aresults tabs.ty H tm Try.f61.results.toList fun v=>some (v,H)) (fun _ _ _=>none) (fun tm H=>aresults tabs.ty H tm Try.f61.results.toList fun v=>some (v,H)) = bm.twX F ga aa ab H:=by kernel_rfl
theorem bm.cs_ok (F:Nat):∀ p ∈ bm.cs F (bb.tw F),∀ args H v H',p.2 args H = some (v,H')→Go.AE.T Try.prog p.1 args H v H':=by
 intro p hp
 simp only [bm.cs,List.mem_cons,List.not_mem_nil,or_false] at hp
 subst hp
 exact fun args H v H' h=>bb.mk_T h
theorem bm.ok:codeOk bm.pn Try.f61.ntmps bm.tb bm.code = true:=by kernel_rfl
theorem bm.T {F:Nat} {aa:Sl} {ab:Int} {H:Hp} {v:AV} {H':Hp} (h:bm.tw F aa ab H = some (v,H')):Go.AE.T Try.prog 61 [(.agg [(.sl aa),(.int .i64 ab)])] H v H':=
 Go.AE.T.of (Y:=tabs) (C:=mkOrc (bm.cs F (bb.tw F))) (PN:=bm.pn) (LH:=bm.lh F (bb.tw F)) (F:=F) (TB:=bm.tb) (fn:=Try.f61) (code:=bm.code) mixed tabs_ok (mkOrc_ok (bm.cs_ok F)) Try.func61 (by kernel_rfl) (by kernel_rfl) bm.ok (Nat.le_of_ble_eq_true (by kernel_rfl)) (bm.loops F (bb.tw F)) (Eq.trans (bm.eqX F (bb.tw F) aa ab H) h)
theorem bm.mk_T {F:Nat} {args:List AV} {H:Hp} {v:AV} {H':Hp} (h:bm.mk (bm.tw F) args H = some (v,H')):Go.AE.T Try.prog 61 args H v H':=by
 unfold bm.mk at h
 split at h
 ·exact bm.T h
 ·cases h
noncomputable def aC.j1 (F:Nat) (bz:Sl→Hp→OA) (bH:Int→Hp→OA) (bI:Sl→Int→Int→Hp→OA) (bJ:Sl→Hp→OA) (bV:Sl→Hp→OA) (mm:Nat) (xo:Nat) (xp:Sl) (H47:Hp):OA:=(bJ xp H47).bind fun r48=>((r48.1).asSl).bind fun s49=>(bV s49 r48.2).bind fun r50=>((r50.1).asI .i64).bind fun n51=>(if Cons r48.2 r50.2 then ((Hp.ldI r50.2 .i64 mm (xo + 1)).bind fun n52=>some ((.tup [(.sl s49),(.int .i64 (IntKind.i64.wrap (n51 + n52)))]),r50.2)) else none)
noncomputable def aC.l29 (F:Nat) (bz:Sl→Hp→OA) (bH:Int→Hp→OA) (bI:Sl→Int→Int→Hp→OA) (bJ:Sl→Hp→OA) (bV:Sl→Hp→OA) :Nat→Nat→Nat→Sl→Sl→Int→Int→Hp→OA
 | 0,_,_,_,_,_,_,_=>none
 | eN + 1,dX,fc,fd,fD,dY,dK,H20=>(bif (decide (dK < dY)) then ((Sl.idx fD dK 5).bind fun p53=>(Hp.ldI H20 .i64 p53.1 p53.2).bind fun n54=>(Hp.ldI H20 .i64 p53.1 (p53.2 + 1)).bind fun n55=>(Hp.ldI H20 .i64 p53.1 (p53.2 + 2)).bind fun n56=>(Hp.ldI H20 .i64 p53.1 (p53.2 + 3)).bind fun n57=>(Hp.ldI H20 .i64 p53.1 (p53.2 + 4)).bind fun n58=>(Hp.new H20 [.int .i64 0,.int .i64 0,.int .i64 0,.int .i64 0,.int .i64 0]).bind fun H59=>(Hp.st H59 H20.length 0 (.int .i64 n54)).bind fun H60=>(Hp.st H60 H20.length (0 + 1) (.int .i64 n55)).bind fun H61=>(Hp.st H61 H20.length (0 + 1 + 1) (.int .i64 n56)).bind fun H62=>(Hp.st H62 H20.length (0 + 1 + 1 + 1) (.int .i64 n57)).bind fun H63=>(Hp.st H63 H20.length (0 + 1 + 1 + 1 + 1) (.int .i64 n58)).bind fun H64=>(Hp.ldI H64 .i64 H20.length 1).bind fun n65=>(Hp.ldI H64 .i64 H20.length 3).bind fun n66=>(bI fd n65 n66 H64).bind fun r67=>aC.l29 F bz bH bI bJ bV eN dX fc fd fD dY (IntKind.i64.wrap (dK + 1)) r67.2) else (aC.j1 F bz bH bI bJ bV dX fc fd H20))
termination_by structural n=>n
noncomputable def aC.twX (F:Nat) (bz:Sl→Hp→OA) (bH:Int→Hp→OA) (bI:Sl→Int→Int→Hp→OA) (bJ:Sl→Hp→OA) (bV:Sl→Hp→OA) (aa:Sl) (ab:Int) (H:Hp):OA:=(Hp.new H [(.sl aa),(.int .i64 ab)]).bind fun H3=>(Hp.ldSl H3 H.length 0).bind fun s4=>(bz s4 H3).bind fun r5=>((r5.1).asI .i64).bind fun n6=>(bH (IntKind.i64.wrap (2 * n6)) r5.2).bind fun r7=>((r7.1).asSl).bind fun s8=>(Hp.ldSl r7.2 H.length 0).bind fun s9=>aC.l29 F bz bH bI bJ bV F H.length 0 s8 s9 (s9.n:Int) 0 r7.2
noncomputable def aC.tw (F:Nat) (aa:Sl) (ab:Int) (H:Hp):OA:=aC.twX F (aP.tw F) (aA.tw F) (av.tw F) (bN.tw F) (aX.tw F) aa ab H
noncomputable def aC.code:Go.Code:=(Try.f62.body).getD .skip
noncomputable def aC.lh29 (F:Nat) (bz:Sl→Hp→OA) (bH:Int→Hp→OA) (bI:Sl→Int→Int→Hp→OA) (bJ:Sl→Hp→OA) (bV:Sl→Hp→OA) (ks:List Nat) (n:Nat) (tm:Tm) (H:Hp):OA:=match ks,tm 1,tm 4,tm 14,tm 15,tm 16 with
 | [],(.ptr dX fc),(.sl fd),(.sl fD),(.int .i64 dY),(.int .i64 dK)=>aC.l29 F bz bH bI bJ bV n dX fc fd fD dY dK H
 | _,_,_,_,_,_=>none
theorem aC.lh29_inv {F:Nat} {bz:Sl→Hp→OA} {bH:Int→Hp→OA} {bI:Sl→Int→Int→Hp→OA} {bJ:Sl→Hp→OA} {bV:Sl→Hp→OA} {ks:List Nat} {n:Nat} {tm:Tm} {H:Hp} {r:AV×Hp} (h:aC.lh29 F bz bH bI bJ bV ks n tm H = some r):∃ dX:Nat,∃ fc:Nat,∃ fd:Sl,∃ fD:Sl,∃ dY:Int,∃ dK:Int,ks = []∧tm 1 = (.ptr dX fc)∧tm 4 = (.sl fd)∧tm 14 = (.sl fD)∧tm 15 = (.int .i64 dY)∧tm 16 = (.int .i64 dK)∧aC.l29 F bz bH bI bJ bV n dX fc fd fD dY dK H = some r:=by
 unfold aC.lh29 at h
 split at h
 ·exact ⟨_,_,_,_,_,_,rfl,by assumption,by assumption,by assumption,by assumption,by assumption,h⟩
 ·cases h
noncomputable def aC.lh (F:Nat) (bz:Sl→Hp→OA) (bH:Int→Hp→OA) (bI:Sl→Int→Int→Hp→OA) (bJ:Sl→Hp→OA) (bV:Sl→Hp→OA) (p:Nat) (ks:List Nat) (n:Nat) (tm:Tm) (H:Hp):OA:=bif p.beq 29 then aC.lh29 F bz bH bI bJ bV ks n tm H else (none)
def aC.pn:Nat→List Nat:=fun i=>(([(8,[])]:List (Nat×List Nat)).lookup i).getD []
def aC.tb:Nat→List (List Nat):=fun i=>(([(8,[[],[],[1],[],[3],[1,2,3,4],[0,1,2],[0,1,2,3,4,5,6]])]:List (Nat×List (List Nat))).lookup i).getD []
noncomputable def aC.mk (g:Sl→Int→Hp→OA) (args:List AV) (H:Hp):OA:=match args with
 | [(.agg [(.sl aa),(.int .i64 ab)])]=>g aa ab H
 | _=>none
noncomputable def aC.cs (F:Nat) (bz:Sl→Hp→OA) (bH:Int→Hp→OA) (bI:Sl→Int→Int→Hp→OA) (bJ:Sl→Hp→OA) (bV:Sl→Hp→OA):List (FuncId×(List AV→Hp→OA)):=[(117,aP.mk bz),(116,aA.mk bH),(118,av.mk bI),(119,bN.mk bJ),(120,aX.mk bV)]
theorem aC.loops (F:Nat) (bz:Sl→Hp→OA) (bH:Int→Hp→OA) (bI:Sl→Int→Int→Hp→OA) (bJ:Sl→Hp→OA) (bV:Sl→Hp→OA):LoopsOk tabs (mkOrc (aC.cs F bz bH bI bJ bV)) aC.pn (aC.lh F bz bH bI bJ bV) F [] 1 aC.code (fun tm H=>aresults tabs.ty H tm Try.f62.results.toList fun v=>some (v,H)) (fun _ _ _=>none) (fun tm H=>aresults tabs.ty H tm Try.f62.results.toList fun v=>some (v,H)):=by
 refine LoopsOk.seq ?_ ?_
 ·exact loops_none (by kernel_rfl)
 ·refine LoopsOk.seq ?_ ?_
  ·exact loops_none (by kernel_rfl)
  ·refine LoopsOk.seq ?_ ?_
   ·refine LoopsOk.seq ?_ ?_
    ·exact loops_none (by kernel_rfl)
    ·refine LoopsOk.block ?_
     refine LoopsOk.loop (fun tm H=>?_) (fun k29 tm H r h0=>?_) (fun k29=>?_)
     ·refine none_of fun r h0=>?_
      obtain ⟨dX,fc,fd,fD,dY,dK,hks,e1,e4,e14,e15,e16,h⟩:=aC.lh29_inv (show aC.lh29 F bz bH bI bJ bV [] 0 tm H = some r from h0)
      cases h
     ·obtain ⟨dX,fc,fd,fD,dY,dK,hks,e1,e4,e14,e15,e16,h⟩:=aC.lh29_inv (show aC.lh29 F bz bH bI bJ bV [] (k29 + 1) tm H = some r from h0)
      have q0:(Tm.put tm 1 (.ptr dX fc)) = tm:=by exact Tm.put_same e1
      have q1:(Tm.put (Tm.put tm 1 (.ptr dX fc)) 4 (.sl fd)) = tm:=by rw [q0]; exact Tm.put_same e4
      have q2:(Tm.put (Tm.put (Tm.put tm 1 (.ptr dX fc)) 4 (.sl fd)) 14 (.sl fD)) = tm:=by rw [q1]; exact Tm.put_same e14
      have q3:(Tm.put (Tm.put (Tm.put (Tm.put tm 1 (.ptr dX fc)) 4 (.sl fd)) 14 (.sl fD)) 15 (.int .i64 dY)) = tm:=by rw [q2]; exact Tm.put_same e15
      have q4:(Tm.put (Tm.put (Tm.put (Tm.put (Tm.put tm 1 (.ptr dX fc)) 4 (.sl fd)) 14 (.sl fD)) 15 (.int .i64 dY)) 16 (.int .i64 dK)) = tm:=by rw [q3]; exact Tm.put_same e16
      rw [← q4]
      exact Eq.trans (by kernel_rfl) h
     ·exact loops_none (by kernel_rfl)
   ·exact loops_none (by kernel_rfl)
theorem aC.eqX (F:Nat) (bz:Sl→Hp→OA) (bH:Int→Hp→OA) (bI:Sl→Int→Int→Hp→OA) (bJ:Sl→Hp→OA) (bV:Sl→Hp→OA) (aa:Sl) (ab:Int) (H:Hp):aCode tabs (mkOrc (aC.cs F bz bH bI bJ bV)) aC.pn (aC.lh F bz bH bI bJ bV) F [] 1 aC.code (argTm [(.agg [(.sl aa),(.int .i64 ab)])]) H (fun tm H=>aresults tabs.ty H tm Try.f62.results.toList fun v=>some (v,H)) (fun _ _ _=>none) (fun tm H=>aresults tabs.ty H tm Try.f62.results.toList fun v=>some (v,H)) = aC.twX F bz bH bI bJ bV aa ab H:=by kernel_rfl
theorem aC.cs_ok (F:Nat):∀ p ∈ aC.cs F (aP.tw F) (aA.tw F) (av.tw F) (bN.tw F) (aX.tw F),∀ args H v H',p.2 args H = some (v,H')→Go.AE.T Try.prog p.1 args H v H':=by
 intro p hp
 simp only [aC.cs,List.mem_cons,List.not_mem_nil,or_false] at hp
 rcases hp with rfl | rfl | rfl | rfl | rfl
 ·exact fun args H v H' h=>aP.mk_T h
 ·exact fun args H v H' h=>aA.mk_T h
 ·exact fun args H v H' h=>av.mk_T h
 ·exact fun args H v H' h=>bN.mk_T h
 ·exact fun args H v H' h=>aX.mk_T h
theorem aC.ok:codeOk aC.pn Try.f62.ntmps aC.tb aC.code = true:=by kernel_rfl
theorem aC.T {F:Nat} {aa:Sl} {ab:Int} {H:Hp} {v:AV} {H':Hp} (h:aC.tw F aa ab H = some (v,H')):Go.AE.T Try.prog 62 [(.agg [(.sl aa),(.int .i64 ab)])] H v H':=
 Go.AE.T.of (Y:=tabs) (C:=mkOrc (aC.cs F (aP.tw F) (aA.tw F) (av.tw F) (bN.tw F) (aX.tw F))) (PN:=aC.pn) (LH:=aC.lh F (aP.tw F) (aA.tw F) (av.tw F) (bN.tw F) (aX.tw F)) (F:=F) (TB:=aC.tb) (fn:=Try.f62) (code:=aC.code) mixed tabs_ok (mkOrc_ok (aC.cs_ok F)) Try.func62 (by kernel_rfl) (by kernel_rfl) aC.ok (Nat.le_of_ble_eq_true (by kernel_rfl)) (aC.loops F (aP.tw F) (aA.tw F) (av.tw F) (bN.tw F) (aX.tw F)) (Eq.trans (aC.eqX F (aP.tw F) (aA.tw F) (av.tw F) (bN.tw F) (aX.tw F) aa ab H) h)
theorem aC.mk_T {F:Nat} {args:List AV} {H:Hp} {v:AV} {H':Hp} (h:aC.mk (aC.tw F) args H = some (v,H')):Go.AE.T Try.prog 62 args H v H':=by
 unfold aC.mk at h
 split at h
 ·exact aC.T h
 ·cases h
noncomputable def bn.twX (F:Nat) (gb:Sl→Int→Hp→OA) (gc:Sl→Int→Hp→OA) (aa:Sl) (ab:Int) (H:Hp):OA:=(Hp.new H [(.sl aa),(.int .i64 ab)]).bind fun H3=>(Hp.ldSl H3 H.length 0).bind fun s4=>(Hp.ldI H3 .i64 H.length (0 + 1)).bind fun n5=>(gb s4 n5 H3).bind fun r6=>((r6.1).asB).bind fun b7=>(bif (!b7) then (some ((.tup [(.sl (⟨none,0,.ex 0⟩:Sl)),(.int .i64 (-1))]),r6.2)) else ((Hp.ldSl r6.2 H.length 0).bind fun s8=>(Hp.ldI r6.2 .i64 H.length (0 + 1)).bind fun n9=>(gc s8 n9 r6.2).bind fun r10=>((r10.1).asTup 2).bind fun l11=>(l11[0]?).bind fun v12=>((v12).asSl).bind fun s13=>(l11[1]?).bind fun v14=>((v14).asI .i64).bind fun n15=>some ((.tup [(.sl s13),(.int .i64 n15)]),r10.2)))
noncomputable def bn.tw (F:Nat) (aa:Sl) (ab:Int) (H:Hp):OA:=bn.twX F (bm.tw F) (aC.tw F) aa ab H
noncomputable def bn.code:Go.Code:=(Try.f18.body).getD .skip
noncomputable def bn.lh (F:Nat) (gb:Sl→Int→Hp→OA) (gc:Sl→Int→Hp→OA) (p:Nat) (ks:List Nat) (n:Nat) (tm:Tm) (H:Hp):OA:=none
def bn.pn:Nat→List Nat:=fun i=>(([]:List (Nat×List Nat)).lookup i).getD []
def bn.tb:Nat→List (List Nat):=fun i=>(([]:List (Nat×List (List Nat))).lookup i).getD []
noncomputable def bn.mk (g:Sl→Int→Hp→OA) (args:List AV) (H:Hp):OA:=match args with
 | [(.agg [(.sl aa),(.int .i64 ab)])]=>g aa ab H
 | _=>none
noncomputable def bn.cs (F:Nat) (gb:Sl→Int→Hp→OA) (gc:Sl→Int→Hp→OA):List (FuncId×(List AV→Hp→OA)):=[(61,bm.mk gb),(62,aC.mk gc)]
theorem bn.loops (F:Nat) (gb:Sl→Int→Hp→OA) (gc:Sl→Int→Hp→OA):LoopsOk tabs (mkOrc (bn.cs F gb gc)) bn.pn (bn.lh F gb gc) F [] 1 bn.code (fun tm H=>aresults tabs.ty H tm Try.f18.results.toList fun v=>some (v,H)) (fun _ _ _=>none) (fun tm H=>aresults tabs.ty H tm Try.f18.results.toList fun v=>some (v,H)):=by
 exact loops_none (by kernel_rfl)
theorem bn.eqX (F:Nat) (gb:Sl→Int→Hp→OA) (gc:Sl→Int→Hp→OA) (aa:Sl) (ab:Int) (H:Hp):aCode tabs (mkOrc (bn.cs F gb gc)) bn.pn (bn.lh F gb gc) F [] 1 bn.code (argTm [(.agg [(.sl aa),(.int .i64 ab)])]) H (fun tm H=>aresults tabs.ty H tm Try.f18.results.toList fun v=>some (v,H)) (fun _ _ _=>none) (fun tm H=>aresults tabs.ty H tm Try.f18.results.toList fun v=>some (v,H)) = bn.twX F gb gc aa ab H:=by kernel_rfl
theorem bn.cs_ok (F:Nat):∀ p ∈ bn.cs F (bm.tw F) (aC.tw F),∀ args H v H',p.2 args H = some (v,H')→Go.AE.T Try.prog p.1 args H v H':=by
 intro p hp
 simp only [bn.cs,List.mem_cons,List.not_mem_nil,or_false] at hp
 rcases hp with rfl | rfl
 ·exact fun args H v H' h=>bm.mk_T h
 ·exact fun args H v H' h=>aC.mk_T h
theorem bn.ok:codeOk bn.pn Try.f18.ntmps bn.tb bn.code = true:=by kernel_rfl
theorem bn.T {F:Nat} {aa:Sl} {ab:Int} {H:Hp} {v:AV} {H':Hp} (h:bn.tw F aa ab H = some (v,H')):Go.AE.T Try.prog 18 [(.agg [(.sl aa),(.int .i64 ab)])] H v H':=
 Go.AE.T.of (Y:=tabs) (C:=mkOrc (bn.cs F (bm.tw F) (aC.tw F))) (PN:=bn.pn) (LH:=bn.lh F (bm.tw F) (aC.tw F)) (F:=F) (TB:=bn.tb) (fn:=Try.f18) (code:=bn.code) mixed tabs_ok (mkOrc_ok (bn.cs_ok F)) Try.func18 (by kernel_rfl) (by kernel_rfl) bn.ok (Nat.le_of_ble_eq_true (by kernel_rfl)) (bn.loops F (bm.tw F) (aC.tw F)) (Eq.trans (bn.eqX F (bm.tw F) (aC.tw F) aa ab H) h)
theorem bn.mk_T {F:Nat} {args:List AV} {H:Hp} {v:AV} {H':Hp} (h:bn.mk (bn.tw F) args H = some (v,H')):Go.AE.T Try.prog 18 args H v H':=by
 unfold bn.mk at h
 split at h
 ·exact bn.T h
 ·cases h
noncomputable def aE.l29 (F:Nat) :Nat→Sl→Sl→Int→Hp→OA
 | 0,_,_,_,_=>none
 | eN + 1,aT,aD,bK,H8=>(bif (decide (bK < (aT.n:Int))) then ((Sl.idx aT bK 1).bind fun p13=>(Hp.ldI H8 .i64 p13.1 p13.2).bind fun n14=>(Sl.idx aD bK 1).bind fun p15=>(Hp.ldI H8 .i64 p15.1 p15.2).bind fun n16=>(bif (n14 != n16) then (some ((.bool false),H8)) else (aE.l29 F eN aT aD (IntKind.i64.wrap (bK + 1)) H8))) else (some ((.bool true),H8)))
termination_by structural n=>n
noncomputable def aE.twX (F:Nat) (aa:Sl) (ae:Sl) (H:Hp):OA:=(bif ((aa.n:Int) != (ae.n:Int)) then (some ((.bool false),H)) else (aE.l29 F F aa ae 0 H))
noncomputable def aE.tw (F:Nat) (aa:Sl) (ae:Sl) (H:Hp):OA:=aE.twX F aa ae H
noncomputable def aE.code:Go.Code:=(Try.f19.body).getD .skip
noncomputable def aE.lh29 (F:Nat) (ks:List Nat) (n:Nat) (tm:Tm) (H:Hp):OA:=match ks,tm 0,tm 1,tm 5 with
 | [],(.sl aT),(.sl aD),(.int .i64 bK)=>aE.l29 F n aT aD bK H
 | _,_,_,_=>none
theorem aE.lh29_inv {F:Nat} {ks:List Nat} {n:Nat} {tm:Tm} {H:Hp} {r:AV×Hp} (h:aE.lh29 F ks n tm H = some r):∃ aT:Sl,∃ aD:Sl,∃ bK:Int,ks = []∧tm 0 = (.sl aT)∧tm 1 = (.sl aD)∧tm 5 = (.int .i64 bK)∧aE.l29 F n aT aD bK H = some r:=by
 unfold aE.lh29 at h
 split at h
 ·exact ⟨_,_,_,rfl,by assumption,by assumption,by assumption,h⟩
 ·cases h
noncomputable def aE.lh (F:Nat) (p:Nat) (ks:List Nat) (n:Nat) (tm:Tm) (H:Hp):OA:=bif p.beq 29 then aE.lh29 F ks n tm H else (none)
def aE.pn:Nat→List Nat:=fun i=>(([(6,[])]:List (Nat×List Nat)).lookup i).getD []
def aE.tb:Nat→List (List Nat):=fun i=>(([(6,[[],[],[0,1],[0,1,2],[],[],[4,5],[4,5,6],[0,1,2,3,4,5,6,7]])]:List (Nat×List (List Nat))).lookup i).getD []
noncomputable def aE.mk (g:Sl→Sl→Hp→OA) (args:List AV) (H:Hp):OA:=match args with
 | [(.sl aa),(.sl ae)]=>g aa ae H
 | _=>none
noncomputable def aE.cs (F:Nat):List (FuncId×(List AV→Hp→OA)):=[]
theorem aE.loops (F:Nat):LoopsOk tabs (mkOrc (aE.cs F)) aE.pn (aE.lh F) F [] 1 aE.code (fun tm H=>aresults tabs.ty H tm Try.f19.results.toList fun v=>some (v,H)) (fun _ _ _=>none) (fun tm H=>aresults tabs.ty H tm Try.f19.results.toList fun v=>some (v,H)):=by
 refine LoopsOk.seq ?_ ?_
 ·exact loops_none (by kernel_rfl)
 ·refine LoopsOk.seq ?_ ?_
  ·exact loops_none (by kernel_rfl)
  ·refine LoopsOk.seq ?_ ?_
   ·refine LoopsOk.seq ?_ ?_
    ·exact loops_none (by kernel_rfl)
    ·refine LoopsOk.block ?_
     refine LoopsOk.loop (fun tm H=>?_) (fun k29 tm H r h0=>?_) (fun k29=>?_)
     ·refine none_of fun r h0=>?_
      obtain ⟨aT,aD,bK,hks,e0,e1,e5,h⟩:=aE.lh29_inv (show aE.lh29 F [] 0 tm H = some r from h0)
      cases h
     ·obtain ⟨aT,aD,bK,hks,e0,e1,e5,h⟩:=aE.lh29_inv (show aE.lh29 F [] (k29 + 1) tm H = some r from h0)
      have q0:(Tm.put tm 0 (.sl aT)) = tm:=by exact Tm.put_same e0
      have q1:(Tm.put (Tm.put tm 0 (.sl aT)) 1 (.sl aD)) = tm:=by rw [q0]; exact Tm.put_same e1
      have q2:(Tm.put (Tm.put (Tm.put tm 0 (.sl aT)) 1 (.sl aD)) 5 (.int .i64 bK)) = tm:=by rw [q1]; exact Tm.put_same e5
      rw [← q2]
      exact Eq.trans (by kernel_rfl) h
     ·exact loops_none (by kernel_rfl)
   ·exact loops_none (by kernel_rfl)
theorem aE.eqX (F:Nat) (aa:Sl) (ae:Sl) (H:Hp):aCode tabs (mkOrc (aE.cs F)) aE.pn (aE.lh F) F [] 1 aE.code (argTm [(.sl aa),(.sl ae)]) H (fun tm H=>aresults tabs.ty H tm Try.f19.results.toList fun v=>some (v,H)) (fun _ _ _=>none) (fun tm H=>aresults tabs.ty H tm Try.f19.results.toList fun v=>some (v,H)) = aE.twX F aa ae H:=by kernel_rfl
theorem aE.cs_ok (F:Nat):∀ p ∈ aE.cs F,∀ args H v H',p.2 args H = some (v,H')→Go.AE.T Try.prog p.1 args H v H':=by
 intro p hp
 exact absurd (show p ∈ [] from hp) List.not_mem_nil
theorem aE.ok:codeOk aE.pn Try.f19.ntmps aE.tb aE.code = true:=by kernel_rfl
theorem aE.T {F:Nat} {aa:Sl} {ae:Sl} {H:Hp} {v:AV} {H':Hp} (h:aE.tw F aa ae H = some (v,H')):Go.AE.T Try.prog 19 [(.sl aa),(.sl ae)] H v H':=
 Go.AE.T.of (Y:=tabs) (C:=mkOrc (aE.cs F)) (PN:=aE.pn) (LH:=aE.lh F) (F:=F) (TB:=aE.tb) (fn:=Try.f19) (code:=aE.code) mixed tabs_ok (mkOrc_ok (aE.cs_ok F)) Try.func19 (by kernel_rfl) (by kernel_rfl) aE.ok (Nat.le_of_ble_eq_true (by kernel_rfl)) (aE.loops F) (Eq.trans (aE.eqX F aa ae H) h)
theorem aE.mk_T {F:Nat} {args:List AV} {H:Hp} {v:AV} {H':Hp} (h:aE.mk (aE.tw F) args H = some (v,H')):Go.AE.T Try.prog 19 args H v H':=by
 unfold aE.mk at h
 split at h
 ·exact aE.T h
 ·cases h
noncomputable def bv.twX (F:Nat) (aa:Int) (ab:Int) (aw:Int) (ax:Int) (au:Int) (aU:Int) (eA:Int) (eB:Int) (eC:Int) (eD:Int) (H:Hp):OA:=(Hp.new H [(.int .i64 aa),(.int .i64 ab),(.int .i64 aw),(.int .i64 ax),(.int .i64 au)]).bind fun H11=>(Hp.new H11 [(.int .i64 aU),(.int .i64 eA),(.int .i64 eB),(.int .i64 eC),(.int .i64 eD)]).bind fun H12=>(Hp.ldI H12 .i64 H.length 0).bind fun n13=>(Hp.ldI H12 .i64 H11.length 0).bind fun n14=>(bif (n13 != n14) then (some ((.bool false),H12)) else ((Hp.ldI H12 .i64 H.length 1).bind fun n15=>(Hp.ldI H12 .i64 H11.length 1).bind fun n16=>(bif (n15 != n16) then (some ((.bool false),H12)) else ((Hp.ldI H12 .i64 H.length 2).bind fun n17=>(Hp.ldI H12 .i64 H11.length 2).bind fun n18=>(bif (n17 != n18) then (some ((.bool false),H12)) else ((Hp.ldI H12 .i64 H.length 3).bind fun n19=>(Hp.ldI H12 .i64 H11.length 3).bind fun n20=>(bif (n19 != n20) then (some ((.bool false),H12)) else ((Hp.ldI H12 .i64 H.length 4).bind fun n21=>(Hp.ldI H12 .i64 H11.length 4).bind fun n22=>(bif (n21 != n22) then (some ((.bool false),H12)) else (some ((.bool true),H12)))))))))))
noncomputable def bv.tw (F:Nat) (aa:Int) (ab:Int) (aw:Int) (ax:Int) (au:Int) (aU:Int) (eA:Int) (eB:Int) (eC:Int) (eD:Int) (H:Hp):OA:=bv.twX F aa ab aw ax au aU eA eB eC eD H
noncomputable def bv.code:Go.Code:=(Try.f121.body).getD .skip
noncomputable def bv.lh (F:Nat) (p:Nat) (ks:List Nat) (n:Nat) (tm:Tm) (H:Hp):OA:=none
def bv.pn:Nat→List Nat:=fun i=>(([]:List (Nat×List Nat)).lookup i).getD []
def bv.tb:Nat→List (List Nat):=fun i=>(([]:List (Nat×List (List Nat))).lookup i).getD []
noncomputable def bv.mk (g:Int→Int→Int→Int→Int→Int→Int→Int→Int→Int→Hp→OA) (args:List AV) (H:Hp):OA:=match args with
 | [(.agg [(.int .i64 aa),(.int .i64 ab),(.int .i64 aw),(.int .i64 ax),(.int .i64 au)]),(.agg [(.int .i64 aU),(.int .i64 eA),(.int .i64 eB),(.int .i64 eC),(.int .i64 eD)])]=>g aa ab aw ax au aU eA eB eC eD H
 | _=>none
noncomputable def bv.cs (F:Nat):List (FuncId×(List AV→Hp→OA)):=[]
theorem bv.loops (F:Nat):LoopsOk tabs (mkOrc (bv.cs F)) bv.pn (bv.lh F) F [] 1 bv.code (fun tm H=>aresults tabs.ty H tm Try.f121.results.toList fun v=>some (v,H)) (fun _ _ _=>none) (fun tm H=>aresults tabs.ty H tm Try.f121.results.toList fun v=>some (v,H)):=by
 exact loops_none (by kernel_rfl)
theorem bv.eqX (F:Nat) (aa:Int) (ab:Int) (aw:Int) (ax:Int) (au:Int) (aU:Int) (eA:Int) (eB:Int) (eC:Int) (eD:Int) (H:Hp):aCode tabs (mkOrc (bv.cs F)) bv.pn (bv.lh F) F [] 1 bv.code (argTm [(.agg [(.int .i64 aa),(.int .i64 ab),(.int .i64 aw),(.int .i64 ax),(.int .i64 au)]),(.agg [(.int .i64 aU),(.int .i64 eA),(.int .i64 eB),(.int .i64 eC),(.int .i64 eD)])]) H (fun tm H=>aresults tabs.ty H tm Try.f121.results.toList fun v=>some (v,H)) (fun _ _ _=>none) (fun tm H=>aresults tabs.ty H tm Try.f121.results.toList fun v=>some (v,H)) = bv.twX F aa ab aw ax au aU eA eB eC eD H:=by kernel_rfl
theorem bv.cs_ok (F:Nat):∀ p ∈ bv.cs F,∀ args H v H',p.2 args H = some (v,H')→Go.AE.T Try.prog p.1 args H v H':=by
 intro p hp
 exact absurd (show p ∈ [] from hp) List.not_mem_nil
theorem bv.ok:codeOk bv.pn Try.f121.ntmps bv.tb bv.code = true:=by kernel_rfl
theorem bv.T {F:Nat} {aa:Int} {ab:Int} {aw:Int} {ax:Int} {au:Int} {aU:Int} {eA:Int} {eB:Int} {eC:Int} {eD:Int} {H:Hp} {v:AV} {H':Hp} (h:bv.tw F aa ab aw ax au aU eA eB eC eD H = some (v,H')):Go.AE.T Try.prog 121 [(.agg [(.int .i64 aa),(.int .i64 ab),(.int .i64 aw),(.int .i64 ax),(.int .i64 au)]),(.agg [(.int .i64 aU),(.int .i64 eA),(.int .i64 eB),(.int .i64 eC),(.int .i64 eD)])] H v H':=
 Go.AE.T.of (Y:=tabs) (C:=mkOrc (bv.cs F)) (PN:=bv.pn) (LH:=bv.lh F) (F:=F) (TB:=bv.tb) (fn:=Try.f121) (code:=bv.code) mixed tabs_ok (mkOrc_ok (bv.cs_ok F)) Try.func121 (by kernel_rfl) (by kernel_rfl) bv.ok (Nat.le_of_ble_eq_true (by kernel_rfl)) (bv.loops F) (Eq.trans (bv.eqX F aa ab aw ax au aU eA eB eC eD H) h)
theorem bv.mk_T {F:Nat} {args:List AV} {H:Hp} {v:AV} {H':Hp} (h:bv.mk (bv.tw F) args H = some (v,H')):Go.AE.T Try.prog 121 args H v H':=by
 unfold bv.mk at h
 split at h
 ·exact bv.T h
 ·cases h
noncomputable def aM.l29 (F:Nat) (dw:Int→Int→Int→Int→Int→Int→Int→Int→Int→Int→Hp→OA) :Nat→Sl→Sl→Int→Hp→OA
 | 0,_,_,_,_=>none
 | eN + 1,aT,aD,bK,H8=>(bif (decide (bK < (aT.n:Int))) then ((Sl.idx aT bK 5).bind fun p23=>(Hp.ldI H8 .i64 p23.1 p23.2).bind fun n24=>(Hp.ldI H8 .i64 p23.1 (p23.2 + 1)).bind fun n25=>(Hp.ldI H8 .i64 p23.1 (p23.2 + 2)).bind fun n26=>(Hp.ldI H8 .i64 p23.1 (p23.2 + 3)).bind fun n27=>(Hp.ldI H8 .i64 p23.1 (p23.2 + 4)).bind fun n28=>(Sl.idx aD bK 5).bind fun p29=>(Hp.ldI H8 .i64 p29.1 p29.2).bind fun n30=>(Hp.ldI H8 .i64 p29.1 (p29.2 + 1)).bind fun n31=>(Hp.ldI H8 .i64 p29.1 (p29.2 + 2)).bind fun n32=>(Hp.ldI H8 .i64 p29.1 (p29.2 + 3)).bind fun n33=>(Hp.ldI H8 .i64 p29.1 (p29.2 + 4)).bind fun n34=>(dw n24 n25 n26 n27 n28 n30 n31 n32 n33 n34 H8).bind fun r35=>((r35.1).asB).bind fun b36=>(bif (!b36) then (some ((.bool false),r35.2)) else (aM.l29 F dw eN aT aD (IntKind.i64.wrap (bK + 1)) r35.2))) else (some ((.bool true),H8)))
termination_by structural n=>n
noncomputable def aM.twX (F:Nat) (dw:Int→Int→Int→Int→Int→Int→Int→Int→Int→Int→Hp→OA) (aa:Sl) (ae:Sl) (H:Hp):OA:=(bif ((aa.n:Int) != (ae.n:Int)) then (some ((.bool false),H)) else (aM.l29 F dw F aa ae 0 H))
noncomputable def aM.tw (F:Nat) (aa:Sl) (ae:Sl) (H:Hp):OA:=aM.twX F (bv.tw F) aa ae H
noncomputable def aM.code:Go.Code:=(Try.f63.body).getD .skip
noncomputable def aM.lh29 (F:Nat) (dw:Int→Int→Int→Int→Int→Int→Int→Int→Int→Int→Hp→OA) (ks:List Nat) (n:Nat) (tm:Tm) (H:Hp):OA:=match ks,tm 0,tm 1,tm 5 with
 | [],(.sl aT),(.sl aD),(.int .i64 bK)=>aM.l29 F dw n aT aD bK H
 | _,_,_,_=>none
theorem aM.lh29_inv {F:Nat} {dw:Int→Int→Int→Int→Int→Int→Int→Int→Int→Int→Hp→OA} {ks:List Nat} {n:Nat} {tm:Tm} {H:Hp} {r:AV×Hp} (h:aM.lh29 F dw ks n tm H = some r):∃ aT:Sl,∃ aD:Sl,∃ bK:Int,ks = []∧tm 0 = (.sl aT)∧tm 1 = (.sl aD)∧tm 5 = (.int .i64 bK)∧aM.l29 F dw n aT aD bK H = some r:=by
 unfold aM.lh29 at h
 split at h
 ·exact ⟨_,_,_,rfl,by assumption,by assumption,by assumption,h⟩
 ·cases h
noncomputable def aM.lh (F:Nat) (dw:Int→Int→Int→Int→Int→Int→Int→Int→Int→Int→Hp→OA) (p:Nat) (ks:List Nat) (n:Nat) (tm:Tm) (H:Hp):OA:=bif p.beq 29 then aM.lh29 F dw ks n tm H else (none)
def aM.pn:Nat→List Nat:=fun i=>(([(6,[8])]:List (Nat×List Nat)).lookup i).getD []
def aM.tb:Nat→List (List Nat):=fun i=>(([(6,[[],[],[0,1],[0,1,2],[],[],[4,5],[4,5,6],[0,1,2,3,4,5,6,7],[0,1,2,3,4,5,6,7,8]])]:List (Nat×List (List Nat))).lookup i).getD []
noncomputable def aM.mk (g:Sl→Sl→Hp→OA) (args:List AV) (H:Hp):OA:=match args with
 | [(.sl aa),(.sl ae)]=>g aa ae H
 | _=>none
noncomputable def aM.cs (F:Nat) (dw:Int→Int→Int→Int→Int→Int→Int→Int→Int→Int→Hp→OA):List (FuncId×(List AV→Hp→OA)):=[(121,bv.mk dw)]
theorem aM.loops (F:Nat) (dw:Int→Int→Int→Int→Int→Int→Int→Int→Int→Int→Hp→OA):LoopsOk tabs (mkOrc (aM.cs F dw)) aM.pn (aM.lh F dw) F [] 1 aM.code (fun tm H=>aresults tabs.ty H tm Try.f63.results.toList fun v=>some (v,H)) (fun _ _ _=>none) (fun tm H=>aresults tabs.ty H tm Try.f63.results.toList fun v=>some (v,H)):=by
 refine LoopsOk.seq ?_ ?_
 ·exact loops_none (by kernel_rfl)
 ·refine LoopsOk.seq ?_ ?_
  ·exact loops_none (by kernel_rfl)
  ·refine LoopsOk.seq ?_ ?_
   ·refine LoopsOk.seq ?_ ?_
    ·exact loops_none (by kernel_rfl)
    ·refine LoopsOk.block ?_
     refine LoopsOk.loop (fun tm H=>?_) (fun k29 tm H r h0=>?_) (fun k29=>?_)
     ·refine none_of fun r h0=>?_
      obtain ⟨aT,aD,bK,hks,e0,e1,e5,h⟩:=aM.lh29_inv (show aM.lh29 F dw [] 0 tm H = some r from h0)
      cases h
     ·obtain ⟨aT,aD,bK,hks,e0,e1,e5,h⟩:=aM.lh29_inv (show aM.lh29 F dw [] (k29 + 1) tm H = some r from h0)
      have q0:(Tm.put tm 0 (.sl aT)) = tm:=by exact Tm.put_same e0
      have q1:(Tm.put (Tm.put tm 0 (.sl aT)) 1 (.sl aD)) = tm:=by rw [q0]; exact Tm.put_same e1
      have q2:(Tm.put (Tm.put (Tm.put tm 0 (.sl aT)) 1 (.sl aD)) 5 (.int .i64 bK)) = tm:=by rw [q1]; exact Tm.put_same e5
      rw [← q2]
      exact Eq.trans (by kernel_rfl) h
     ·exact loops_none (by kernel_rfl)
   ·exact loops_none (by kernel_rfl)
theorem aM.eqX (F:Nat) (dw:Int→Int→Int→Int→Int→Int→Int→Int→Int→Int→Hp→OA) (aa:Sl) (ae:Sl) (H:Hp):aCode tabs (mkOrc (aM.cs F dw)) aM.pn (aM.lh F dw) F [] 1 aM.code (argTm [(.sl aa),(.sl ae)]) H (fun tm H=>aresults tabs.ty H tm Try.f63.results.toList fun v=>some (v,H)) (fun _ _ _=>none) (fun tm H=>aresults tabs.ty H tm Try.f63.results.toList fun v=>some (v,H)) = aM.twX F dw aa ae H:=by kernel_rfl
theorem aM.cs_ok (F:Nat):∀ p ∈ aM.cs F (bv.tw F),∀ args H v H',p.2 args H = some (v,H')→Go.AE.T Try.prog p.1 args H v H':=by
 intro p hp
 simp only [aM.cs,List.mem_cons,List.not_mem_nil,or_false] at hp
 subst hp
 exact fun args H v H' h=>bv.mk_T h
theorem aM.ok:codeOk aM.pn Try.f63.ntmps aM.tb aM.code = true:=by kernel_rfl
theorem aM.T {F:Nat} {aa:Sl} {ae:Sl} {H:Hp} {v:AV} {H':Hp} (h:aM.tw F aa ae H = some (v,H')):Go.AE.T Try.prog 63 [(.sl aa),(.sl ae)] H v H':=
 Go.AE.T.of (Y:=tabs) (C:=mkOrc (aM.cs F (bv.tw F))) (PN:=aM.pn) (LH:=aM.lh F (bv.tw F)) (F:=F) (TB:=aM.tb) (fn:=Try.f63) (code:=aM.code) mixed tabs_ok (mkOrc_ok (aM.cs_ok F)) Try.func63 (by kernel_rfl) (by kernel_rfl) aM.ok (Nat.le_of_ble_eq_true (by kernel_rfl)) (aM.loops F (bv.tw F)) (Eq.trans (aM.eqX F (bv.tw F) aa ae H) h)
theorem aM.mk_T {F:Nat} {args:List AV} {H:Hp} {v:AV} {H':Hp} (h:aM.mk (aM.tw F) args H = some (v,H')):Go.AE.T Try.prog 63 args H v H':=by
 unfold aM.mk at h
 split at h
 ·exact aM.T h
 ·cases h
noncomputable def bq.twX (F:Nat) (gd:Sl→Sl→Hp→OA) (aa:Sl) (ab:Int) (ar:Sl) (bA:Int) (H:Hp):OA:=(Hp.new H [(.sl aa),(.int .i64 ab)]).bind fun H5=>(Hp.new H5 [(.sl ar),(.int .i64 bA)]).bind fun H6=>(Hp.ldSl H6 H.length 0).bind fun s7=>(Hp.ldSl H6 H5.length 0).bind fun s8=>(gd s7 s8 H6).bind fun r9=>((r9.1).asB).bind fun b10=>(bif (!b10) then (some ((.bool false),r9.2)) else ((Hp.ldI r9.2 .i64 H.length 1).bind fun n11=>(Hp.ldI r9.2 .i64 H5.length 1).bind fun n12=>(bif (n11 != n12) then (some ((.bool false),r9.2)) else (some ((.bool true),r9.2)))))
noncomputable def bq.tw (F:Nat) (aa:Sl) (ab:Int) (ar:Sl) (bA:Int) (H:Hp):OA:=bq.twX F (aM.tw F) aa ab ar bA H
noncomputable def bq.code:Go.Code:=(Try.f20.body).getD .skip
noncomputable def bq.lh (F:Nat) (gd:Sl→Sl→Hp→OA) (p:Nat) (ks:List Nat) (n:Nat) (tm:Tm) (H:Hp):OA:=none
def bq.pn:Nat→List Nat:=fun i=>(([]:List (Nat×List Nat)).lookup i).getD []
def bq.tb:Nat→List (List Nat):=fun i=>(([]:List (Nat×List (List Nat))).lookup i).getD []
noncomputable def bq.mk (g:Sl→Int→Sl→Int→Hp→OA) (args:List AV) (H:Hp):OA:=match args with
 | [(.agg [(.sl aa),(.int .i64 ab)]),(.agg [(.sl ar),(.int .i64 bA)])]=>g aa ab ar bA H
 | _=>none
noncomputable def bq.cs (F:Nat) (gd:Sl→Sl→Hp→OA):List (FuncId×(List AV→Hp→OA)):=[(63,aM.mk gd)]
theorem bq.loops (F:Nat) (gd:Sl→Sl→Hp→OA):LoopsOk tabs (mkOrc (bq.cs F gd)) bq.pn (bq.lh F gd) F [] 1 bq.code (fun tm H=>aresults tabs.ty H tm Try.f20.results.toList fun v=>some (v,H)) (fun _ _ _=>none) (fun tm H=>aresults tabs.ty H tm Try.f20.results.toList fun v=>some (v,H)):=by
 exact loops_none (by kernel_rfl)
theorem bq.eqX (F:Nat) (gd:Sl→Sl→Hp→OA) (aa:Sl) (ab:Int) (ar:Sl) (bA:Int) (H:Hp):aCode tabs (mkOrc (bq.cs F gd)) bq.pn (bq.lh F gd) F [] 1 bq.code (argTm [(.agg [(.sl aa),(.int .i64 ab)]),(.agg [(.sl ar),(.int .i64 bA)])]) H (fun tm H=>aresults tabs.ty H tm Try.f20.results.toList fun v=>some (v,H)) (fun _ _ _=>none) (fun tm H=>aresults tabs.ty H tm Try.f20.results.toList fun v=>some (v,H)) = bq.twX F gd aa ab ar bA H:=by kernel_rfl
theorem bq.cs_ok (F:Nat):∀ p ∈ bq.cs F (aM.tw F),∀ args H v H',p.2 args H = some (v,H')→Go.AE.T Try.prog p.1 args H v H':=by
 intro p hp
 simp only [bq.cs,List.mem_cons,List.not_mem_nil,or_false] at hp
 subst hp
 exact fun args H v H' h=>aM.mk_T h
theorem bq.ok:codeOk bq.pn Try.f20.ntmps bq.tb bq.code = true:=by kernel_rfl
theorem bq.T {F:Nat} {aa:Sl} {ab:Int} {ar:Sl} {bA:Int} {H:Hp} {v:AV} {H':Hp} (h:bq.tw F aa ab ar bA H = some (v,H')):Go.AE.T Try.prog 20 [(.agg [(.sl aa),(.int .i64 ab)]),(.agg [(.sl ar),(.int .i64 bA)])] H v H':=
 Go.AE.T.of (Y:=tabs) (C:=mkOrc (bq.cs F (aM.tw F))) (PN:=bq.pn) (LH:=bq.lh F (aM.tw F)) (F:=F) (TB:=bq.tb) (fn:=Try.f20) (code:=bq.code) mixed tabs_ok (mkOrc_ok (bq.cs_ok F)) Try.func20 (by kernel_rfl) (by kernel_rfl) bq.ok (Nat.le_of_ble_eq_true (by kernel_rfl)) (bq.loops F (aM.tw F)) (Eq.trans (bq.eqX F (aM.tw F) aa ab ar bA H) h)
theorem bq.mk_T {F:Nat} {args:List AV} {H:Hp} {v:AV} {H':Hp} (h:bq.mk (bq.tw F) args H = some (v,H')):Go.AE.T Try.prog 20 args H v H':=by
 unfold bq.mk at h
 split at h
 ·exact bq.T h
 ·cases h
noncomputable def aN.l13 (F:Nat) :Nat→Sl→Int→Int→Hp→OA
 | 0,_,_,_,_=>none
 | eu + 1,aT,aD,bc,H7=>(bif (decide (bc < (aT.n:Int))) then ((Sl.idx aT bc 5).bind fun p18=>(Hp.st H7 p18.1 p18.2 (.int .i64 aD)).bind fun H19=>(Sl.idx aT bc 5).bind fun p20=>(Hp.st H19 p20.1 (p20.2 + 1) (.int .i64 (IntKind.i64.wrap (aD + 1)))).bind fun H21=>(Sl.idx aT bc 5).bind fun p22=>(Hp.st H21 p22.1 (p22.2 + 2) (.int .i64 (IntKind.i64.wrap ((IntKind.i64.wrap (aD + 1)) + 1)))).bind fun H23=>(Sl.idx aT bc 5).bind fun p24=>(Hp.st H23 p24.1 (p24.2 + 3) (.int .i64 (IntKind.i64.wrap ((IntKind.i64.wrap ((IntKind.i64.wrap (aD + 1)) + 1)) + 1)))).bind fun H25=>(Sl.idx aT bc 5).bind fun p26=>(Hp.st H25 p26.1 (p26.2 + 4) (.int .i64 (IntKind.i64.wrap ((IntKind.i64.wrap ((IntKind.i64.wrap ((IntKind.i64.wrap (aD + 1)) + 1)) + 1)) + 1)))).bind fun H27=>aN.l13 F eu aT (IntKind.i64.wrap ((IntKind.i64.wrap ((IntKind.i64.wrap ((IntKind.i64.wrap ((IntKind.i64.wrap (aD + 1)) + 1)) + 1)) + 1)) + 1)) (IntKind.i64.wrap (bc + 1)) H27) else (some ((.int .i64 aD),H7)))
termination_by structural n=>n
noncomputable def aN.twX (F:Nat) (aa:Sl) (ae:Int) (H:Hp):OA:=aN.l13 F F aa ae 0 H
noncomputable def aN.tw (F:Nat) (aa:Sl) (ae:Int) (H:Hp):OA:=aN.twX F aa ae H
noncomputable def aN.code:Go.Code:=(Try.f64.body).getD .skip
noncomputable def aN.lh13 (F:Nat) (ks:List Nat) (n:Nat) (tm:Tm) (H:Hp):OA:=match ks,tm 0,tm 1,tm 5 with
 | [],(.sl aT),(.int .i64 aD),(.int .i64 bc)=>aN.l13 F n aT aD bc H
 | _,_,_,_=>none
theorem aN.lh13_inv {F:Nat} {ks:List Nat} {n:Nat} {tm:Tm} {H:Hp} {r:AV×Hp} (h:aN.lh13 F ks n tm H = some r):∃ aT:Sl,∃ aD:Int,∃ bc:Int,ks = []∧tm 0 = (.sl aT)∧tm 1 = (.int .i64 aD)∧tm 5 = (.int .i64 bc)∧aN.l13 F n aT aD bc H = some r:=by
 unfold aN.lh13 at h
 split at h
 ·exact ⟨_,_,_,rfl,by assumption,by assumption,by assumption,h⟩
 ·cases h
noncomputable def aN.lh (F:Nat) (p:Nat) (ks:List Nat) (n:Nat) (tm:Tm) (H:Hp):OA:=bif p.beq 13 then aN.lh13 F ks n tm H else (none)
def aN.pn:Nat→List Nat:=fun i=>(([]:List (Nat×List Nat)).lookup i).getD []
def aN.tb:Nat→List (List Nat):=fun i=>(([]:List (Nat×List (List Nat))).lookup i).getD []
noncomputable def aN.mk (g:Sl→Int→Hp→OA) (args:List AV) (H:Hp):OA:=match args with
 | [(.sl aa),(.int .i64 ae)]=>g aa ae H
 | _=>none
noncomputable def aN.cs (F:Nat):List (FuncId×(List AV→Hp→OA)):=[]
theorem aN.loops (F:Nat):LoopsOk tabs (mkOrc (aN.cs F)) aN.pn (aN.lh F) F [] 1 aN.code (fun tm H=>aresults tabs.ty H tm Try.f64.results.toList fun v=>some (v,H)) (fun _ _ _=>none) (fun tm H=>aresults tabs.ty H tm Try.f64.results.toList fun v=>some (v,H)):=by
 refine LoopsOk.seq ?_ ?_
 ·exact loops_none (by kernel_rfl)
 ·refine LoopsOk.seq ?_ ?_
  ·refine LoopsOk.seq ?_ ?_
   ·exact loops_none (by kernel_rfl)
   ·refine LoopsOk.block ?_
    refine LoopsOk.loop (fun tm H=>?_) (fun k13 tm H r h0=>?_) (fun k13=>?_)
    ·refine none_of fun r h0=>?_
     obtain ⟨aT,aD,bc,hks,e0,e1,e5,h⟩:=aN.lh13_inv (show aN.lh13 F [] 0 tm H = some r from h0)
     cases h
    ·obtain ⟨aT,aD,bc,hks,e0,e1,e5,h⟩:=aN.lh13_inv (show aN.lh13 F [] (k13 + 1) tm H = some r from h0)
     have q0:(Tm.put tm 0 (.sl aT)) = tm:=by exact Tm.put_same e0
     have q1:(Tm.put (Tm.put tm 0 (.sl aT)) 1 (.int .i64 aD)) = tm:=by rw [q0]; exact Tm.put_same e1
     have q2:(Tm.put (Tm.put (Tm.put tm 0 (.sl aT)) 1 (.int .i64 aD)) 5 (.int .i64 bc)) = tm:=by rw [q1]; exact Tm.put_same e5
     rw [← q2]
     exact Eq.trans (by kernel_rfl) h
    ·exact loops_none (by kernel_rfl)
  ·exact loops_none (by kernel_rfl)
theorem aN.eqX (F:Nat) (aa:Sl) (ae:Int) (H:Hp):aCode tabs (mkOrc (aN.cs F)) aN.pn (aN.lh F) F [] 1 aN.code (argTm [(.sl aa),(.int .i64 ae)]) H (fun tm H=>aresults tabs.ty H tm Try.f64.results.toList fun v=>some (v,H)) (fun _ _ _=>none) (fun tm H=>aresults tabs.ty H tm Try.f64.results.toList fun v=>some (v,H)) = aN.twX F aa ae H:=by kernel_rfl
theorem aN.cs_ok (F:Nat):∀ p ∈ aN.cs F,∀ args H v H',p.2 args H = some (v,H')→Go.AE.T Try.prog p.1 args H v H':=by
 intro p hp
 exact absurd (show p ∈ [] from hp) List.not_mem_nil
theorem aN.ok:codeOk aN.pn Try.f64.ntmps aN.tb aN.code = true:=by kernel_rfl
theorem aN.T {F:Nat} {aa:Sl} {ae:Int} {H:Hp} {v:AV} {H':Hp} (h:aN.tw F aa ae H = some (v,H')):Go.AE.T Try.prog 64 [(.sl aa),(.int .i64 ae)] H v H':=
 Go.AE.T.of (Y:=tabs) (C:=mkOrc (aN.cs F)) (PN:=aN.pn) (LH:=aN.lh F) (F:=F) (TB:=aN.tb) (fn:=Try.f64) (code:=aN.code) mixed tabs_ok (mkOrc_ok (aN.cs_ok F)) Try.func64 (by kernel_rfl) (by kernel_rfl) aN.ok (Nat.le_of_ble_eq_true (by kernel_rfl)) (aN.loops F) (Eq.trans (aN.eqX F aa ae H) h)
theorem aN.mk_T {F:Nat} {args:List AV} {H:Hp} {v:AV} {H':Hp} (h:aN.mk (aN.tw F) args H = some (v,H')):Go.AE.T Try.prog 64 args H v H':=by
 unfold aN.mk at h
 split at h
 ·exact aN.T h
 ·cases h
noncomputable def br.twX (F:Nat) (gf:Sl→Int→Hp→OA) (aa:Sl) (ab:Int) (ar:Int) (H:Hp):OA:=(Hp.new H [(.sl aa),(.int .i64 ab)]).bind fun H4=>(Hp.ldSl H4 H.length 0).bind fun s5=>(gf s5 ar H4).bind fun r6=>((r6.1).asI .i64).bind fun n7=>some ((.int .i64 n7),r6.2)
noncomputable def br.tw (F:Nat) (aa:Sl) (ab:Int) (ar:Int) (H:Hp):OA:=br.twX F (aN.tw F) aa ab ar H
noncomputable def br.code:Go.Code:=(Try.f21.body).getD .skip
noncomputable def br.lh (F:Nat) (gf:Sl→Int→Hp→OA) (p:Nat) (ks:List Nat) (n:Nat) (tm:Tm) (H:Hp):OA:=none
def br.pn:Nat→List Nat:=fun i=>(([]:List (Nat×List Nat)).lookup i).getD []
def br.tb:Nat→List (List Nat):=fun i=>(([]:List (Nat×List (List Nat))).lookup i).getD []
noncomputable def br.mk (g:Sl→Int→Int→Hp→OA) (args:List AV) (H:Hp):OA:=match args with
 | [(.agg [(.sl aa),(.int .i64 ab)]),(.int .i64 ar)]=>g aa ab ar H
 | _=>none
noncomputable def br.cs (F:Nat) (gf:Sl→Int→Hp→OA):List (FuncId×(List AV→Hp→OA)):=[(64,aN.mk gf)]
theorem br.loops (F:Nat) (gf:Sl→Int→Hp→OA):LoopsOk tabs (mkOrc (br.cs F gf)) br.pn (br.lh F gf) F [] 1 br.code (fun tm H=>aresults tabs.ty H tm Try.f21.results.toList fun v=>some (v,H)) (fun _ _ _=>none) (fun tm H=>aresults tabs.ty H tm Try.f21.results.toList fun v=>some (v,H)):=by
 exact loops_none (by kernel_rfl)
theorem br.eqX (F:Nat) (gf:Sl→Int→Hp→OA) (aa:Sl) (ab:Int) (ar:Int) (H:Hp):aCode tabs (mkOrc (br.cs F gf)) br.pn (br.lh F gf) F [] 1 br.code (argTm [(.agg [(.sl aa),(.int .i64 ab)]),(.int .i64 ar)]) H (fun tm H=>aresults tabs.ty H tm Try.f21.results.toList fun v=>some (v,H)) (fun _ _ _=>none) (fun tm H=>aresults tabs.ty H tm Try.f21.results.toList fun v=>some (v,H)) = br.twX F gf aa ab ar H:=by kernel_rfl
theorem br.cs_ok (F:Nat):∀ p ∈ br.cs F (aN.tw F),∀ args H v H',p.2 args H = some (v,H')→Go.AE.T Try.prog p.1 args H v H':=by
 intro p hp
 simp only [br.cs,List.mem_cons,List.not_mem_nil,or_false] at hp
 subst hp
 exact fun args H v H' h=>aN.mk_T h
theorem br.ok:codeOk br.pn Try.f21.ntmps br.tb br.code = true:=by kernel_rfl
theorem br.T {F:Nat} {aa:Sl} {ab:Int} {ar:Int} {H:Hp} {v:AV} {H':Hp} (h:br.tw F aa ab ar H = some (v,H')):Go.AE.T Try.prog 21 [(.agg [(.sl aa),(.int .i64 ab)]),(.int .i64 ar)] H v H':=
 Go.AE.T.of (Y:=tabs) (C:=mkOrc (br.cs F (aN.tw F))) (PN:=br.pn) (LH:=br.lh F (aN.tw F)) (F:=F) (TB:=br.tb) (fn:=Try.f21) (code:=br.code) mixed tabs_ok (mkOrc_ok (br.cs_ok F)) Try.func21 (by kernel_rfl) (by kernel_rfl) br.ok (Nat.le_of_ble_eq_true (by kernel_rfl)) (br.loops F (aN.tw F)) (Eq.trans (br.eqX F (aN.tw F) aa ab ar H) h)
theorem br.mk_T {F:Nat} {args:List AV} {H:Hp} {v:AV} {H':Hp} (h:br.mk (br.tw F) args H = some (v,H')):Go.AE.T Try.prog 21 args H v H':=by
 unfold br.mk at h
 split at h
 ·exact br.T h
 ·cases h
noncomputable def aO.l13 (F:Nat) :Nat→Sl→Int→Int→Hp→OA
 | 0,_,_,_,_=>none
 | eu + 1,aT,aD,bc,H7=>(bif (decide (bc < (aT.n:Int))) then ((Sl.idx aT bc 1).bind fun p10=>(Hp.st H7 p10.1 p10.2 (.int .i64 aD)).bind fun H11=>aO.l13 F eu aT (IntKind.i64.wrap (aD + 1)) (IntKind.i64.wrap (bc + 1)) H11) else (some ((.int .i64 aD),H7)))
termination_by structural n=>n
noncomputable def aO.twX (F:Nat) (aa:Sl) (ae:Int) (H:Hp):OA:=aO.l13 F F aa ae 0 H
noncomputable def aO.tw (F:Nat) (aa:Sl) (ae:Int) (H:Hp):OA:=aO.twX F aa ae H
noncomputable def aO.code:Go.Code:=(Try.f22.body).getD .skip
noncomputable def aO.lh13 (F:Nat) (ks:List Nat) (n:Nat) (tm:Tm) (H:Hp):OA:=match ks,tm 0,tm 1,tm 5 with
 | [],(.sl aT),(.int .i64 aD),(.int .i64 bc)=>aO.l13 F n aT aD bc H
 | _,_,_,_=>none
theorem aO.lh13_inv {F:Nat} {ks:List Nat} {n:Nat} {tm:Tm} {H:Hp} {r:AV×Hp} (h:aO.lh13 F ks n tm H = some r):∃ aT:Sl,∃ aD:Int,∃ bc:Int,ks = []∧tm 0 = (.sl aT)∧tm 1 = (.int .i64 aD)∧tm 5 = (.int .i64 bc)∧aO.l13 F n aT aD bc H = some r:=by
 unfold aO.lh13 at h
 split at h
 ·exact ⟨_,_,_,rfl,by assumption,by assumption,by assumption,h⟩
 ·cases h
noncomputable def aO.lh (F:Nat) (p:Nat) (ks:List Nat) (n:Nat) (tm:Tm) (H:Hp):OA:=bif p.beq 13 then aO.lh13 F ks n tm H else (none)
def aO.pn:Nat→List Nat:=fun i=>(([]:List (Nat×List Nat)).lookup i).getD []
def aO.tb:Nat→List (List Nat):=fun i=>(([]:List (Nat×List (List Nat))).lookup i).getD []
noncomputable def aO.mk (g:Sl→Int→Hp→OA) (args:List AV) (H:Hp):OA:=match args with
 | [(.sl aa),(.int .i64 ae)]=>g aa ae H
 | _=>none
noncomputable def aO.cs (F:Nat):List (FuncId×(List AV→Hp→OA)):=[]
theorem aO.loops (F:Nat):LoopsOk tabs (mkOrc (aO.cs F)) aO.pn (aO.lh F) F [] 1 aO.code (fun tm H=>aresults tabs.ty H tm Try.f22.results.toList fun v=>some (v,H)) (fun _ _ _=>none) (fun tm H=>aresults tabs.ty H tm Try.f22.results.toList fun v=>some (v,H)):=by
 refine LoopsOk.seq ?_ ?_
 ·exact loops_none (by kernel_rfl)
 ·refine LoopsOk.seq ?_ ?_
  ·refine LoopsOk.seq ?_ ?_
   ·exact loops_none (by kernel_rfl)
   ·refine LoopsOk.block ?_
    refine LoopsOk.loop (fun tm H=>?_) (fun k13 tm H r h0=>?_) (fun k13=>?_)
    ·refine none_of fun r h0=>?_
     obtain ⟨aT,aD,bc,hks,e0,e1,e5,h⟩:=aO.lh13_inv (show aO.lh13 F [] 0 tm H = some r from h0)
     cases h
    ·obtain ⟨aT,aD,bc,hks,e0,e1,e5,h⟩:=aO.lh13_inv (show aO.lh13 F [] (k13 + 1) tm H = some r from h0)
     have q0:(Tm.put tm 0 (.sl aT)) = tm:=by exact Tm.put_same e0
     have q1:(Tm.put (Tm.put tm 0 (.sl aT)) 1 (.int .i64 aD)) = tm:=by rw [q0]; exact Tm.put_same e1
     have q2:(Tm.put (Tm.put (Tm.put tm 0 (.sl aT)) 1 (.int .i64 aD)) 5 (.int .i64 bc)) = tm:=by rw [q1]; exact Tm.put_same e5
     rw [← q2]
     exact Eq.trans (by kernel_rfl) h
    ·exact loops_none (by kernel_rfl)
  ·exact loops_none (by kernel_rfl)
theorem aO.eqX (F:Nat) (aa:Sl) (ae:Int) (H:Hp):aCode tabs (mkOrc (aO.cs F)) aO.pn (aO.lh F) F [] 1 aO.code (argTm [(.sl aa),(.int .i64 ae)]) H (fun tm H=>aresults tabs.ty H tm Try.f22.results.toList fun v=>some (v,H)) (fun _ _ _=>none) (fun tm H=>aresults tabs.ty H tm Try.f22.results.toList fun v=>some (v,H)) = aO.twX F aa ae H:=by kernel_rfl
theorem aO.cs_ok (F:Nat):∀ p ∈ aO.cs F,∀ args H v H',p.2 args H = some (v,H')→Go.AE.T Try.prog p.1 args H v H':=by
 intro p hp
 exact absurd (show p ∈ [] from hp) List.not_mem_nil
theorem aO.ok:codeOk aO.pn Try.f22.ntmps aO.tb aO.code = true:=by kernel_rfl
theorem aO.T {F:Nat} {aa:Sl} {ae:Int} {H:Hp} {v:AV} {H':Hp} (h:aO.tw F aa ae H = some (v,H')):Go.AE.T Try.prog 22 [(.sl aa),(.int .i64 ae)] H v H':=
 Go.AE.T.of (Y:=tabs) (C:=mkOrc (aO.cs F)) (PN:=aO.pn) (LH:=aO.lh F) (F:=F) (TB:=aO.tb) (fn:=Try.f22) (code:=aO.code) mixed tabs_ok (mkOrc_ok (aO.cs_ok F)) Try.func22 (by kernel_rfl) (by kernel_rfl) aO.ok (Nat.le_of_ble_eq_true (by kernel_rfl)) (aO.loops F) (Eq.trans (aO.eqX F aa ae H) h)
theorem aO.mk_T {F:Nat} {args:List AV} {H:Hp} {v:AV} {H':Hp} (h:aO.mk (aO.tw F) args H = some (v,H')):Go.AE.T Try.prog 22 args H v H':=by
 unfold aO.mk at h
 split at h
 ·exact aO.T h
 ·cases h
noncomputable def aG.l13 (F:Nat) :Nat→Sl→Int→Int→Hp→OA
 | 0,_,_,_,_=>none
 | eu + 1,aT,aD,bc,H7=>(bif (decide (bc < (aT.n:Int))) then ((Sl.idx aT bc 1).bind fun p10=>(Hp.ldI H7 .i64 p10.1 p10.2).bind fun n11=>(bif (n11 != aD) then (some ((.int .i64 (-1)),H7)) else (aG.l13 F eu aT (IntKind.i64.wrap (aD + 1)) (IntKind.i64.wrap (bc + 1)) H7))) else (some ((.int .i64 aD),H7)))
termination_by structural n=>n
noncomputable def aG.twX (F:Nat) (aa:Sl) (ae:Int) (H:Hp):OA:=aG.l13 F F aa ae 0 H
noncomputable def aG.tw (F:Nat) (aa:Sl) (ae:Int) (H:Hp):OA:=aG.twX F aa ae H
noncomputable def aG.code:Go.Code:=(Try.f23.body).getD .skip
noncomputable def aG.lh13 (F:Nat) (ks:List Nat) (n:Nat) (tm:Tm) (H:Hp):OA:=match ks,tm 0,tm 1,tm 5 with
 | [],(.sl aT),(.int .i64 aD),(.int .i64 bc)=>aG.l13 F n aT aD bc H
 | _,_,_,_=>none
theorem aG.lh13_inv {F:Nat} {ks:List Nat} {n:Nat} {tm:Tm} {H:Hp} {r:AV×Hp} (h:aG.lh13 F ks n tm H = some r):∃ aT:Sl,∃ aD:Int,∃ bc:Int,ks = []∧tm 0 = (.sl aT)∧tm 1 = (.int .i64 aD)∧tm 5 = (.int .i64 bc)∧aG.l13 F n aT aD bc H = some r:=by
 unfold aG.lh13 at h
 split at h
 ·exact ⟨_,_,_,rfl,by assumption,by assumption,by assumption,h⟩
 ·cases h
noncomputable def aG.lh (F:Nat) (p:Nat) (ks:List Nat) (n:Nat) (tm:Tm) (H:Hp):OA:=bif p.beq 13 then aG.lh13 F ks n tm H else (none)
def aG.pn:Nat→List Nat:=fun i=>(([]:List (Nat×List Nat)).lookup i).getD []
def aG.tb:Nat→List (List Nat):=fun i=>(([]:List (Nat×List (List Nat))).lookup i).getD []
noncomputable def aG.mk (g:Sl→Int→Hp→OA) (args:List AV) (H:Hp):OA:=match args with
 | [(.sl aa),(.int .i64 ae)]=>g aa ae H
 | _=>none
noncomputable def aG.cs (F:Nat):List (FuncId×(List AV→Hp→OA)):=[]
theorem aG.loops (F:Nat):LoopsOk tabs (mkOrc (aG.cs F)) aG.pn (aG.lh F) F [] 1 aG.code (fun tm H=>aresults tabs.ty H tm Try.f23.results.toList fun v=>some (v,H)) (fun _ _ _=>none) (fun tm H=>aresults tabs.ty H tm Try.f23.results.toList fun v=>some (v,H)):=by
 refine LoopsOk.seq ?_ ?_
 ·exact loops_none (by kernel_rfl)
 ·refine LoopsOk.seq ?_ ?_
  ·refine LoopsOk.seq ?_ ?_
   ·exact loops_none (by kernel_rfl)
   ·refine LoopsOk.block ?_
    refine LoopsOk.loop (fun tm H=>?_) (fun k13 tm H r h0=>?_) (fun k13=>?_)
    ·refine none_of fun r h0=>?_
     obtain ⟨aT,aD,bc,hks,e0,e1,e5,h⟩:=aG.lh13_inv (show aG.lh13 F [] 0 tm H = some r from h0)
     cases h
    ·obtain ⟨aT,aD,bc,hks,e0,e1,e5,h⟩:=aG.lh13_inv (show aG.lh13 F [] (k13 + 1) tm H = some r from h0)
     have q0:(Tm.put tm 0 (.sl aT)) = tm:=by exact Tm.put_same e0
     have q1:(Tm.put (Tm.put tm 0 (.sl aT)) 1 (.int .i64 aD)) = tm:=by rw [q0]; exact Tm.put_same e1
     have q2:(Tm.put (Tm.put (Tm.put tm 0 (.sl aT)) 1 (.int .i64 aD)) 5 (.int .i64 bc)) = tm:=by rw [q1]; exact Tm.put_same e5
     rw [← q2]
     exact Eq.trans (by kernel_rfl) h
    ·exact loops_none (by kernel_rfl)
  ·exact loops_none (by kernel_rfl)
theorem aG.eqX (F:Nat) (aa:Sl) (ae:Int) (H:Hp):aCode tabs (mkOrc (aG.cs F)) aG.pn (aG.lh F) F [] 1 aG.code (argTm [(.sl aa),(.int .i64 ae)]) H (fun tm H=>aresults tabs.ty H tm Try.f23.results.toList fun v=>some (v,H)) (fun _ _ _=>none) (fun tm H=>aresults tabs.ty H tm Try.f23.results.toList fun v=>some (v,H)) = aG.twX F aa ae H:=by kernel_rfl
theorem aG.cs_ok (F:Nat):∀ p ∈ aG.cs F,∀ args H v H',p.2 args H = some (v,H')→Go.AE.T Try.prog p.1 args H v H':=by
 intro p hp
 exact absurd (show p ∈ [] from hp) List.not_mem_nil
theorem aG.ok:codeOk aG.pn Try.f23.ntmps aG.tb aG.code = true:=by kernel_rfl
theorem aG.T {F:Nat} {aa:Sl} {ae:Int} {H:Hp} {v:AV} {H':Hp} (h:aG.tw F aa ae H = some (v,H')):Go.AE.T Try.prog 23 [(.sl aa),(.int .i64 ae)] H v H':=
 Go.AE.T.of (Y:=tabs) (C:=mkOrc (aG.cs F)) (PN:=aG.pn) (LH:=aG.lh F) (F:=F) (TB:=aG.tb) (fn:=Try.f23) (code:=aG.code) mixed tabs_ok (mkOrc_ok (aG.cs_ok F)) Try.func23 (by kernel_rfl) (by kernel_rfl) aG.ok (Nat.le_of_ble_eq_true (by kernel_rfl)) (aG.loops F) (Eq.trans (aG.eqX F aa ae H) h)
theorem aG.mk_T {F:Nat} {args:List AV} {H:Hp} {v:AV} {H':Hp} (h:aG.mk (aG.tw F) args H = some (v,H')):Go.AE.T Try.prog 23 args H v H':=by
 unfold aG.mk at h
 split at h
 ·exact aG.T h
 ·cases h
noncomputable def bB.twX (F:Nat) (gg:Sl→Int→Int→Hp→OA) (fe:Sl→Int→Hp→OA) (gh:Sl→Int→Hp→OA) (fE:Sl→Int→Hp→OA) (fo:Sl→Sl→Hp→OA) (gi:Sl→Int→Sl→Int→Hp→OA) (gj:Sl→Int→Int→Hp→OA) (gk:Sl→Int→Hp→OA) (fF:Sl→Int→Hp→OA) (aa:Sl) (ab:Int) (H:Hp):OA:=(Hp.new H [(.sl aa),(.int .i64 ab)]).bind fun H3=>(Hp.ldSl H3 H.length 0).bind fun s4=>(Hp.ldI H3 .i64 H.length (0 + 1)).bind fun n5=>(gg s4 n5 1048576 H3).bind fun r6=>((r6.1).asI .i64).bind fun n7=>(bif (decide (n7 < 0)) then (some ((.bool true),r6.2)) else ((Hp.ldSl r6.2 H.length 0).bind fun s8=>(Hp.ldI r6.2 .i64 H.length (0 + 1)).bind fun n9=>(fe s8 n9 r6.2).bind fun r10=>((r10.1).asAgg 2).bind fun l11=>(l11[0]?).bind fun v12=>((v12).asSl).bind fun s13=>(l11[1]?).bind fun v14=>((v14).asI .i64).bind fun n15=>(gh s13 n15 r10.2).bind fun r16=>((r16.1).asTup 2).bind fun l17=>(l17[0]?).bind fun v18=>((v18).asSl).bind fun s19=>(l17[1]?).bind fun v20=>((v20).asI .i64).bind fun n21=>(Hp.ldSl r16.2 H.length 0).bind fun s22=>(Hp.ldI r16.2 .i64 H.length (0 + 1)).bind fun n23=>(fe s22 n23 r16.2).bind fun r24=>((r24.1).asAgg 2).bind fun l25=>(l25[0]?).bind fun v26=>((v26).asSl).bind fun s27=>(l25[1]?).bind fun v28=>((v28).asI .i64).bind fun n29=>(Hp.new r24.2 [.sl ⟨none,0,.ex 0⟩,.int .i64 0]).bind fun H30=>(Hp.st H30 r24.2.length 0 (.sl s27)).bind fun H31=>(Hp.st H31 r24.2.length (0 + 1) (.int .i64 n29)).bind fun H32=>(Hp.ldSl H32 r24.2.length 0).bind fun s33=>(Hp.ldI H32 .i64 r24.2.length (0 + 1)).bind fun n34=>(fE s33 n34 H32).bind fun r35=>((r35.1).asTup 2).bind fun l36=>(l36[0]?).bind fun v37=>((v37).asSl).bind fun s38=>(l36[1]?).bind fun v39=>((v39).asI .i64).bind fun n40=>(fo s38 s19 r35.2).bind fun r41=>((r41.1).asB).bind fun b42=>(bif (!b42) then (some ((.bool false),r41.2)) else ((bif (n40 != n21) then (some ((.bool false),r41.2)) else ((Hp.ldSl r41.2 r24.2.length 0).bind fun s43=>(Hp.ldI r41.2 .i64 r24.2.length (0 + 1)).bind fun n44=>(Hp.ldSl r41.2 H.length 0).bind fun s45=>(Hp.ldI r41.2 .i64 H.length (0 + 1)).bind fun n46=>(fe s45 n46 r41.2).bind fun r47=>((r47.1).asAgg 2).bind fun l48=>(l48[0]?).bind fun v49=>((v49).asSl).bind fun s50=>(l48[1]?).bind fun v51=>((v51).asI .i64).bind fun n52=>(if Cons r41.2 r47.2 then ((gi s43 n44 s50 n52 r47.2).bind fun r53=>((r53.1).asB).bind fun b54=>(bif (!b54) then (some ((.bool false),r53.2)) else ((Hp.ldSl r53.2 r24.2.length 0).bind fun s55=>(Hp.ldI r53.2 .i64 r24.2.length (0 + 1)).bind fun n56=>(gj s55 n56 1 r53.2).bind fun r57=>((r57.1).asI .i64).bind fun n58=>(bif (decide (n58 < 0)) then (some ((.bool false),r57.2)) else ((fo s38 s19 r57.2).bind fun r59=>((r59.1).asB).bind fun b60=>(bif (!b60) then (some ((.bool false),r59.2)) else ((bif (n40 != n21) then (some ((.bool false),r59.2)) else ((gk s38 1 r59.2).bind fun r61=>((r61.1).asI .i64).bind fun n62=>(fF s38 1 r61.2).bind fun r63=>((r63.1).asI .i64).bind fun n64=>(bif (decide (n64 < 0)) then (some ((.bool false),r63.2)) else ((bif (n64 != n62) then (some ((.bool false),r63.2)) else ((Hp.ldSl r63.2 H.length 0).bind fun s65=>(Hp.ldI r63.2 .i64 H.length (0 + 1)).bind fun n66=>(fe s65 n66 r63.2).bind fun r67=>((r67.1).asAgg 2).bind fun l68=>(l68[0]?).bind fun v69=>((v69).asSl).bind fun s70=>(l68[1]?).bind fun v71=>((v71).asI .i64).bind fun n72=>(fE s70 n72 r67.2).bind fun r73=>((r73.1).asTup 2).bind fun l74=>(l74[0]?).bind fun v75=>((v75).asSl).bind fun s76=>(l74[1]?).bind fun v77=>((v77).asI .i64).bind fun n78=>(fo s76 s19 r73.2).bind fun r79=>((r79.1).asB).bind fun b80=>(bif (!b80) then (some ((.bool false),r79.2)) else ((bif (n78 != n21) then (some ((.bool false),r79.2)) else ((fF s38 1 r79.2).bind fun r81=>((r81.1).asI .i64).bind fun n82=>(bif (decide (n82 < 0)) then (some ((.bool false),r81.2)) else ((bif (n82 != n62) then (some ((.bool false),r81.2)) else (some ((.bool true),r81.2)))))))))))))))))))))) else none)))))))
noncomputable def bB.tw (F:Nat) (aa:Sl) (ab:Int) (H:Hp):OA:=bB.twX F (bl.tw F) (bd.tw F) (bo.tw F) (bn.tw F) (aE.tw F) (bq.tw F) (br.tw F) (aO.tw F) (aG.tw F) aa ab H
noncomputable def bB.code:Go.Code:=(Try.f3.body).getD .skip
noncomputable def bB.lh (F:Nat) (gg:Sl→Int→Int→Hp→OA) (fe:Sl→Int→Hp→OA) (gh:Sl→Int→Hp→OA) (fE:Sl→Int→Hp→OA) (fo:Sl→Sl→Hp→OA) (gi:Sl→Int→Sl→Int→Hp→OA) (gj:Sl→Int→Int→Hp→OA) (gk:Sl→Int→Hp→OA) (fF:Sl→Int→Hp→OA) (p:Nat) (ks:List Nat) (n:Nat) (tm:Tm) (H:Hp):OA:=none
def bB.pn:Nat→List Nat:=fun i=>(([(10,[3])]:List (Nat×List Nat)).lookup i).getD []
def bB.tb:Nat→List (List Nat):=fun i=>(([(10,[[],[],[1],[0,1,2],[0,1,2,3]])]:List (Nat×List (List Nat))).lookup i).getD []
noncomputable def bB.mk (g:Sl→Int→Hp→OA) (args:List AV) (H:Hp):OA:=match args with
 | [(.agg [(.sl aa),(.int .i64 ab)])]=>g aa ab H
 | _=>none
noncomputable def bB.cs (F:Nat) (gg:Sl→Int→Int→Hp→OA) (fe:Sl→Int→Hp→OA) (gh:Sl→Int→Hp→OA) (fE:Sl→Int→Hp→OA) (fo:Sl→Sl→Hp→OA) (gi:Sl→Int→Sl→Int→Hp→OA) (gj:Sl→Int→Int→Hp→OA) (gk:Sl→Int→Hp→OA) (fF:Sl→Int→Hp→OA):List (FuncId×(List AV→Hp→OA)):=[(15,bl.mk gg),(17,bd.mk fe),(16,bo.mk gh),(18,bn.mk fE),(19,aE.mk fo),(20,bq.mk gi),(21,br.mk gj),(22,aO.mk gk),(23,aG.mk fF)]
theorem bB.loops (F:Nat) (gg:Sl→Int→Int→Hp→OA) (fe:Sl→Int→Hp→OA) (gh:Sl→Int→Hp→OA) (fE:Sl→Int→Hp→OA) (fo:Sl→Sl→Hp→OA) (gi:Sl→Int→Sl→Int→Hp→OA) (gj:Sl→Int→Int→Hp→OA) (gk:Sl→Int→Hp→OA) (fF:Sl→Int→Hp→OA):LoopsOk tabs (mkOrc (bB.cs F gg fe gh fE fo gi gj gk fF)) bB.pn (bB.lh F gg fe gh fE fo gi gj gk fF) F [] 1 bB.code (fun tm H=>aresults tabs.ty H tm Try.f3.results.toList fun v=>some (v,H)) (fun _ _ _=>none) (fun tm H=>aresults tabs.ty H tm Try.f3.results.toList fun v=>some (v,H)):=by
 exact loops_none (by kernel_rfl)
theorem bB.eqX (F:Nat) (gg:Sl→Int→Int→Hp→OA) (fe:Sl→Int→Hp→OA) (gh:Sl→Int→Hp→OA) (fE:Sl→Int→Hp→OA) (fo:Sl→Sl→Hp→OA) (gi:Sl→Int→Sl→Int→Hp→OA) (gj:Sl→Int→Int→Hp→OA) (gk:Sl→Int→Hp→OA) (fF:Sl→Int→Hp→OA) (aa:Sl) (ab:Int) (H:Hp):aCode tabs (mkOrc (bB.cs F gg fe gh fE fo gi gj gk fF)) bB.pn (bB.lh F gg fe gh fE fo gi gj gk fF) F [] 1 bB.code (argTm [(.agg [(.sl aa),(.int .i64 ab)])]) H (fun tm H=>aresults tabs.ty H tm Try.f3.results.toList fun v=>some (v,H)) (fun _ _ _=>none) (fun tm H=>aresults tabs.ty H tm Try.f3.results.toList fun v=>some (v,H)) = bB.twX F gg fe gh fE fo gi gj gk fF aa ab H:=by kernel_rfl
theorem bB.cs_ok (F:Nat):∀ p ∈ bB.cs F (bl.tw F) (bd.tw F) (bo.tw F) (bn.tw F) (aE.tw F) (bq.tw F) (br.tw F) (aO.tw F) (aG.tw F),∀ args H v H',p.2 args H = some (v,H')→Go.AE.T Try.prog p.1 args H v H':=by
 intro p hp
 simp only [bB.cs,List.mem_cons,List.not_mem_nil,or_false] at hp
 rcases hp with rfl | rfl | rfl | rfl | rfl | rfl | rfl | rfl | rfl
 ·exact fun args H v H' h=>bl.mk_T h
 ·exact fun args H v H' h=>bd.mk_T h
 ·exact fun args H v H' h=>bo.mk_T h
 ·exact fun args H v H' h=>bn.mk_T h
 ·exact fun args H v H' h=>aE.mk_T h
 ·exact fun args H v H' h=>bq.mk_T h
 ·exact fun args H v H' h=>br.mk_T h
 ·exact fun args H v H' h=>aO.mk_T h
 ·exact fun args H v H' h=>aG.mk_T h
theorem bB.ok:codeOk bB.pn Try.f3.ntmps bB.tb bB.code = true:=by kernel_rfl
theorem bB.T {F:Nat} {aa:Sl} {ab:Int} {H:Hp} {v:AV} {H':Hp} (h:bB.tw F aa ab H = some (v,H')):Go.AE.T Try.prog 3 [(.agg [(.sl aa),(.int .i64 ab)])] H v H':=
 Go.AE.T.of (Y:=tabs) (C:=mkOrc (bB.cs F (bl.tw F) (bd.tw F) (bo.tw F) (bn.tw F) (aE.tw F) (bq.tw F) (br.tw F) (aO.tw F) (aG.tw F))) (PN:=bB.pn) (LH:=bB.lh F (bl.tw F) (bd.tw F) (bo.tw F) (bn.tw F) (aE.tw F) (bq.tw F) (br.tw F) (aO.tw F) (aG.tw F)) (F:=F) (TB:=bB.tb) (fn:=Try.f3) (code:=bB.code) mixed tabs_ok (mkOrc_ok (bB.cs_ok F)) Try.func3 (by kernel_rfl) (by kernel_rfl) bB.ok (Nat.le_of_ble_eq_true (by kernel_rfl)) (bB.loops F (bl.tw F) (bd.tw F) (bo.tw F) (bn.tw F) (aE.tw F) (bq.tw F) (br.tw F) (aO.tw F) (aG.tw F)) (Eq.trans (bB.eqX F (bl.tw F) (bd.tw F) (bo.tw F) (bn.tw F) (aE.tw F) (bq.tw F) (br.tw F) (aO.tw F) (aG.tw F) aa ab H) h)
theorem bB.mk_T {F:Nat} {args:List AV} {H:Hp} {v:AV} {H':Hp} (h:bB.mk (bB.tw F) args H = some (v,H')):Go.AE.T Try.prog 3 args H v H':=by
 unfold bB.mk at h
 split at h
 ·exact bB.T h
 ·cases h
end Go.Proofs.Ythfinhmkgdmelaa.AE
