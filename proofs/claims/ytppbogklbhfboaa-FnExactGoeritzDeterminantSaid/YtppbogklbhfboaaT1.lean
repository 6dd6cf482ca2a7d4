import Derived.Test.YtppbogklbhfboaaTab1
import Derived.Test.YtppbogklbhfboaaE2
set_option linter.unusedVariables false
set_option linter.unusedSimpArgs false
namespace Go.Proofs.Ytppbogklbhfboaa.AE
open Go Go.AE Go.Proofs Go.RowKit Go.Maps
set_option linter.unusedVariables false
set_option maxHeartbeats 4000000
set_option maxRecDepth 100000
noncomputable section
def cc.twX (F:Nat) (aa:Sl) (ak:Int) (H:Hp):OA:=(bif (decide ((IntKind.i64.wrap (ak - (aa.n:Int))) < 0)) then (some ((.int .i64 (-1)),H)) else (some ((.int .i64 (IntKind.i64.wrap (ak - (aa.n:Int)))),H)))
def cc.tw (F:Nat) (aa:Sl) (ak:Int) (H:Hp):OA:=cc.twX F aa ak H
def cc.code:Go.Code:=(Try.f25.body).getD .skip
def cc.lh (F:Nat) (p:Nat) (ks:List Nat) (n:Nat) (tm:Tm) (H:Hp):OA:=none
def cc.pn:Nat→List Nat:=fun i=>(([]:List (Nat×List Nat)).lookup i).getD []
def cc.tb:Nat→List (List Nat):=fun i=>(([]:List (Nat×List (List Nat))).lookup i).getD []
def cc.mk (g:Sl→Int→Hp→OA) (args:List AV) (H:Hp):OA:=match args with
 | [(.sl aa),(.int .i64 ak)]=>g aa ak H
 | _=>none
def cc.cs (F:Nat):List (FuncId×(List AV→Hp→OA)):=[]
theorem cc.loops (F:Nat):LoopsOk tabs (mkOrc (cc.cs F)) cc.pn (cc.lh F) F [] 1 cc.code (fun tm H=>aresults tabs.ty H tm Try.f25.results.toList fun v=>some (v,H)) (fun _ _ _=>none) (fun tm H=>aresults tabs.ty H tm Try.f25.results.toList fun v=>some (v,H)):=by
 exact loops_none (by kernel_rfl)
theorem cc.eqX (F:Nat) (aa:Sl) (ak:Int) (H:Hp):aCode tabs (mkOrc (cc.cs F)) cc.pn (cc.lh F) F [] 1 cc.code (argTm [(.sl aa),(.int .i64 ak)]) H (fun tm H=>aresults tabs.ty H tm Try.f25.results.toList fun v=>some (v,H)) (fun _ _ _=>none) (fun tm H=>aresults tabs.ty H tm Try.f25.results.toList fun v=>some (v,H)) = cc.twX F aa ak H:=by kernel_rfl
theorem cc.cs_ok (F:Nat):∀ p ∈ cc.cs F,∀ args H v H',p.2 args H = some (v,H')→Go.AE.T Try.prog p.1 args H v H':=by
 intro p hp
 exact absurd (show p ∈ [] from hp) List.not_mem_nil
theorem cc.ok:codeOk cc.pn Try.f25.ntmps cc.tb cc.code = true:=by kernel_rfl
theorem cc.T {F:Nat} {aa:Sl} {ak:Int} {H:Hp} {v:AV} {H':Hp} (h:cc.tw F aa ak H = some (v,H')):Go.AE.T Try.prog 25 [(.sl aa),(.int .i64 ak)] H v H':=
 Go.AE.T.of (Y:=tabs) (C:=mkOrc (cc.cs F)) (PN:=cc.pn) (LH:=cc.lh F) (F:=F) (TB:=cc.tb) (fn:=Try.f25) (code:=cc.code) mixed tabs_ok (mkOrc_ok (cc.cs_ok F)) Try.func25 (by kernel_rfl) (by kernel_rfl) cc.ok (Nat.le_of_ble_eq_true (by kernel_rfl)) (cc.loops F) (Eq.trans (cc.eqX F aa ak H) h)
theorem cc.mk_T {F:Nat} {args:List AV} {H:Hp} {v:AV} {H':Hp} (h:cc.mk (cc.tw F) args H = some (v,H')):Go.AE.T Try.prog 25 args H v H':=by
 unfold cc.mk at h
 split at h
 ·exact cc.T h
 ·cases h
def bV.twX (F:Nat) (lg:Sl→Int→Hp→OA) (aa:Sl) (ab:Int) (au:Int) (H:Hp):OA:=(Hp.new H [(.sl aa),(.int .i64 ab)]).bind fun H4=>(Hp.ldSl H4 H.length 0).bind fun s5=>(lg s5 au H4).bind fun r6=>((r6.1).asI .i64).bind fun n7=>(bif (decide (n7 < 0)) then (some ((.int .i64 (-1)),r6.2)) else (some ((.int .i64 n7),r6.2)))
def bV.tw (F:Nat) (aa:Sl) (ab:Int) (au:Int) (H:Hp):OA:=bV.twX F (cc.tw F) aa ab au H
def bV.code:Go.Code:=(Try.f7.body).getD .skip
def bV.lh (F:Nat) (lg:Sl→Int→Hp→OA) (p:Nat) (ks:List Nat) (n:Nat) (tm:Tm) (H:Hp):OA:=none
def bV.pn:Nat→List Nat:=fun i=>(([]:List (Nat×List Nat)).lookup i).getD []
def bV.tb:Nat→List (List Nat):=fun i=>(([]:List (Nat×List (List Nat))).lookup i).getD []
def bV.mk (g:Sl→Int→Int→Hp→OA) (args:List AV) (H:Hp):OA:=match args with
 | [(.agg [(.sl aa),(.int .i64 ab)]),(.int .i64 au)]=>g aa ab au H
 | _=>none
def bV.cs (F:Nat) (lg:Sl→Int→Hp→OA):List (FuncId×(List AV→Hp→OA)):=[(25,cc.mk lg)]
theorem bV.loops (F:Nat) (lg:Sl→Int→Hp→OA):LoopsOk tabs (mkOrc (bV.cs F lg)) bV.pn (bV.lh F lg) F [] 1 bV.code (fun tm H=>aresults tabs.ty H tm Try.f7.results.toList fun v=>some (v,H)) (fun _ _ _=>none) (fun tm H=>aresults tabs.ty H tm Try.f7.results.toList fun v=>some (v,H)):=by
 exact loops_none (by kernel_rfl)
theorem bV.eqX (F:Nat) (lg:Sl→Int→Hp→OA) (aa:Sl) (ab:Int) (au:Int) (H:Hp):aCode tabs (mkOrc (bV.cs F lg)) bV.pn (bV.lh F lg) F [] 1 bV.code (argTm [(.agg [(.sl aa),(.int .i64 ab)]),(.int .i64 au)]) H (fun tm H=>aresults tabs.ty H tm Try.f7.results.toList fun v=>some (v,H)) (fun _ _ _=>none) (fun tm H=>aresults tabs.ty H tm Try.f7.results.toList fun v=>some (v,H)) = bV.twX F lg aa ab au H:=by kernel_rfl
theorem bV.cs_ok (F:Nat):∀ p ∈ bV.cs F (cc.tw F),∀ args H v H',p.2 args H = some (v,H')→Go.AE.T Try.prog p.1 args H v H':=by
 intro p hp
 simp only [bV.cs,List.mem_cons,List.not_mem_nil,or_false] at hp
 subst hp
 exact fun args H v H' h=>cc.mk_T h
theorem bV.ok:codeOk bV.pn Try.f7.ntmps bV.tb bV.code = true:=by kernel_rfl
theorem bV.T {F:Nat} {aa:Sl} {ab:Int} {au:Int} {H:Hp} {v:AV} {H':Hp} (h:bV.tw F aa ab au H = some (v,H')):Go.AE.T Try.prog 7 [(.agg [(.sl aa),(.int .i64 ab)]),(.int .i64 au)] H v H':=
 Go.AE.T.of (Y:=tabs) (C:=mkOrc (bV.cs F (cc.tw F))) (PN:=bV.pn) (LH:=bV.lh F (cc.tw F)) (F:=F) (TB:=bV.tb) (fn:=Try.f7) (code:=bV.code) mixed tabs_ok (mkOrc_ok (bV.cs_ok F)) Try.func7 (by kernel_rfl) (by kernel_rfl) bV.ok (Nat.le_of_ble_eq_true (by kernel_rfl)) (bV.loops F (cc.tw F)) (Eq.trans (bV.eqX F (cc.tw F) aa ab au H) h)
theorem bV.mk_T {F:Nat} {args:List AV} {H:Hp} {v:AV} {H':Hp} (h:bV.mk (bV.tw F) args H = some (v,H')):Go.AE.T Try.prog 7 args H v H':=by
 unfold bV.mk at h
 split at h
 ·exact bV.T h
 ·cases h
def cd.twX (F:Nat) (aa:Int) (ab:Int) (ax:Int) (aM:Int) (aJ:Int) (H:Hp):OA:=(Hp.new H [(.int .i64 aa),(.int .i64 ab),(.int .i64 ax),(.int .i64 aM),(.int .i64 aJ)]).bind fun H6=>(Hp.new H6 [.int .i64 0,.int .i64 0,.int .i64 0,.int .i64 0,.int .i64 0]).bind fun H7=>(Hp.new H7 [.int .i64 0,.int .i64 0,.int .i64 0,.int .i64 0,.int .i64 0]).bind fun H8=>(Hp.ldI H8 .i64 H.length 0).bind fun n9=>(Hp.st H8 H7.length 0 (.int .i64 n9)).bind fun H10=>(Hp.ldI H10 .i64 H.length 1).bind fun n11=>(Hp.st H10 H7.length 1 (.int .i64 n11)).bind fun H12=>(Hp.ldI H12 .i64 H.length 2).bind fun n13=>(Hp.st H12 H7.length 2 (.int .i64 n13)).bind fun H14=>(Hp.ldI H14 .i64 H.length 3).bind fun n15=>(Hp.st H14 H7.length 3 (.int .i64 n15)).bind fun H16=>(Hp.ldI H16 .i64 H.length 4).bind fun n17=>(Hp.st H16 H7.length 4 (.int .i64 n17)).bind fun H18=>(Hp.ldI H18 .i64 H7.length 0).bind fun n19=>(Hp.ldI H18 .i64 H7.length (0 + 1)).bind fun n20=>(Hp.ldI H18 .i64 H7.length (0 + 2)).bind fun n21=>(Hp.ldI H18 .i64 H7.length (0 + 3)).bind fun n22=>(Hp.ldI H18 .i64 H7.length (0 + 4)).bind fun n23=>(Hp.st H18 H6.length 0 (.int .i64 n19)).bind fun H24=>(Hp.st H24 H6.length (0 + 1) (.int .i64 n20)).bind fun H25=>(Hp.st H25 H6.length (0 + 1 + 1) (.int .i64 n21)).bind fun H26=>(Hp.st H26 H6.length (0 + 1 + 1 + 1) (.int .i64 n22)).bind fun H27=>(Hp.st H27 H6.length (0 + 1 + 1 + 1 + 1) (.int .i64 n23)).bind fun H28=>(Hp.ldI H28 .i64 H6.length 0).bind fun n29=>(Hp.ldI H28 .i64 H6.length (0 + 1)).bind fun n30=>(Hp.ldI H28 .i64 H6.length (0 + 2)).bind fun n31=>(Hp.ldI H28 .i64 H6.length (0 + 3)).bind fun n32=>(Hp.ldI H28 .i64 H6.length (0 + 4)).bind fun n33=>some ((.agg [(.int .i64 n29),(.int .i64 n30),(.int .i64 n31),(.int .i64 n32),(.int .i64 n33)]),H28)
def cd.tw (F:Nat) (aa:Int) (ab:Int) (ax:Int) (aM:Int) (aJ:Int) (H:Hp):OA:=cd.twX F aa ab ax aM aJ H
def cd.code:Go.Code:=(Try.f59.body).getD .skip
def cd.lh (F:Nat) (p:Nat) (ks:List Nat) (n:Nat) (tm:Tm) (H:Hp):OA:=none
def cd.pn:Nat→List Nat:=fun i=>(([]:List (Nat×List Nat)).lookup i).getD []
def cd.tb:Nat→List (List Nat):=fun i=>(([]:List (Nat×List (List Nat))).lookup i).getD []
def cd.mk (g:Int→Int→Int→Int→Int→Hp→OA) (args:List AV) (H:Hp):OA:=match args with
 | [(.agg [(.int .i64 aa),(.int .i64 ab),(.int .i64 ax),(.int .i64 aM),(.int .i64 aJ)])]=>g aa ab ax aM aJ H
 | _=>none
def cd.cs (F:Nat):List (FuncId×(List AV→Hp→OA)):=[]
theorem cd.loops (F:Nat):LoopsOk tabs (mkOrc (cd.cs F)) cd.pn (cd.lh F) F [] 1 cd.code (fun tm H=>aresults tabs.ty H tm Try.f59.results.toList fun v=>some (v,H)) (fun _ _ _=>none) (fun tm H=>aresults tabs.ty H tm Try.f59.results.toList fun v=>some (v,H)):=by
 exact loops_none (by kernel_rfl)
theorem cd.eqX (F:Nat) (aa:Int) (ab:Int) (ax:Int) (aM:Int) (aJ:Int) (H:Hp):aCode tabs (mkOrc (cd.cs F)) cd.pn (cd.lh F) F [] 1 cd.code (argTm [(.agg [(.int .i64 aa),(.int .i64 ab),(.int .i64 ax),(.int .i64 aM),(.int .i64 aJ)])]) H (fun tm H=>aresults tabs.ty H tm Try.f59.results.toList fun v=>some (v,H)) (fun _ _ _=>none) (fun tm H=>aresults tabs.ty H tm Try.f59.results.toList fun v=>some (v,H)) = cd.twX F aa ab ax aM aJ H:=by kernel_rfl
theorem cd.cs_ok (F:Nat):∀ p ∈ cd.cs F,∀ args H v H',p.2 args H = some (v,H')→Go.AE.T Try.prog p.1 args H v H':=by
 intro p hp
 exact absurd (show p ∈ [] from hp) List.not_mem_nil
theorem cd.ok:codeOk cd.pn Try.f59.ntmps cd.tb cd.code = true:=by kernel_rfl
theorem cd.T {F:Nat} {aa:Int} {ab:Int} {ax:Int} {aM:Int} {aJ:Int} {H:Hp} {v:AV} {H':Hp} (h:cd.tw F aa ab ax aM aJ H = some (v,H')):Go.AE.T Try.prog 59 [(.agg [(.int .i64 aa),(.int .i64 ab),(.int .i64 ax),(.int .i64 aM),(.int .i64 aJ)])] H v H':=
 Go.AE.T.of (Y:=tabs) (C:=mkOrc (cd.cs F)) (PN:=cd.pn) (LH:=cd.lh F) (F:=F) (TB:=cd.tb) (fn:=Try.f59) (code:=cd.code) mixed tabs_ok (mkOrc_ok (cd.cs_ok F)) Try.func59 (by kernel_rfl) (by kernel_rfl) cd.ok (Nat.le_of_ble_eq_true (by kernel_rfl)) (cd.loops F) (Eq.trans (cd.eqX F aa ab ax aM aJ H) h)
theorem cd.mk_T {F:Nat} {args:List AV} {H:Hp} {v:AV} {H':Hp} (h:cd.mk (cd.tw F) args H = some (v,H')):Go.AE.T Try.prog 59 args H v H':=by
 unfold cd.mk at h
 split at h
 ·exact cd.T h
 ·cases h
def bg.l29 (F:Nat) (fF:Int→Int→Int→Int→Int→Hp→OA) :Nat→Sl→Sl→Int→Hp→OA
 | 0,_,_,_,_=>none
 | cB + 1,dP,kJ,fG,H7=>(bif (decide (fG < (dP.n:Int))) then ((Sl.idx dP fG 5).bind fun p32=>(Hp.ldI H7 .i64 p32.1 p32.2).bind fun n33=>(Hp.ldI H7 .i64 p32.1 (p32.2 + 1)).bind fun n34=>(Hp.ldI H7 .i64 p32.1 (p32.2 + 2)).bind fun n35=>(Hp.ldI H7 .i64 p32.1 (p32.2 + 3)).bind fun n36=>(Hp.ldI H7 .i64 p32.1 (p32.2 + 4)).bind fun n37=>(fF n33 n34 n35 n36 n37 H7).bind fun r38=>((r38.1).asAgg 5).bind fun l39=>(l39[0]?).bind fun v40=>((v40).asI .i64).bind fun n41=>(l39[1]?).bind fun v42=>((v42).asI .i64).bind fun n43=>(l39[2]?).bind fun v44=>((v44).asI .i64).bind fun n45=>(l39[3]?).bind fun v46=>((v46).asI .i64).bind fun n47=>(l39[4]?).bind fun v48=>((v48).asI .i64).bind fun n49=>(Sl.idx kJ fG 5).bind fun p50=>(Hp.st r38.2 p50.1 p50.2 (.int .i64 n41)).bind fun H51=>(Hp.st H51 p50.1 (p50.2 + 1) (.int .i64 n43)).bind fun H52=>(Hp.st H52 p50.1 (p50.2 + 1 + 1) (.int .i64 n45)).bind fun H53=>(Hp.st H53 p50.1 (p50.2 + 1 + 1 + 1) (.int .i64 n47)).bind fun H54=>(Hp.st H54 p50.1 (p50.2 + 1 + 1 + 1 + 1) (.int .i64 n49)).bind fun H55=>bg.l29 F fF cB dP kJ (IntKind.i64.wrap (fG + 1)) H55) else (some ((.sl kJ),H7)))
termination_by structural n=>n
def bg.twX (F:Nat) (fF:Int→Int→Int→Int→Int→Hp→OA) (aa:Sl) (H:Hp):OA:=(Hp.mk H [.int .i64 0,.int .i64 0,.int .i64 0,.int .i64 0,.int .i64 0] 40 (aa.n:Int) (aa.n:Int)).bind fun m2=>bg.l29 F fF F aa m2.1 0 m2.2
def bg.tw (F:Nat) (aa:Sl) (H:Hp):OA:=bg.twX F (cd.tw F) aa H
def bg.code:Go.Code:=(Try.f31.body).getD .skip
def bg.lh29 (F:Nat) (fF:Int→Int→Int→Int→Int→Hp→OA) (ks:List Nat) (n:Nat) (tm:Tm) (H:Hp):OA:=match ks,tm 0,tm 3,tm 4 with
 | [],(.sl dP),(.sl kJ),(.int .i64 fG)=>bg.l29 F fF n dP kJ fG H
 | _,_,_,_=>none
theorem bg.lh29_inv {F:Nat} {fF:Int→Int→Int→Int→Int→Hp→OA} {ks:List Nat} {n:Nat} {tm:Tm} {H:Hp} {r:AV×Hp} (h:bg.lh29 F fF ks n tm H = some r):∃ dP:Sl,∃ kJ:Sl,∃ fG:Int,ks = []∧tm 0 = (.sl dP)∧tm 3 = (.sl kJ)∧tm 4 = (.int .i64 fG)∧bg.l29 F fF n dP kJ fG H = some r:=by
 unfold bg.lh29 at h
 split at h
 ·exact ⟨_,_,_,rfl,by assumption,by assumption,by assumption,h⟩
 ·cases h
def bg.lh (F:Nat) (fF:Int→Int→Int→Int→Int→Hp→OA) (p:Nat) (ks:List Nat) (n:Nat) (tm:Tm) (H:Hp):OA:=bif p.beq 29 then bg.lh29 F fF ks n tm H else (none)
def bg.pn:Nat→List Nat:=fun i=>(([]:List (Nat×List Nat)).lookup i).getD []
def bg.tb:Nat→List (List Nat):=fun i=>(([]:List (Nat×List (List Nat))).lookup i).getD []
def bg.mk (g:Sl→Hp→OA) (args:List AV) (H:Hp):OA:=match args with
 | [(.sl aa)]=>g aa H
 | _=>none
def bg.cs (F:Nat) (fF:Int→Int→Int→Int→Int→Hp→OA):List (FuncId×(List AV→Hp→OA)):=[(59,cd.mk fF)]
theorem bg.loops (F:Nat) (fF:Int→Int→Int→Int→Int→Hp→OA):LoopsOk tabs (mkOrc (bg.cs F fF)) bg.pn (bg.lh F fF) F [] 1 bg.code (fun tm H=>aresults tabs.ty H tm Try.f31.results.toList fun v=>some (v,H)) (fun _ _ _=>none) (fun tm H=>aresults tabs.ty H tm Try.f31.results.toList fun v=>some (v,H)):=by
 refine LoopsOk.seq ?_ ?_
 ·exact loops_none (by kernel_rfl)
 ·refine LoopsOk.seq ?_ ?_
  ·exact loops_none (by kernel_rfl)
  ·refine LoopsOk.seq ?_ ?_
   ·refine LoopsOk.seq ?_ ?_
    ·exact loops_none (by kernel_rfl)
    ·refine LoopsOk.block ?_
     refine LoopsOk.loop (fun tm H=>?_) (fun k29 tm H r h0=>?_) (fun k29=>?_)
     ·refine none_of fun r h0=>?_
      obtain ⟨dP,kJ,fG,hks,e0,e3,e4,h⟩:=bg.lh29_inv (show bg.lh29 F fF [] 0 tm H = some r from h0)
      cases h
     ·obtain ⟨dP,kJ,fG,hks,e0,e3,e4,h⟩:=bg.lh29_inv (show bg.lh29 F fF [] (k29 + 1) tm H = some r from h0)
      have q0:(Tm.put tm 0 (.sl dP)) = tm:=by exact Tm.put_same e0
      have q1:(Tm.put (Tm.put tm 0 (.sl dP)) 3 (.sl kJ)) = tm:=by rw [q0]; exact Tm.put_same e3
      have q2:(Tm.put (Tm.put (Tm.put tm 0 (.sl dP)) 3 (.sl kJ)) 4 (.int .i64 fG)) = tm:=by rw [q1]; exact Tm.put_same e4
      rw [← q2]
      exact Eq.trans (by kernel_rfl) h
     ·exact loops_none (by kernel_rfl)
   ·exact loops_none (by kernel_rfl)
theorem bg.eqX (F:Nat) (fF:Int→Int→Int→Int→Int→Hp→OA) (aa:Sl) (H:Hp):aCode tabs (mkOrc (bg.cs F fF)) bg.pn (bg.lh F fF) F [] 1 bg.code (argTm [(.sl aa)]) H (fun tm H=>aresults tabs.ty H tm Try.f31.results.toList fun v=>some (v,H)) (fun _ _ _=>none) (fun tm H=>aresults tabs.ty H tm Try.f31.results.toList fun v=>some (v,H)) = bg.twX F fF aa H:=by kernel_rfl
theorem bg.cs_ok (F:Nat):∀ p ∈ bg.cs F (cd.tw F),∀ args H v H',p.2 args H = some (v,H')→Go.AE.T Try.prog p.1 args H v H':=by
 intro p hp
 simp only [bg.cs,List.mem_cons,List.not_mem_nil,or_false] at hp
 subst hp
 exact fun args H v H' h=>cd.mk_T h
theorem bg.ok:codeOk bg.pn Try.f31.ntmps bg.tb bg.code = true:=by kernel_rfl
theorem bg.T {F:Nat} {aa:Sl} {H:Hp} {v:AV} {H':Hp} (h:bg.tw F aa H = some (v,H')):Go.AE.T Try.prog 31 [(.sl aa)] H v H':=
 Go.AE.T.of (Y:=tabs) (C:=mkOrc (bg.cs F (cd.tw F))) (PN:=bg.pn) (LH:=bg.lh F (cd.tw F)) (F:=F) (TB:=bg.tb) (fn:=Try.f31) (code:=bg.code) mixed tabs_ok (mkOrc_ok (bg.cs_ok F)) Try.func31 (by kernel_rfl) (by kernel_rfl) bg.ok (Nat.le_of_ble_eq_true (by kernel_rfl)) (bg.loops F (cd.tw F)) (Eq.trans (bg.eqX F (cd.tw F) aa H) h)
theorem bg.mk_T {F:Nat} {args:List AV} {H:Hp} {v:AV} {H':Hp} (h:bg.mk (bg.tw F) args H = some (v,H')):Go.AE.T Try.prog 31 args H v H':=by
 unfold bg.mk at h
 split at h
 ·exact bg.T h
 ·cases h
def bS.twX (F:Nat) (li:Sl→Hp→OA) (aa:Sl) (ab:Int) (H:Hp):OA:=(Hp.new H [(.sl aa),(.int .i64 ab)]).bind fun H3=>(Hp.new H3 [.sl ⟨none,0,.ex 0⟩,.int .i64 0]).bind fun H4=>(Hp.new H4 [.sl ⟨none,0,.ex 0⟩,.int .i64 0]).bind fun H5=>(Hp.ldSl H5 H.length 0).bind fun s6=>(li s6 H5).bind fun r7=>((r7.1).asSl).bind fun s8=>(Hp.st r7.2 H4.length 0 (.sl s8)).bind fun H9=>(Hp.ldI H9 .i64 H.length 1).bind fun n10=>(Hp.st H9 H4.length 1 (.int .i64 n10)).bind fun H11=>(Hp.ldSl H11 H4.length 0).bind fun s12=>(Hp.ldI H11 .i64 H4.length (0 + 1)).bind fun n13=>(Hp.st H11 H3.length 0 (.sl s12)).bind fun H14=>(Hp.st H14 H3.length (0 + 1) (.int .i64 n13)).bind fun H15=>(Hp.ldSl H15 H3.length 0).bind fun s16=>(Hp.ldI H15 .i64 H3.length (0 + 1)).bind fun n17=>some ((.agg [(.sl s16),(.int .i64 n17)]),H15)
def bS.tw (F:Nat) (aa:Sl) (ab:Int) (H:Hp):OA:=bS.twX F (bg.tw F) aa ab H
def bS.code:Go.Code:=(Try.f9.body).getD .skip
def bS.lh (F:Nat) (li:Sl→Hp→OA) (p:Nat) (ks:List Nat) (n:Nat) (tm:Tm) (H:Hp):OA:=none
def bS.pn:Nat→List Nat:=fun i=>(([]:List (Nat×List Nat)).lookup i).getD []
def bS.tb:Nat→List (List Nat):=fun i=>(([]:List (Nat×List (List Nat))).lookup i).getD []
def bS.mk (g:Sl→Int→Hp→OA) (args:List AV) (H:Hp):OA:=match args with
 | [(.agg [(.sl aa),(.int .i64 ab)])]=>g aa ab H
 | _=>none
def bS.cs (F:Nat) (li:Sl→Hp→OA):List (FuncId×(List AV→Hp→OA)):=[(31,bg.mk li)]
theorem bS.loops (F:Nat) (li:Sl→Hp→OA):LoopsOk tabs (mkOrc (bS.cs F li)) bS.pn (bS.lh F li) F [] 1 bS.code (fun tm H=>aresults tabs.ty H tm Try.f9.results.toList fun v=>some (v,H)) (fun _ _ _=>none) (fun tm H=>aresults tabs.ty H tm Try.f9.results.toList fun v=>some (v,H)):=by
 exact loops_none (by kernel_rfl)
theorem bS.eqX (F:Nat) (li:Sl→Hp→OA) (aa:Sl) (ab:Int) (H:Hp):aCode tabs (mkOrc (bS.cs F li)) bS.pn (bS.lh F li) F [] 1 bS.code (argTm [(.agg [(.sl aa),(.int .i64 ab)])]) H (fun tm H=>aresults tabs.ty H tm Try.f9.results.toList fun v=>some (v,H)) (fun _ _ _=>none) (fun tm H=>aresults tabs.ty H tm Try.f9.results.toList fun v=>some (v,H)) = bS.twX F li aa ab H:=by kernel_rfl
theorem bS.cs_ok (F:Nat):∀ p ∈ bS.cs F (bg.tw F),∀ args H v H',p.2 args H = some (v,H')→Go.AE.T Try.prog p.1 args H v H':=by
 intro p hp
 simp only [bS.cs,List.mem_cons,List.not_mem_nil,or_false] at hp
 subst hp
 exact fun args H v H' h=>bg.mk_T h
theorem bS.ok:codeOk bS.pn Try.f9.ntmps bS.tb bS.code = true:=by kernel_rfl
theorem bS.T {F:Nat} {aa:Sl} {ab:Int} {H:Hp} {v:AV} {H':Hp} (h:bS.tw F aa ab H = some (v,H')):Go.AE.T Try.prog 9 [(.agg [(.sl aa),(.int .i64 ab)])] H v H':=
 Go.AE.T.of (Y:=tabs) (C:=mkOrc (bS.cs F (bg.tw F))) (PN:=bS.pn) (LH:=bS.lh F (bg.tw F)) (F:=F) (TB:=bS.tb) (fn:=Try.f9) (code:=bS.code) mixed tabs_ok (mkOrc_ok (bS.cs_ok F)) Try.func9 (by kernel_rfl) (by kernel_rfl) bS.ok (Nat.le_of_ble_eq_true (by kernel_rfl)) (bS.loops F (bg.tw F)) (Eq.trans (bS.eqX F (bg.tw F) aa ab H) h)
theorem bS.mk_T {F:Nat} {args:List AV} {H:Hp} {v:AV} {H':Hp} (h:bS.mk (bS.tw F) args H = some (v,H')):Go.AE.T Try.prog 9 args H v H':=by
 unfold bS.mk at h
 split at h
 ·exact bS.T h
 ·cases h
def bz.twX (F:Nat) (aa:Int) (ak:Int) (bF:Int) (H:Hp):OA:=(bif (decide (aa ≥ ak)) then (some ((.bool (decide (aa ≤ bF))),H)) else (some ((.bool false),H)))
def bz.tw (F:Nat) (aa:Int) (ak:Int) (bF:Int) (H:Hp):OA:=bz.twX F aa ak bF H
def bz.code:Go.Code:=(Try.f39.body).getD .skip
def bz.lh (F:Nat) (p:Nat) (ks:List Nat) (n:Nat) (tm:Tm) (H:Hp):OA:=none
def bz.pn:Nat→List Nat:=fun i=>(([]:List (Nat×List Nat)).lookup i).getD []
def bz.tb:Nat→List (List Nat):=fun i=>(([]:List (Nat×List (List Nat))).lookup i).getD []
def bz.mk (g:Int→Int→Int→Hp→OA) (args:List AV) (H:Hp):OA:=match args with
 | [(.int .i64 aa),(.int .i64 ak),(.int .i64 bF)]=>g aa ak bF H
 | _=>none
def bz.cs (F:Nat):List (FuncId×(List AV→Hp→OA)):=[]
theorem bz.loops (F:Nat):LoopsOk tabs (mkOrc (bz.cs F)) bz.pn (bz.lh F) F [] 1 bz.code (fun tm H=>aresults tabs.ty H tm Try.f39.results.toList fun v=>some (v,H)) (fun _ _ _=>none) (fun tm H=>aresults tabs.ty H tm Try.f39.results.toList fun v=>some (v,H)):=by
 exact loops_none (by kernel_rfl)
theorem bz.eqX (F:Nat) (aa:Int) (ak:Int) (bF:Int) (H:Hp):aCode tabs (mkOrc (bz.cs F)) bz.pn (bz.lh F) F [] 1 bz.code (argTm [(.int .i64 aa),(.int .i64 ak),(.int .i64 bF)]) H (fun tm H=>aresults tabs.ty H tm Try.f39.results.toList fun v=>some (v,H)) (fun _ _ _=>none) (fun tm H=>aresults tabs.ty H tm Try.f39.results.toList fun v=>some (v,H)) = bz.twX F aa ak bF H:=by kernel_rfl
theorem bz.cs_ok (F:Nat):∀ p ∈ bz.cs F,∀ args H v H',p.2 args H = some (v,H')→Go.AE.T Try.prog p.1 args H v H':=by
 intro p hp
 exact absurd (show p ∈ [] from hp) List.not_mem_nil
theorem bz.ok:codeOk bz.pn Try.f39.ntmps bz.tb bz.code = true:=by kernel_rfl
theorem bz.T {F:Nat} {aa:Int} {ak:Int} {bF:Int} {H:Hp} {v:AV} {H':Hp} (h:bz.tw F aa ak bF H = some (v,H')):Go.AE.T Try.prog 39 [(.int .i64 aa),(.int .i64 ak),(.int .i64 bF)] H v H':=
 Go.AE.T.of (Y:=tabs) (C:=mkOrc (bz.cs F)) (PN:=bz.pn) (LH:=bz.lh F) (F:=F) (TB:=bz.tb) (fn:=Try.f39) (code:=bz.code) mixed tabs_ok (mkOrc_ok (bz.cs_ok F)) Try.func39 (by kernel_rfl) (by kernel_rfl) bz.ok (Nat.le_of_ble_eq_true (by kernel_rfl)) (bz.loops F) (Eq.trans (bz.eqX F aa ak bF H) h)
theorem bz.mk_T {F:Nat} {args:List AV} {H:Hp} {v:AV} {H':Hp} (h:bz.mk (bz.tw F) args H = some (v,H')):Go.AE.T Try.prog 39 args H v H':=by
 unfold bz.mk at h
 split at h
 ·exact bz.T h
 ·cases h
def bn.twX (F:Nat) (aa:Int) (ab:Int) (ax:Int) (aM:Int) (aJ:Int) (bw:Int) (H:Hp):OA:=(Hp.new H [(.int .i64 aa),(.int .i64 ab),(.int .i64 ax),(.int .i64 aM),(.int .i64 aJ)]).bind fun H7=>(Hp.ldI H7 .i64 H.length 0).bind fun n8=>(Hp.ldI H7 .i64 H.length 1).bind fun n9=>(Hp.ldI H7 .i64 H.length 2).bind fun n10=>(Hp.ldI H7 .i64 H.length 3).bind fun n11=>(Hp.new H7 [(.int .i64 n8),(.int .i64 n9),(.int .i64 n10),(.int .i64 n11)]).bind fun H12=>(Sl.idx (⟨some (H7.length,0),4,.ex 4⟩:Sl) bw 1).bind fun p13=>(Hp.ldI H12 .i64 p13.1 p13.2).bind fun n14=>some ((.int .i64 n14),H12)
def bn.tw (F:Nat) (aa:Int) (ab:Int) (ax:Int) (aM:Int) (aJ:Int) (bw:Int) (H:Hp):OA:=bn.twX F aa ab ax aM aJ bw H
def bn.code:Go.Code:=(Try.f95.body).getD .skip
def bn.lh (F:Nat) (p:Nat) (ks:List Nat) (n:Nat) (tm:Tm) (H:Hp):OA:=none
def bn.pn:Nat→List Nat:=fun i=>(([]:List (Nat×List Nat)).lookup i).getD []
def bn.tb:Nat→List (List Nat):=fun i=>(([]:List (Nat×List (List Nat))).lookup i).getD []
def bn.mk (g:Int→Int→Int→Int→Int→Int→Hp→OA) (args:List AV) (H:Hp):OA:=match args with
 | [(.agg [(.int .i64 aa),(.int .i64 ab),(.int .i64 ax),(.int .i64 aM),(.int .i64 aJ)]),(.int .i64 bw)]=>g aa ab ax aM aJ bw H
 | _=>none
def bn.cs (F:Nat):List (FuncId×(List AV→Hp→OA)):=[]
theorem bn.loops (F:Nat):LoopsOk tabs (mkOrc (bn.cs F)) bn.pn (bn.lh F) F [] 1 bn.code (fun tm H=>aresults tabs.ty H tm Try.f95.results.toList fun v=>some (v,H)) (fun _ _ _=>none) (fun tm H=>aresults tabs.ty H tm Try.f95.results.toList fun v=>some (v,H)):=by
 exact loops_none (by kernel_rfl)
theorem bn.eqX (F:Nat) (aa:Int) (ab:Int) (ax:Int) (aM:Int) (aJ:Int) (bw:Int) (H:Hp):aCode tabs (mkOrc (bn.cs F)) bn.pn (bn.lh F) F [] 1 bn.code (argTm [(.agg [(.int .i64 aa),(.int .i64 ab),(.int .i64 ax),(.int .i64 aM),(.int .i64 aJ)]),(.int .i64 bw)]) H (fun tm H=>aresults tabs.ty H tm Try.f95.results.toList fun v=>some (v,H)) (fun _ _ _=>none) (fun tm H=>aresults tabs.ty H tm Try.f95.results.toList fun v=>some (v,H)) = bn.twX F aa ab ax aM aJ bw H:=by kernel_rfl
theorem bn.cs_ok (F:Nat):∀ p ∈ bn.cs F,∀ args H v H',p.2 args H = some (v,H')→Go.AE.T Try.prog p.1 args H v H':=by
 intro p hp
 exact absurd (show p ∈ [] from hp) List.not_mem_nil
theorem bn.ok:codeOk bn.pn Try.f95.ntmps bn.tb bn.code = true:=by kernel_rfl
theorem bn.T {F:Nat} {aa:Int} {ab:Int} {ax:Int} {aM:Int} {aJ:Int} {bw:Int} {H:Hp} {v:AV} {H':Hp} (h:bn.tw F aa ab ax aM aJ bw H = some (v,H')):Go.AE.T Try.prog 95 [(.agg [(.int .i64 aa),(.int .i64 ab),(.int .i64 ax),(.int .i64 aM),(.int .i64 aJ)]),(.int .i64 bw)] H v H':=
 Go.AE.T.of (Y:=tabs) (C:=mkOrc (bn.cs F)) (PN:=bn.pn) (LH:=bn.lh F) (F:=F) (TB:=bn.tb) (fn:=Try.f95) (code:=bn.code) mixed tabs_ok (mkOrc_ok (bn.cs_ok F)) Try.func95 (by kernel_rfl) (by kernel_rfl) bn.ok (Nat.le_of_ble_eq_true (by kernel_rfl)) (bn.loops F) (Eq.trans (bn.eqX F aa ab ax aM aJ bw H) h)
theorem bn.mk_T {F:Nat} {args:List AV} {H:Hp} {v:AV} {H':Hp} (h:bn.mk (bn.tw F) args H = some (v,H')):Go.AE.T Try.prog 95 args H v H':=by
 unfold bn.mk at h
 split at h
 ·exact bn.T h
 ·cases h
def bo.twX (F:Nat) (aa:Int) (ab:Int) (ax:Int) (aM:Int) (aJ:Int) (bw:Int) (H:Hp):OA:=(Hp.new H [(.int .i64 aa),(.int .i64 ab),(.int .i64 ax),(.int .i64 aM),(.int .i64 aJ)]).bind fun H7=>(bif (bw == 0) then (some ((.bool true),H7)) else ((bif (bw == 3) then ((Hp.ldI H7 .i64 H.length 4).bind fun n8=>(bif (n8 == 1) then (some ((.bool true),H7)) else ((bif (bw == 1) then ((Hp.ldI H7 .i64 H.length 4).bind fun n9=>some ((.bool (n9 == (-1))),H7)) else (some ((.bool false),H7)))))) else ((bif (bw == 1) then ((Hp.ldI H7 .i64 H.length 4).bind fun n10=>some ((.bool (n10 == (-1))),H7)) else (some ((.bool false),H7)))))))
def bo.tw (F:Nat) (aa:Int) (ab:Int) (ax:Int) (aM:Int) (aJ:Int) (bw:Int) (H:Hp):OA:=bo.twX F aa ab ax aM aJ bw H
def bo.code:Go.Code:=(Try.f96.body).getD .skip
def bo.lh (F:Nat) (p:Nat) (ks:List Nat) (n:Nat) (tm:Tm) (H:Hp):OA:=none
def bo.pn:Nat→List Nat:=fun i=>(([]:List (Nat×List Nat)).lookup i).getD []
def bo.tb:Nat→List (List Nat):=fun i=>(([]:List (Nat×List (List Nat))).lookup i).getD []
def bo.mk (g:Int→Int→Int→Int→Int→Int→Hp→OA) (args:List AV) (H:Hp):OA:=match args with
 | [(.agg [(.int .i64 aa),(.int .i64 ab),(.int .i64 ax),(.int .i64 aM),(.int .i64 aJ)]),(.int .i64 bw)]=>g aa ab ax aM aJ bw H
 | _=>none
def bo.cs (F:Nat):List (FuncId×(List AV→Hp→OA)):=[]
theorem bo.loops (F:Nat):LoopsOk tabs (mkOrc (bo.cs F)) bo.pn (bo.lh F) F [] 1 bo.code (fun tm H=>aresults tabs.ty H tm Try.f96.results.toList fun v=>some (v,H)) (fun _ _ _=>none) (fun tm H=>aresults tabs.ty H tm Try.f96.results.toList fun v=>some (v,H)):=by
 exact loops_none (by kernel_rfl)
theorem bo.eqX (F:Nat) (aa:Int) (ab:Int) (ax:Int) (aM:Int) (aJ:Int) (bw:Int) (H:Hp):aCode tabs (mkOrc (bo.cs F)) bo.pn (bo.lh F) F [] 1 bo.code (argTm [(.agg [(.int .i64 aa),(.int .i64 ab),(.int .i64 ax),(.int .i64 aM),(.int .i64 aJ)]),(.int .i64 bw)]) H (fun tm H=>aresults tabs.ty H tm Try.f96.results.toList fun v=>some (v,H)) (fun _ _ _=>none) (fun tm H=>aresults tabs.ty H tm Try.f96.results.toList fun v=>some (v,H)) = bo.twX F aa ab ax aM aJ bw H:=by kernel_rfl
theorem bo.cs_ok (F:Nat):∀ p ∈ bo.cs F,∀ args H v H',p.2 args H = some (v,H')→Go.AE.T Try.prog p.1 args H v H':=by
 intro p hp
 exact absurd (show p ∈ [] from hp) List.not_mem_nil
theorem bo.ok:codeOk bo.pn Try.f96.ntmps bo.tb bo.code = true:=by kernel_rfl
theorem bo.T {F:Nat} {aa:Int} {ab:Int} {ax:Int} {aM:Int} {aJ:Int} {bw:Int} {H:Hp} {v:AV} {H':Hp} (h:bo.tw F aa ab ax aM aJ bw H = some (v,H')):Go.AE.T Try.prog 96 [(.agg [(.int .i64 aa),(.int .i64 ab),(.int .i64 ax),(.int .i64 aM),(.int .i64 aJ)]),(.int .i64 bw)] H v H':=
 Go.AE.T.of (Y:=tabs) (C:=mkOrc (bo.cs F)) (PN:=bo.pn) (LH:=bo.lh F) (F:=F) (TB:=bo.tb) (fn:=Try.f96) (code:=bo.code) mixed tabs_ok (mkOrc_ok (bo.cs_ok F)) Try.func96 (by kernel_rfl) (by kernel_rfl) bo.ok (Nat.le_of_ble_eq_true (by kernel_rfl)) (bo.loops F) (Eq.trans (bo.eqX F aa ab ax aM aJ bw H) h)
theorem bo.mk_T {F:Nat} {args:List AV} {H:Hp} {v:AV} {H':Hp} (h:bo.mk (bo.tw F) args H = some (v,H')):Go.AE.T Try.prog 96 args H v H':=by
 unfold bo.mk at h
 split at h
 ·exact bo.T h
 ·cases h
def aD.l3927 (F:Nat) (bh:Int→Int→Int→Int→Int→Int→Hp→OA) (cE:Int→Int→Int→Hp→OA) (bi:Int→Int→Int→Int→Int→Int→Hp→OA) (C61_:Nat→Nat→Int→Sl→Sl→Int→Hp→OA):Nat→Nat→Nat→Int→Sl→Sl→Int→Nat→Nat→Int→Hp→OA
 | 0,_,_,_,_,_,_,_,_,_,_=>none
 | Ns + 1,fH,iU,dQ,iV,jl,c_,d_,gy,eH,H126=>(bif (decide (eH < 4)) then ((Hp.ldI H126 .i64 d_ gy).bind fun n151=>(Hp.ldI H126 .i64 d_ (gy + 1)).bind fun n152=>(Hp.ldI H126 .i64 d_ (gy + 2)).bind fun n153=>(Hp.ldI H126 .i64 d_ (gy + 3)).bind fun n154=>(Hp.ldI H126 .i64 d_ (gy + 4)).bind fun n155=>(bh n151 n152 n153 n154 n155 eH H126).bind fun r156=>((r156.1).asI .i64).bind fun n157=>(cE n157 0 (IntKind.i64.wrap (dQ - 1)) r156.2).bind fun r158=>((r158.1).asB).bind fun b159=>(bif (!b159) then (some ((.bool false),r158.2)) else ((Hp.ldI r158.2 .i64 d_ gy).bind fun n160=>(Hp.ldI r158.2 .i64 d_ (gy + 1)).bind fun n161=>(Hp.ldI r158.2 .i64 d_ (gy + 2)).bind fun n162=>(Hp.ldI r158.2 .i64 d_ (gy + 3)).bind fun n163=>(Hp.ldI r158.2 .i64 d_ (gy + 4)).bind fun n164=>(bi n160 n161 n162 n163 n164 eH r158.2).bind fun r165=>((r165.1).asB).bind fun b166=>(bif b166 then ((Sl.idx iV n157 1).bind fun p167=>(Hp.ldB r165.2 p167.1 p167.2).bind fun b168=>(bif b168 then (some ((.bool false),r165.2)) else ((Sl.idx iV n157 1).bind fun p169=>(Hp.st r165.2 p169.1 p169.2 (.bool true)).bind fun H170=>aD.l3927 F bh cE bi C61_ Ns fH iU dQ iV jl c_ d_ gy (IntKind.i64.wrap (eH + 1)) H170))) else ((Sl.idx jl n157 1).bind fun p171=>(Hp.ldB r165.2 p171.1 p171.2).bind fun b172=>(bif b172 then (some ((.bool false),r165.2)) else ((Sl.idx jl n157 1).bind fun p173=>(Hp.st r165.2 p173.1 p173.2 (.bool true)).bind fun H174=>aD.l3927 F bh cE bi C61_ Ns fH iU dQ iV jl c_ d_ gy (IntKind.i64.wrap (eH + 1)) H174))))))) else (C61_ fH iU dQ iV jl (IntKind.i64.wrap (c_ + 1)) H126))
termination_by structural n=>n
def aD.l61 (F:Nat) (bh:Int→Int→Int→Int→Int→Int→Hp→OA) (cE:Int→Int→Int→Hp→OA) (bi:Int→Int→Int→Int→Int→Int→Hp→OA) :Nat→Nat→Nat→Int→Sl→Sl→Int→Hp→OA
 | 0,_,_,_,_,_,_,_=>none
 | bP + 1,cu,bQ,bp,cI,cW,fI,H16=>(Hp.ldSl H16 cu bQ).bind fun s96=>(bif (decide (fI < (s96.n:Int))) then ((Hp.ldSl H16 cu bQ).bind fun s97=>(Sl.idx s97 fI 5).bind fun p98=>(Hp.ldI H16 .i64 p98.1 p98.2).bind fun n99=>(Hp.ldI H16 .i64 p98.1 (p98.2 + 1)).bind fun n100=>(Hp.ldI H16 .i64 p98.1 (p98.2 + 2)).bind fun n101=>(Hp.ldI H16 .i64 p98.1 (p98.2 + 3)).bind fun n102=>(Hp.ldI H16 .i64 p98.1 (p98.2 + 4)).bind fun n103=>(Hp.new H16 [.int .i64 0,.int .i64 0,.int .i64 0,.int .i64 0,.int .i64 0]).bind fun H104=>(Hp.st H104 H16.length 0 (.int .i64 n99)).bind fun H105=>(Hp.st H105 H16.length (0 + 1) (.int .i64 n100)).bind fun H106=>(Hp.st H106 H16.length (0 + 1 + 1) (.int .i64 n101)).bind fun H107=>(Hp.st H107 H16.length (0 + 1 + 1 + 1) (.int .i64 n102)).bind fun H108=>(Hp.st H108 H16.length (0 + 1 + 1 + 1 + 1) (.int .i64 n103)).bind fun H109=>(Hp.ldI H109 .i64 H16.length 4).bind fun n110=>(bif (n110 != 1) then ((Hp.ldI H109 .i64 H16.length 4).bind fun n111=>(bif (n111 != (-1)) then (some ((.bool false),H109)) else (aD.l3927 F bh cE bi (aD.l61 F bh cE bi bP) F cu bQ bp cI cW fI H16.length 0 0 H109))) else (aD.l3927 F bh cE bi (aD.l61 F bh cE bi bP) F cu bQ bp cI cW fI H16.length 0 0 H109))) else (some ((.bool true),H16)))
termination_by structural n=>n
def aD.twX (F:Nat) (bh:Int→Int→Int→Int→Int→Int→Hp→OA) (cE:Int→Int→Int→Hp→OA) (bi:Int→Int→Int→Int→Int→Int→Hp→OA) (aa:Sl) (ab:Int) (H:Hp):OA:=(Hp.new H [(.sl aa),(.int .i64 ab)]).bind fun H3=>(Hp.ldSl H3 H.length 0).bind fun s4=>(Hp.mk H3 [.bool false] 1 (IntKind.i64.wrap (2 * (s4.n:Int))) (IntKind.i64.wrap (2 * (s4.n:Int)))).bind fun m5=>(Hp.mk m5.2 [.bool false] 1 (IntKind.i64.wrap (2 * (s4.n:Int))) (IntKind.i64.wrap (2 * (s4.n:Int)))).bind fun m6=>aD.l61 F bh cE bi F H.length 0 (IntKind.i64.wrap (2 * (s4.n:Int))) m5.1 m6.1 0 m6.2
def aD.tw (F:Nat) (aa:Sl) (ab:Int) (H:Hp):OA:=aD.twX F (bn.tw F) (bz.tw F) (bo.tw F) aa ab H
def aD.code:Go.Code:=(Try.f50.body).getD .skip
def aD.lh61 (F:Nat) (bh:Int→Int→Int→Int→Int→Int→Hp→OA) (cE:Int→Int→Int→Hp→OA) (bi:Int→Int→Int→Int→Int→Int→Hp→OA) (ks:List Nat) (n:Nat) (tm:Tm) (H:Hp):OA:=match ks,tm 1,tm 3,tm 4,tm 5,tm 6 with
 | [],(.ptr cu bQ),(.int .i64 bp),(.sl cI),(.sl cW),(.int .i64 fI)=>aD.l61 F bh cE bi n cu bQ bp cI cW fI H
 | _,_,_,_,_,_=>none
theorem aD.lh61_inv {F:Nat} {bh:Int→Int→Int→Int→Int→Int→Hp→OA} {cE:Int→Int→Int→Hp→OA} {bi:Int→Int→Int→Int→Int→Int→Hp→OA} {ks:List Nat} {n:Nat} {tm:Tm} {H:Hp} {r:AV×Hp} (h:aD.lh61 F bh cE bi ks n tm H = some r):∃ cu:Nat,∃ bQ:Nat,∃ bp:Int,∃ cI:Sl,∃ cW:Sl,∃ fI:Int,ks = []∧tm 1 = (.ptr cu bQ)∧tm 3 = (.int .i64 bp)∧tm 4 = (.sl cI)∧tm 5 = (.sl cW)∧tm 6 = (.int .i64 fI)∧aD.l61 F bh cE bi n cu bQ bp cI cW fI H = some r:=by
 unfold aD.lh61 at h
 split at h
 ·exact ⟨_,_,_,_,_,_,rfl,by assumption,by assumption,by assumption,by assumption,by assumption,h⟩
 ·cases h
def aD.lh3927 (F:Nat) (bh:Int→Int→Int→Int→Int→Int→Hp→OA) (cE:Int→Int→Int→Hp→OA) (bi:Int→Int→Int→Int→Int→Int→Hp→OA) (ks:List Nat) (n:Nat) (tm:Tm) (H:Hp):OA:=match ks,tm 1,tm 3,tm 4,tm 5,tm 6,tm 7,tm 8 with
 | [bP],(.ptr fH iU),(.int .i64 dQ),(.sl iV),(.sl jl),(.int .i64 c_),(.ptr d_ gy),(.int .i64 eH)=>aD.l3927 F bh cE bi (aD.l61 F bh cE bi bP) n fH iU dQ iV jl c_ d_ gy eH H
 | _,_,_,_,_,_,_,_=>none
theorem aD.lh3927_inv {F:Nat} {bh:Int→Int→Int→Int→Int→Int→Hp→OA} {cE:Int→Int→Int→Hp→OA} {bi:Int→Int→Int→Int→Int→Int→Hp→OA} {ks:List Nat} {n:Nat} {tm:Tm} {H:Hp} {r:AV×Hp} (h:aD.lh3927 F bh cE bi ks n tm H = some r):∃ bP:Nat,∃ fH:Nat,∃ iU:Nat,∃ dQ:Int,∃ iV:Sl,∃ jl:Sl,∃ c_:Int,∃ d_:Nat,∃ gy:Nat,∃ eH:Int,ks = [bP]∧tm 1 = (.ptr fH iU)∧tm 3 = (.int .i64 dQ)∧tm 4 = (.sl iV)∧tm 5 = (.sl jl)∧tm 6 = (.int .i64 c_)∧tm 7 = (.ptr d_ gy)∧tm 8 = (.int .i64 eH)∧aD.l3927 F bh cE bi (aD.l61 F bh cE bi bP) n fH iU dQ iV jl c_ d_ gy eH H = some r:=by
 unfold aD.lh3927 at h
 split at h
 ·exact ⟨_,_,_,_,_,_,_,_,_,_,rfl,by assumption,by assumption,by assumption,by assumption,by assumption,by assumption,by assumption,h⟩
 ·cases h
def aD.lh (F:Nat) (bh:Int→Int→Int→Int→Int→Int→Hp→OA) (cE:Int→Int→Int→Hp→OA) (bi:Int→Int→Int→Int→Int→Int→Hp→OA) (p:Nat) (ks:List Nat) (n:Nat) (tm:Tm) (H:Hp):OA:=bif p.beq 3927 then aD.lh3927 F bh cE bi ks n tm H else (bif p.beq 61 then aD.lh61 F bh cE bi ks n tm H else (none))
def aD.pn:Nat→List Nat:=fun i=>(([(2,[])]:List (Nat×List Nat)).lookup i).getD []
def aD.tb:Nat→List (List Nat):=fun i=>(([(2,[[],[0],[],[2],[0,1],[0,1,2,3,4]])]:List (Nat×List (List Nat))).lookup i).getD []
def aD.mk (g:Sl→Int→Hp→OA) (args:List AV) (H:Hp):OA:=match args with
 | [(.agg [(.sl aa),(.int .i64 ab)])]=>g aa ab H
 | _=>none
def aD.cs (F:Nat) (bh:Int→Int→Int→Int→Int→Int→Hp→OA) (cE:Int→Int→Int→Hp→OA) (bi:Int→Int→Int→Int→Int→Int→Hp→OA):List (FuncId×(List AV→Hp→OA)):=[(95,bn.mk bh),(39,bz.mk cE),(96,bo.mk bi)]
theorem aD.loops (F:Nat) (bh:Int→Int→Int→Int→Int→Int→Hp→OA) (cE:Int→Int→Int→Hp→OA) (bi:Int→Int→Int→Int→Int→Int→Hp→OA):LoopsOk tabs (mkOrc (aD.cs F bh cE bi)) aD.pn (aD.lh F bh cE bi) F [] 1 aD.code (fun tm H=>aresults tabs.ty H tm Try.f50.results.toList fun v=>some (v,H)) (fun _ _ _=>none) (fun tm H=>aresults tabs.ty H tm Try.f50.results.toList fun v=>some (v,H)):=by
 refine LoopsOk.seq ?_ ?_
 ·exact loops_none (by kernel_rfl)
 ·refine LoopsOk.seq ?_ ?_
  ·exact loops_none (by kernel_rfl)
  ·refine LoopsOk.seq ?_ ?_
   ·exact loops_none (by kernel_rfl)
   ·refine LoopsOk.seq ?_ ?_
    ·refine LoopsOk.seq ?_ ?_
     ·exact loops_none (by kernel_rfl)
     ·refine LoopsOk.block ?_
      refine LoopsOk.loop (fun tm H=>?_) (fun k61 tm H r h0=>?_) (fun k61=>?_)
      ·refine none_of fun r h0=>?_
       obtain ⟨cu,bQ,bp,cI,cW,fI,hks,e1,e3,e4,e5,e6,h⟩:=aD.lh61_inv (show aD.lh61 F bh cE bi [] 0 tm H = some r from h0)
       cases h
      ·obtain ⟨cu,bQ,bp,cI,cW,fI,hks,e1,e3,e4,e5,e6,h⟩:=aD.lh61_inv (show aD.lh61 F bh cE bi [] (k61 + 1) tm H = some r from h0)
       have q0:(Tm.put tm 1 (.ptr cu bQ)) = tm:=by exact Tm.put_same e1
       have q1:(Tm.put (Tm.put tm 1 (.ptr cu bQ)) 3 (.int .i64 bp)) = tm:=by rw [q0]; exact Tm.put_same e3
       have q2:(Tm.put (Tm.put (Tm.put tm 1 (.ptr cu bQ)) 3 (.int .i64 bp)) 4 (.sl cI)) = tm:=by rw [q1]; exact Tm.put_same e4
       have q3:(Tm.put (Tm.put (Tm.put (Tm.put tm 1 (.ptr cu bQ)) 3 (.int .i64 bp)) 4 (.sl cI)) 5 (.sl cW)) = tm:=by rw [q2]; exact Tm.put_same e5
       have q4:(Tm.put (Tm.put (Tm.put (Tm.put (Tm.put tm 1 (.ptr cu bQ)) 3 (.int .i64 bp)) 4 (.sl cI)) 5 (.sl cW)) 6 (.int .i64 fI)) = tm:=by rw [q3]; exact Tm.put_same e6
       rw [← q4]
       exact Eq.trans (by kernel_rfl) h
      ·refine LoopsOk.seq ?_ ?_
       ·exact loops_none (by kernel_rfl)
       ·refine LoopsOk.seq ?_ ?_
        ·refine LoopsOk.block ?_
         refine LoopsOk.seq ?_ ?_
         ·exact loops_none (by kernel_rfl)
         ·refine LoopsOk.seq ?_ ?_
          ·exact loops_none (by kernel_rfl)
          ·refine LoopsOk.seq ?_ ?_
           ·exact loops_none (by kernel_rfl)
           ·refine LoopsOk.block ?_
            refine LoopsOk.loop (fun tm H=>?_) (fun k3927 tm H r h0=>?_) (fun k3927=>?_)
            ·refine none_of fun r h0=>?_
             obtain ⟨bP,fH,iU,dQ,iV,jl,c_,d_,gy,eH,hks,e1,e3,e4,e5,e6,e7,e8,h⟩:=aD.lh3927_inv (show aD.lh3927 F bh cE bi [k61] 0 tm H = some r from h0)
             cases h
            ·obtain ⟨bP,fH,iU,dQ,iV,jl,c_,d_,gy,eH,hks,e1,e3,e4,e5,e6,e7,e8,h⟩:=aD.lh3927_inv (show aD.lh3927 F bh cE bi [k61] (k3927 + 1) tm H = some r from h0)
             obtain rfl:bP = k61:=by simpa [eq_comm] using hks
             have q0:(Tm.put tm 1 (.ptr fH iU)) = tm:=by exact Tm.put_same e1
             have q1:(Tm.put (Tm.put tm 1 (.ptr fH iU)) 3 (.int .i64 dQ)) = tm:=by rw [q0]; exact Tm.put_same e3
             have q2:(Tm.put (Tm.put (Tm.put tm 1 (.ptr fH iU)) 3 (.int .i64 dQ)) 4 (.sl iV)) = tm:=by rw [q1]; exact Tm.put_same e4
             have q3:(Tm.put (Tm.put (Tm.put (Tm.put tm 1 (.ptr fH iU)) 3 (.int .i64 dQ)) 4 (.sl iV)) 5 (.sl jl)) = tm:=by rw [q2]; exact Tm.put_same e5
             have q4:(Tm.put (Tm.put (Tm.put (Tm.put (Tm.put tm 1 (.ptr fH iU)) 3 (.int .i64 dQ)) 4 (.sl iV)) 5 (.sl jl)) 6 (.int .i64 c_)) = tm:=by rw [q3]; exact Tm.put_same e6
             have q5:(Tm.put (Tm.put (Tm.put (Tm.put (Tm.put (Tm.put tm 1 (.ptr fH iU)) 3 (.int .i64 dQ)) 4 (.sl iV)) 5 (.sl jl)) 6 (.int .i64 c_)) 7 (.ptr d_ gy)) = tm:=by rw [q4]; exact Tm.put_same e7
             have q6:(Tm.put (Tm.put (Tm.put (Tm.put (Tm.put (Tm.put (Tm.put tm 1 (.ptr fH iU)) 3 (.int .i64 dQ)) 4 (.sl iV)) 5 (.sl jl)) 6 (.int .i64 c_)) 7 (.ptr d_ gy)) 8 (.int .i64 eH)) = tm:=by rw [q5]; exact Tm.put_same e8
             rw [← q6]
             exact Eq.trans (by kernel_rfl) h
            ·exact loops_none (by kernel_rfl)
        ·exact loops_none (by kernel_rfl)
    ·exact loops_none (by kernel_rfl)
theorem aD.eqX (F:Nat) (bh:Int→Int→Int→Int→Int→Int→Hp→OA) (cE:Int→Int→Int→Hp→OA) (bi:Int→Int→Int→Int→Int→Int→Hp→OA) (aa:Sl) (ab:Int) (H:Hp):aCode tabs (mkOrc (aD.cs F bh cE bi)) aD.pn (aD.lh F bh cE bi) F [] 1 aD.code (argTm [(.agg [(.sl aa),(.int .i64 ab)])]) H (fun tm H=>aresults tabs.ty H tm Try.f50.results.toList fun v=>some (v,H)) (fun _ _ _=>none) (fun tm H=>aresults tabs.ty H tm Try.f50.results.toList fun v=>some (v,H)) = aD.twX F bh cE bi aa ab H:=by kernel_rfl
theorem aD.cs_ok (F:Nat):∀ p ∈ aD.cs F (bn.tw F) (bz.tw F) (bo.tw F),∀ args H v H',p.2 args H = some (v,H')→Go.AE.T Try.prog p.1 args H v H':=by
 intro p hp
 simp only [aD.cs,List.mem_cons,List.not_mem_nil,or_false] at hp
 rcases hp with rfl | rfl | rfl
 ·exact fun args H v H' h=>bn.mk_T h
 ·exact fun args H v H' h=>bz.mk_T h
 ·exact fun args H v H' h=>bo.mk_T h
theorem aD.ok:codeOk aD.pn Try.f50.ntmps aD.tb aD.code = true:=by kernel_rfl
theorem aD.T {F:Nat} {aa:Sl} {ab:Int} {H:Hp} {v:AV} {H':Hp} (h:aD.tw F aa ab H = some (v,H')):Go.AE.T Try.prog 50 [(.agg [(.sl aa),(.int .i64 ab)])] H v H':=
 Go.AE.T.of (Y:=tabs) (C:=mkOrc (aD.cs F (bn.tw F) (bz.tw F) (bo.tw F))) (PN:=aD.pn) (LH:=aD.lh F (bn.tw F) (bz.tw F) (bo.tw F)) (F:=F) (TB:=aD.tb) (fn:=Try.f50) (code:=aD.code) mixed tabs_ok (mkOrc_ok (aD.cs_ok F)) Try.func50 (by kernel_rfl) (by kernel_rfl) aD.ok (Nat.le_of_ble_eq_true (by kernel_rfl)) (aD.loops F (bn.tw F) (bz.tw F) (bo.tw F)) (Eq.trans (aD.eqX F (bn.tw F) (bz.tw F) (bo.tw F) aa ab H) h)
theorem aD.mk_T {F:Nat} {args:List AV} {H:Hp} {v:AV} {H':Hp} (h:aD.mk (aD.tw F) args H = some (v,H')):Go.AE.T Try.prog 50 args H v H':=by
 unfold aD.mk at h
 split at h
 ·exact aD.T h
 ·cases h
def aA.j3 (F:Nat) (bh:Int→Int→Int→Int→Int→Int→Hp→OA) (bi:Int→Int→Int→Int→Int→Int→Hp→OA) (C13_:Int→Bool→Nat→Nat→Int→Hp→OA) (nX:Int) (qo:Bool) (qp:Nat) (abh:Nat) (qq:Int) (H147:Hp):OA:=C13_ nX qo qp abh (IntKind.i64.wrap (qq + 1)) H147
def aA.j4 (F:Nat) (bh:Int→Int→Int→Int→Int→Int→Hp→OA) (bi:Int→Int→Int→Int→Int→Int→Hp→OA) (C13_:Int→Bool→Nat→Nat→Int→Hp→OA) (qr:Int) (qs:Bool) (zY:Nat) (abi:Nat) (qt:Int) (H134:Hp):OA:=aA.j3 F bh bi C13_ qr qs zY abi qt H134
def aA.l213 (F:Nat) (bh:Int→Int→Int→Int→Int→Int→Hp→OA) (bi:Int→Int→Int→Int→Int→Int→Hp→OA) (C13_:Int→Bool→Nat→Nat→Int→Hp→OA):Nat→Int→Bool→Nat→Nat→Int→Int→Hp→OA
 | 0,_,_,_,_,_,_,_=>none
 | Nt + 1,ea,es,gQ,jz,dR,eb,H103=>(bif (decide (eb < 4)) then ((Hp.ldSl H103 gQ jz).bind fun s148=>(Sl.idx s148 dR 5).bind fun p149=>(Hp.ldI H103 .i64 p149.1 p149.2).bind fun n150=>(Hp.ldI H103 .i64 p149.1 (p149.2 + 1)).bind fun n151=>(Hp.ldI H103 .i64 p149.1 (p149.2 + 2)).bind fun n152=>(Hp.ldI H103 .i64 p149.1 (p149.2 + 3)).bind fun n153=>(Hp.ldI H103 .i64 p149.1 (p149.2 + 4)).bind fun n154=>(bh n150 n151 n152 n153 n154 eb H103).bind fun r155=>((r155.1).asI .i64).bind fun n156=>(bif (n156 == ea) then ((Hp.ldSl r155.2 gQ jz).bind fun s157=>(Sl.idx s157 dR 5).bind fun p158=>(Hp.ldI r155.2 .i64 p158.1 p158.2).bind fun n159=>(Hp.ldI r155.2 .i64 p158.1 (p158.2 + 1)).bind fun n160=>(Hp.ldI r155.2 .i64 p158.1 (p158.2 + 2)).bind fun n161=>(Hp.ldI r155.2 .i64 p158.1 (p158.2 + 3)).bind fun n162=>(Hp.ldI r155.2 .i64 p158.1 (p158.2 + 4)).bind fun n163=>(bi n159 n160 n161 n162 n163 eb r155.2).bind fun r164=>((r164.1).asB).bind fun b165=>(bif (b165 == es) then (some ((.tup [(.int .i64 dR),(.int .i64 eb)]),r164.2)) else (aA.l213 F bh bi C13_ Nt ea es gQ jz dR (IntKind.i64.wrap (eb + 1)) r164.2))) else (aA.l213 F bh bi C13_ Nt ea es gQ jz dR (IntKind.i64.wrap (eb + 1)) r155.2))) else (aA.j4 F bh bi C13_ ea es gQ jz dR H103))
termination_by structural n=>n
def aA.l13 (F:Nat) (bh:Int→Int→Int→Int→Int→Int→Hp→OA) (bi:Int→Int→Int→Int→Int→Int→Hp→OA) :Nat→Int→Bool→Nat→Nat→Int→Hp→OA
 | 0,_,_,_,_,_,_=>none
 | lj + 1,dc,iu,dy,dd,iv,H15=>(Hp.ldSl H15 dy dd).bind fun s91=>(bif (decide (iv < (s91.n:Int))) then (aA.l213 F bh bi (aA.l13 F bh bi lj) F dc iu dy dd iv 0 H15) else (some ((.tup [(.int .i64 (-1)),(.int .i64 (-1))]),H15)))
termination_by structural n=>n
def aA.twX (F:Nat) (bh:Int→Int→Int→Int→Int→Int→Hp→OA) (bi:Int→Int→Int→Int→Int→Int→Hp→OA) (aa:Sl) (ab:Int) (au:Int) (iW:Bool) (H:Hp):OA:=(Hp.new H [(.sl aa),(.int .i64 ab)]).bind fun H5=>aA.l13 F bh bi F au iW H.length 0 0 H5
def aA.tw (F:Nat) (aa:Sl) (ab:Int) (au:Int) (iW:Bool) (H:Hp):OA:=aA.twX F (bn.tw F) (bo.tw F) aa ab au iW H
def aA.code:Go.Code:=(Try.f98.body).getD .skip
def aA.lh13 (F:Nat) (bh:Int→Int→Int→Int→Int→Int→Hp→OA) (bi:Int→Int→Int→Int→Int→Int→Hp→OA) (ks:List Nat) (n:Nat) (tm:Tm) (H:Hp):OA:=match ks,tm 1,tm 2,tm 3,tm 8 with
 | [],(.int .i64 dc),(.bool iu),(.ptr dy dd),(.int .i64 iv)=>aA.l13 F bh bi n dc iu dy dd iv H
 | _,_,_,_,_=>none
theorem aA.lh13_inv {F:Nat} {bh:Int→Int→Int→Int→Int→Int→Hp→OA} {bi:Int→Int→Int→Int→Int→Int→Hp→OA} {ks:List Nat} {n:Nat} {tm:Tm} {H:Hp} {r:AV×Hp} (h:aA.lh13 F bh bi ks n tm H = some r):∃ dc:Int,∃ iu:Bool,∃ dy:Nat,∃ dd:Nat,∃ iv:Int,ks = []∧tm 1 = (.int .i64 dc)∧tm 2 = (.bool iu)∧tm 3 = (.ptr dy dd)∧tm 8 = (.int .i64 iv)∧aA.l13 F bh bi n dc iu dy dd iv H = some r:=by
 unfold aA.lh13 at h
 split at h
 ·exact ⟨_,_,_,_,_,rfl,by assumption,by assumption,by assumption,by assumption,h⟩
 ·cases h
def aA.lh213 (F:Nat) (bh:Int→Int→Int→Int→Int→Int→Hp→OA) (bi:Int→Int→Int→Int→Int→Int→Hp→OA) (ks:List Nat) (n:Nat) (tm:Tm) (H:Hp):OA:=match ks,tm 1,tm 2,tm 3,tm 8,tm 9 with
 | [lj],(.int .i64 ea),(.bool es),(.ptr gQ jz),(.int .i64 dR),(.int .i64 eb)=>aA.l213 F bh bi (aA.l13 F bh bi lj) n ea es gQ jz dR eb H
 | _,_,_,_,_,_=>none
theorem aA.lh213_inv {F:Nat} {bh:Int→Int→Int→Int→Int→Int→Hp→OA} {bi:Int→Int→Int→Int→Int→Int→Hp→OA} {ks:List Nat} {n:Nat} {tm:Tm} {H:Hp} {r:AV×Hp} (h:aA.lh213 F bh bi ks n tm H = some r):∃ lj:Nat,∃ ea:Int,∃ es:Bool,∃ gQ:Nat,∃ jz:Nat,∃ dR:Int,∃ eb:Int,ks = [lj]∧tm 1 = (.int .i64 ea)∧tm 2 = (.bool es)∧tm 3 = (.ptr gQ jz)∧tm 8 = (.int .i64 dR)∧tm 9 = (.int .i64 eb)∧aA.l213 F bh bi (aA.l13 F bh bi lj) n ea es gQ jz dR eb H = some r:=by
 unfold aA.lh213 at h
 split at h
 ·exact ⟨_,_,_,_,_,_,_,rfl,by assumption,by assumption,by assumption,by assumption,by assumption,h⟩
 ·cases h
def aA.lh (F:Nat) (bh:Int→Int→Int→Int→Int→Int→Hp→OA) (bi:Int→Int→Int→Int→Int→Int→Hp→OA) (p:Nat) (ks:List Nat) (n:Nat) (tm:Tm) (H:Hp):OA:=bif p.beq 213 then aA.lh213 F bh bi ks n tm H else (bif p.beq 13 then aA.lh13 F bh bi ks n tm H else (none))
def aA.pn:Nat→List Nat:=fun i=>(([]:List (Nat×List Nat)).lookup i).getD []
def aA.tb:Nat→List (List Nat):=fun i=>(([]:List (Nat×List (List Nat))).lookup i).getD []
def aA.mk (g:Sl→Int→Int→Bool→Hp→OA) (args:List AV) (H:Hp):OA:=match args with
 | [(.agg [(.sl aa),(.int .i64 ab)]),(.int .i64 au),(.bool iW)]=>g aa ab au iW H
 | _=>none
def aA.cs (F:Nat) (bh:Int→Int→Int→Int→Int→Int→Hp→OA) (bi:Int→Int→Int→Int→Int→Int→Hp→OA):List (FuncId×(List AV→Hp→OA)):=[(95,bn.mk bh),(96,bo.mk bi)]
theorem aA.loops (F:Nat) (bh:Int→Int→Int→Int→Int→Int→Hp→OA) (bi:Int→Int→Int→Int→Int→Int→Hp→OA):LoopsOk tabs (mkOrc (aA.cs F bh bi)) aA.pn (aA.lh F bh bi) F [] 1 aA.code (fun tm H=>aresults tabs.ty H tm Try.f98.results.toList fun v=>some (v,H)) (fun _ _ _=>none) (fun tm H=>aresults tabs.ty H tm Try.f98.results.toList fun v=>some (v,H)):=by
 refine LoopsOk.seq ?_ ?_
 ·exact loops_none (by kernel_rfl)
 ·refine LoopsOk.seq ?_ ?_
  ·refine LoopsOk.seq ?_ ?_
   ·exact loops_none (by kernel_rfl)
   ·refine LoopsOk.block ?_
    refine LoopsOk.loop (fun tm H=>?_) (fun k13 tm H r h0=>?_) (fun k13=>?_)
    ·refine none_of fun r h0=>?_
     obtain ⟨dc,iu,dy,dd,iv,hks,e1,e2,e3,e8,h⟩:=aA.lh13_inv (show aA.lh13 F bh bi [] 0 tm H = some r from h0)
     cases h
    ·obtain ⟨dc,iu,dy,dd,iv,hks,e1,e2,e3,e8,h⟩:=aA.lh13_inv (show aA.lh13 F bh bi [] (k13 + 1) tm H = some r from h0)
     have q0:(Tm.put tm 1 (.int .i64 dc)) = tm:=by exact Tm.put_same e1
     have q1:(Tm.put (Tm.put tm 1 (.int .i64 dc)) 2 (.bool iu)) = tm:=by rw [q0]; exact Tm.put_same e2
     have q2:(Tm.put (Tm.put (Tm.put tm 1 (.int .i64 dc)) 2 (.bool iu)) 3 (.ptr dy dd)) = tm:=by rw [q1]; exact Tm.put_same e3
     have q3:(Tm.put (Tm.put (Tm.put (Tm.put tm 1 (.int .i64 dc)) 2 (.bool iu)) 3 (.ptr dy dd)) 8 (.int .i64 iv)) = tm:=by rw [q2]; exact Tm.put_same e8
     rw [← q3]
     exact Eq.trans (by kernel_rfl) h
    ·refine LoopsOk.seq ?_ ?_
     ·exact loops_none (by kernel_rfl)
     ·refine LoopsOk.seq ?_ ?_
      ·refine LoopsOk.block ?_
       refine LoopsOk.seq ?_ ?_
       ·exact loops_none (by kernel_rfl)
       ·refine LoopsOk.block ?_
        refine LoopsOk.loop (fun tm H=>?_) (fun k213 tm H r h0=>?_) (fun k213=>?_)
        ·refine none_of fun r h0=>?_
         obtain ⟨lj,ea,es,gQ,jz,dR,eb,hks,e1,e2,e3,e8,e9,h⟩:=aA.lh213_inv (show aA.lh213 F bh bi [k13] 0 tm H = some r from h0)
         cases h
        ·obtain ⟨lj,ea,es,gQ,jz,dR,eb,hks,e1,e2,e3,e8,e9,h⟩:=aA.lh213_inv (show aA.lh213 F bh bi [k13] (k213 + 1) tm H = some r from h0)
         obtain rfl:lj = k13:=by simpa [eq_comm] using hks
         have q0:(Tm.put tm 1 (.int .i64 ea)) = tm:=by exact Tm.put_same e1
         have q1:(Tm.put (Tm.put tm 1 (.int .i64 ea)) 2 (.bool es)) = tm:=by rw [q0]; exact Tm.put_same e2
         have q2:(Tm.put (Tm.put (Tm.put tm 1 (.int .i64 ea)) 2 (.bool es)) 3 (.ptr gQ jz)) = tm:=by rw [q1]; exact Tm.put_same e3
         have q3:(Tm.put (Tm.put (Tm.put (Tm.put tm 1 (.int .i64 ea)) 2 (.bool es)) 3 (.ptr gQ jz)) 8 (.int .i64 dR)) = tm:=by rw [q2]; exact Tm.put_same e8
         have q4:(Tm.put (Tm.put (Tm.put (Tm.put (Tm.put tm 1 (.int .i64 ea)) 2 (.bool es)) 3 (.ptr gQ jz)) 8 (.int .i64 dR)) 9 (.int .i64 eb)) = tm:=by rw [q3]; exact Tm.put_same e9
         rw [← q4]
         exact Eq.trans (by kernel_rfl) h
        ·exact loops_none (by kernel_rfl)
      ·exact loops_none (by kernel_rfl)
  ·exact loops_none (by kernel_rfl)
theorem aA.eqX (F:Nat) (bh:Int→Int→Int→Int→Int→Int→Hp→OA) (bi:Int→Int→Int→Int→Int→Int→Hp→OA) (aa:Sl) (ab:Int) (au:Int) (iW:Bool) (H:Hp):aCode tabs (mkOrc (aA.cs F bh bi)) aA.pn (aA.lh F bh bi) F [] 1 aA.code (argTm [(.agg [(.sl aa),(.int .i64 ab)]),(.int .i64 au),(.bool iW)]) H (fun tm H=>aresults tabs.ty H tm Try.f98.results.toList fun v=>some (v,H)) (fun _ _ _=>none) (fun tm H=>aresults tabs.ty H tm Try.f98.results.toList fun v=>some (v,H)) = aA.twX F bh bi aa ab au iW H:=by kernel_rfl
theorem aA.cs_ok (F:Nat):∀ p ∈ aA.cs F (bn.tw F) (bo.tw F),∀ args H v H',p.2 args H = some (v,H')→Go.AE.T Try.prog p.1 args H v H':=by
 intro p hp
 simp only [aA.cs,List.mem_cons,List.not_mem_nil,or_false] at hp
 rcases hp with rfl | rfl
 ·exact fun args H v H' h=>bn.mk_T h
 ·exact fun args H v H' h=>bo.mk_T h
theorem aA.ok:codeOk aA.pn Try.f98.ntmps aA.tb aA.code = true:=by kernel_rfl
theorem aA.T {F:Nat} {aa:Sl} {ab:Int} {au:Int} {iW:Bool} {H:Hp} {v:AV} {H':Hp} (h:aA.tw F aa ab au iW H = some (v,H')):Go.AE.T Try.prog 98 [(.agg [(.sl aa),(.int .i64 ab)]),(.int .i64 au),(.bool iW)] H v H':=
 Go.AE.T.of (Y:=tabs) (C:=mkOrc (aA.cs F (bn.tw F) (bo.tw F))) (PN:=aA.pn) (LH:=aA.lh F (bn.tw F) (bo.tw F)) (F:=F) (TB:=aA.tb) (fn:=Try.f98) (code:=aA.code) mixed tabs_ok (mkOrc_ok (aA.cs_ok F)) Try.func98 (by kernel_rfl) (by kernel_rfl) aA.ok (Nat.le_of_ble_eq_true (by kernel_rfl)) (aA.loops F (bn.tw F) (bo.tw F)) (Eq.trans (aA.eqX F (bn.tw F) (bo.tw F) aa ab au iW H) h)
theorem aA.mk_T {F:Nat} {args:List AV} {H:Hp} {v:AV} {H':Hp} (h:aA.mk (aA.tw F) args H = some (v,H')):Go.AE.T Try.prog 98 args H v H':=by
 unfold aA.mk at h
 split at h
 ·exact aA.T h
 ·cases h
def bR.twX (F:Nat) (bh:Int→Int→Int→Int→Int→Int→Hp→OA) (bi:Int→Int→Int→Int→Int→Int→Hp→OA) (bK:Sl→Int→Int→Bool→Hp→OA) (aa:Sl) (ab:Int) (au:Int) (H:Hp):OA:=(Hp.new H [(.sl aa),(.int .i64 ab)]).bind fun H4=>(Hp.ldSl H4 H.length 0).bind fun s5=>(Sl.idx s5 (IntKind.i64.wrap (Int.tdiv au 4)) 5).bind fun p6=>(Hp.ldI H4 .i64 p6.1 p6.2).bind fun n7=>(Hp.ldI H4 .i64 p6.1 (p6.2 + 1)).bind fun n8=>(Hp.ldI H4 .i64 p6.1 (p6.2 + 2)).bind fun n9=>(Hp.ldI H4 .i64 p6.1 (p6.2 + 3)).bind fun n10=>(Hp.ldI H4 .i64 p6.1 (p6.2 + 4)).bind fun n11=>(Hp.new H4 [.int .i64 0,.int .i64 0,.int .i64 0,.int .i64 0,.int .i64 0]).bind fun H12=>(Hp.st H12 H4.length 0 (.int .i64 n7)).bind fun H13=>(Hp.st H13 H4.length (0 + 1) (.int .i64 n8)).bind fun H14=>(Hp.st H14 H4.length (0 + 1 + 1) (.int .i64 n9)).bind fun H15=>(Hp.st H15 H4.length (0 + 1 + 1 + 1) (.int .i64 n10)).bind fun H16=>(Hp.st H16 H4.length (0 + 1 + 1 + 1 + 1) (.int .i64 n11)).bind fun H17=>(Hp.ldSl H17 H.length 0).bind fun s18=>(Hp.ldI H17 .i64 H.length (0 + 1)).bind fun n19=>(Hp.ldI H17 .i64 H4.length 0).bind fun n20=>(Hp.ldI H17 .i64 H4.length (0 + 1)).bind fun n21=>(Hp.ldI H17 .i64 H4.length (0 + 2)).bind fun n22=>(Hp.ldI H17 .i64 H4.length (0 + 3)).bind fun n23=>(Hp.ldI H17 .i64 H4.length (0 + 4)).bind fun n24=>(bh n20 n21 n22 n23 n24 (Int.tmod (IntKind.i64.wrap ((Int.tmod au 4) + 1)) 4) H17).bind fun r25=>((r25.1).asI .i64).bind fun n26=>(if Cons H17 r25.2 then ((Hp.ldI r25.2 .i64 H4.length 0).bind fun n27=>(Hp.ldI r25.2 .i64 H4.length (0 + 1)).bind fun n28=>(Hp.ldI r25.2 .i64 H4.length (0 + 2)).bind fun n29=>(Hp.ldI r25.2 .i64 H4.length (0 + 3)).bind fun n30=>(Hp.ldI r25.2 .i64 H4.length (0 + 4)).bind fun n31=>(bi n27 n28 n29 n30 n31 (Int.tmod (IntKind.i64.wrap ((Int.tmod au 4) + 1)) 4) r25.2).bind fun r32=>((r32.1).asB).bind fun b33=>(if Cons r25.2 r32.2 then ((bK s18 n19 n26 (!b33) r32.2).bind fun r34=>((r34.1).asTup 2).bind fun l35=>(l35[0]?).bind fun v36=>((v36).asI .i64).bind fun n37=>(l35[1]?).bind fun v38=>((v38).asI .i64).bind fun n39=>some ((.int .i64 (IntKind.i64.wrap ((IntKind.i64.wrap (4 * n37)) + n39))),r34.2)) else none)) else none)
def bR.tw (F:Nat) (aa:Sl) (ab:Int) (au:Int) (H:Hp):OA:=bR.twX F (bn.tw F) (bo.tw F) (aA.tw F) aa ab au H
def bR.code:Go.Code:=(Try.f97.body).getD .skip
def bR.lh (F:Nat) (bh:Int→Int→Int→Int→Int→Int→Hp→OA) (bi:Int→Int→Int→Int→Int→Int→Hp→OA) (bK:Sl→Int→Int→Bool→Hp→OA) (p:Nat) (ks:List Nat) (n:Nat) (tm:Tm) (H:Hp):OA:=none
def bR.pn:Nat→List Nat:=fun i=>(([(3,[8])]:List (Nat×List Nat)).lookup i).getD []
def bR.tb:Nat→List (List Nat):=fun i=>(([(3,[[],[],[],[1,2],[],[],[1,2,3,4,5],[1,2,3,4,5,6],[0,1,2,3,4,5,6,7],[0,1,2,3,4,5,6,7,8],[0,1,2,3,4,5,6,7,8,9],[0,1,2,3,4,5,6,7,8,9],[0,1,2,3,4,5,6,7,8,9,10],[0,1,2,3,4,5,6,7,8,9,10,11,12]])]:List (Nat×List (List Nat))).lookup i).getD []
def bR.mk (g:Sl→Int→Int→Hp→OA) (args:List AV) (H:Hp):OA:=match args with
 | [(.agg [(.sl aa),(.int .i64 ab)]),(.int .i64 au)]=>g aa ab au H
 | _=>none
def bR.cs (F:Nat) (bh:Int→Int→Int→Int→Int→Int→Hp→OA) (bi:Int→Int→Int→Int→Int→Int→Hp→OA) (bK:Sl→Int→Int→Bool→Hp→OA):List (FuncId×(List AV→Hp→OA)):=[(95,bn.mk bh),(96,bo.mk bi),(98,aA.mk bK)]
theorem bR.loops (F:Nat) (bh:Int→Int→Int→Int→Int→Int→Hp→OA) (bi:Int→Int→Int→Int→Int→Int→Hp→OA) (bK:Sl→Int→Int→Bool→Hp→OA):LoopsOk tabs (mkOrc (bR.cs F bh bi bK)) bR.pn (bR.lh F bh bi bK) F [] 1 bR.code (fun tm H=>aresults tabs.ty H tm Try.f97.results.toList fun v=>some (v,H)) (fun _ _ _=>none) (fun tm H=>aresults tabs.ty H tm Try.f97.results.toList fun v=>some (v,H)):=by
 exact loops_none (by kernel_rfl)
theorem bR.eqX (F:Nat) (bh:Int→Int→Int→Int→Int→Int→Hp→OA) (bi:Int→Int→Int→Int→Int→Int→Hp→OA) (bK:Sl→Int→Int→Bool→Hp→OA) (aa:Sl) (ab:Int) (au:Int) (H:Hp):aCode tabs (mkOrc (bR.cs F bh bi bK)) bR.pn (bR.lh F bh bi bK) F [] 1 bR.code (argTm [(.agg [(.sl aa),(.int .i64 ab)]),(.int .i64 au)]) H (fun tm H=>aresults tabs.ty H tm Try.f97.results.toList fun v=>some (v,H)) (fun _ _ _=>none) (fun tm H=>aresults tabs.ty H tm Try.f97.results.toList fun v=>some (v,H)) = bR.twX F bh bi bK aa ab au H:=by kernel_rfl
theorem bR.cs_ok (F:Nat):∀ p ∈ bR.cs F (bn.tw F) (bo.tw F) (aA.tw F),∀ args H v H',p.2 args H = some (v,H')→Go.AE.T Try.prog p.1 args H v H':=by
 intro p hp
 simp only [bR.cs,List.mem_cons,List.not_mem_nil,or_false] at hp
 rcases hp with rfl | rfl | rfl
 ·exact fun args H v H' h=>bn.mk_T h
 ·exact fun args H v H' h=>bo.mk_T h
 ·exact fun args H v H' h=>aA.mk_T h
theorem bR.ok:codeOk bR.pn Try.f97.ntmps bR.tb bR.code = true:=by kernel_rfl
theorem bR.T {F:Nat} {aa:Sl} {ab:Int} {au:Int} {H:Hp} {v:AV} {H':Hp} (h:bR.tw F aa ab au H = some (v,H')):Go.AE.T Try.prog 97 [(.agg [(.sl aa),(.int .i64 ab)]),(.int .i64 au)] H v H':=
 Go.AE.T.of (Y:=tabs) (C:=mkOrc (bR.cs F (bn.tw F) (bo.tw F) (aA.tw F))) (PN:=bR.pn) (LH:=bR.lh F (bn.tw F) (bo.tw F) (aA.tw F)) (F:=F) (TB:=bR.tb) (fn:=Try.f97) (code:=bR.code) mixed tabs_ok (mkOrc_ok (bR.cs_ok F)) Try.func97 (by kernel_rfl) (by kernel_rfl) bR.ok (Nat.le_of_ble_eq_true (by kernel_rfl)) (bR.loops F (bn.tw F) (bo.tw F) (aA.tw F)) (Eq.trans (bR.eqX F (bn.tw F) (bo.tw F) (aA.tw F) aa ab au H) h)
theorem bR.mk_T {F:Nat} {args:List AV} {H:Hp} {v:AV} {H':Hp} (h:bR.mk (bR.tw F) args H = some (v,H')):Go.AE.T Try.prog 97 args H v H':=by
 unfold bR.mk at h
 split at h
 ·exact bR.T h
 ·cases h
def ap.j4 (F:Nat) (cM:Sl→Int→Int→Hp→OA) (C61_:Nat→Nat→Sl→Sl→Int→Hp→OA) (zZ:Nat) (abj:Nat) (abk:Sl) (abl:Sl) (qu:Int) (H108:Hp):OA:=C61_ zZ abj abk abl (IntKind.i64.wrap (qu + 1)) H108
def ap.j5 (F:Nat) (cM:Sl→Int→Int→Hp→OA) (C61_:Nat→Nat→Sl→Sl→Int→Hp→OA) (z_:Nat) (abm:Nat) (abn:Sl) (abo:Sl) (qv:Int) (H164:Hp):OA:=C61_ z_ abm abn abo (IntKind.i64.wrap (qv + 1)) H164
def ap.j6 (F:Nat) (cM:Sl→Int→Int→Hp→OA) (C61_:Nat→Nat→Sl→Sl→Int→Hp→OA) (Aa:Nat) (nX:Nat) (qp:Sl) (abp:Sl) (qw:Int) (abq:Sl) (H147:Hp):OA:=(Hp.new H147 [(.sl abq)]).bind fun H148=>(Sl.row H148 (⟨some (H147.length,0),1,.ex 1⟩:Sl) 1).bind fun xs150=>(Hp.app H148 1 24 qp (⟨some (H147.length,0),1,.ex 1⟩:Sl).n xs150).bind fun a149=>ap.j5 F cM C61_ Aa nX a149.1 abp qw a149.2
def ap.l7853 (F:Nat) (cM:Sl→Int→Int→Hp→OA) (C61_:Nat→Nat→Sl→Sl→Int→Hp→OA):Nat→Nat→Nat→Sl→Sl→Int→Sl→Int→Hp→OA
 | 0,_,_,_,_,_,_,_,_=>none
 | abr + 1,fJ,iX,jL,jA,gR,c_,eI,H122=>(Sl.idx jA eI 1).bind fun p165=>(Hp.ldB H122 p165.1 p165.2).bind fun b166=>(bif (!b166) then ((Sl.idx jA eI 1).bind fun p167=>(Hp.st H122 p167.1 p167.2 (.bool true)).bind fun H168=>(Hp.new H168 [(.int .i64 eI)]).bind fun H169=>(Sl.row H169 (⟨some (H168.length,0),1,.ex 1⟩:Sl) 1).bind fun xs171=>(Hp.app H169 1 8 c_ (⟨some (H168.length,0),1,.ex 1⟩:Sl).n xs171).bind fun a170=>(Hp.ldSl a170.2 fJ iX).bind fun s172=>(Hp.ldI a170.2 .i64 fJ (iX + 1)).bind fun n173=>(cM s172 n173 eI a170.2).bind fun r174=>((r174.1).asI .i64).bind fun n175=>ap.l7853 F cM C61_ abr fJ iX jL jA gR a170.1 n175 r174.2) else (ap.j6 F cM C61_ fJ iX jL jA gR c_ H122))
termination_by structural n=>n
def ap.l61 (F:Nat) (cM:Sl→Int→Int→Hp→OA) :Nat→Nat→Nat→Sl→Sl→Int→Hp→OA
 | 0,_,_,_,_,_,_=>none
 | bP + 1,cu,bQ,bp,cI,cW,H15=>(bif (decide (cW < (cI.n:Int))) then ((Sl.idx cI cW 1).bind fun p96=>(Hp.ldB H15 p96.1 p96.2).bind fun b97=>(bif b97 then (ap.j4 F cM (ap.l61 F cM bP) cu bQ bp cI cW H15) else ((Hp.new H15 []).bind fun H109=>ap.l7853 F cM (ap.l61 F cM bP) F cu bQ bp cI cW (⟨some (H15.length,0),0,.ex 0⟩:Sl) cW H109))) else (some ((.sl bp),H15)))
termination_by structural n=>n
def ap.twX (F:Nat) (cM:Sl→Int→Int→Hp→OA) (aa:Sl) (ab:Int) (H:Hp):OA:=(Hp.new H [(.sl aa),(.int .i64 ab)]).bind fun H3=>(Hp.new H3 []).bind fun H4=>(Hp.ldSl H4 H.length 0).bind fun s5=>(Hp.mk H4 [.bool false] 1 (IntKind.i64.wrap (4 * (s5.n:Int))) (IntKind.i64.wrap (4 * (s5.n:Int)))).bind fun m6=>ap.l61 F cM F H.length 0 (⟨some (H3.length,0),0,.ex 0⟩:Sl) m6.1 0 m6.2
def ap.tw (F:Nat) (aa:Sl) (ab:Int) (H:Hp):OA:=ap.twX F (bR.tw F) aa ab H
def ap.code:Go.Code:=(Try.f51.body).getD .skip
def ap.lh61 (F:Nat) (cM:Sl→Int→Int→Hp→OA) (ks:List Nat) (n:Nat) (tm:Tm) (H:Hp):OA:=match ks,tm 1,tm 3,tm 4,tm 5 with
 | [],(.ptr cu bQ),(.sl bp),(.sl cI),(.int .i64 cW)=>ap.l61 F cM n cu bQ bp cI cW H
 | _,_,_,_,_=>none
theorem ap.lh61_inv {F:Nat} {cM:Sl→Int→Int→Hp→OA} {ks:List Nat} {n:Nat} {tm:Tm} {H:Hp} {r:AV×Hp} (h:ap.lh61 F cM ks n tm H = some r):∃ cu:Nat,∃ bQ:Nat,∃ bp:Sl,∃ cI:Sl,∃ cW:Int,ks = []∧tm 1 = (.ptr cu bQ)∧tm 3 = (.sl bp)∧tm 4 = (.sl cI)∧tm 5 = (.int .i64 cW)∧ap.l61 F cM n cu bQ bp cI cW H = some r:=by
 unfold ap.lh61 at h
 split at h
 ·exact ⟨_,_,_,_,_,rfl,by assumption,by assumption,by assumption,by assumption,h⟩
 ·cases h
def ap.lh7853 (F:Nat) (cM:Sl→Int→Int→Hp→OA) (ks:List Nat) (n:Nat) (tm:Tm) (H:Hp):OA:=match ks,tm 1,tm 3,tm 4,tm 5,tm 6,tm 7 with
 | [bP],(.ptr fJ iX),(.sl jL),(.sl jA),(.int .i64 gR),(.sl c_),(.int .i64 eI)=>ap.l7853 F cM (ap.l61 F cM bP) n fJ iX jL jA gR c_ eI H
 | _,_,_,_,_,_,_=>none
theorem ap.lh7853_inv {F:Nat} {cM:Sl→Int→Int→Hp→OA} {ks:List Nat} {n:Nat} {tm:Tm} {H:Hp} {r:AV×Hp} (h:ap.lh7853 F cM ks n tm H = some r):∃ bP:Nat,∃ fJ:Nat,∃ iX:Nat,∃ jL:Sl,∃ jA:Sl,∃ gR:Int,∃ c_:Sl,∃ eI:Int,ks = [bP]∧tm 1 = (.ptr fJ iX)∧tm 3 = (.sl jL)∧tm 4 = (.sl jA)∧tm 5 = (.int .i64 gR)∧tm 6 = (.sl c_)∧tm 7 = (.int .i64 eI)∧ap.l7853 F cM (ap.l61 F cM bP) n fJ iX jL jA gR c_ eI H = some r:=by
 unfold ap.lh7853 at h
 split at h
 ·exact ⟨_,_,_,_,_,_,_,_,rfl,by assumption,by assumption,by assumption,by assumption,by assumption,by assumption,h⟩
 ·cases h
def ap.lh (F:Nat) (cM:Sl→Int→Int→Hp→OA) (p:Nat) (ks:List Nat) (n:Nat) (tm:Tm) (H:Hp):OA:=bif p.beq 7853 then ap.lh7853 F cM ks n tm H else (bif p.beq 61 then ap.lh61 F cM ks n tm H else (none))
def ap.pn:Nat→List Nat:=fun i=>(([]:List (Nat×List Nat)).lookup i).getD []
def ap.tb:Nat→List (List Nat):=fun i=>(([]:List (Nat×List (List Nat))).lookup i).getD []
def ap.mk (g:Sl→Int→Hp→OA) (args:List AV) (H:Hp):OA:=match args with
 | [(.agg [(.sl aa),(.int .i64 ab)])]=>g aa ab H
 | _=>none
def ap.cs (F:Nat) (cM:Sl→Int→Int→Hp→OA):List (FuncId×(List AV→Hp→OA)):=[(97,bR.mk cM)]
theorem ap.loops (F:Nat) (cM:Sl→Int→Int→Hp→OA):LoopsOk tabs (mkOrc (ap.cs F cM)) ap.pn (ap.lh F cM) F [] 1 ap.code (fun tm H=>aresults tabs.ty H tm Try.f51.results.toList fun v=>some (v,H)) (fun _ _ _=>none) (fun tm H=>aresults tabs.ty H tm Try.f51.results.toList fun v=>some (v,H)):=by
 refine LoopsOk.seq ?_ ?_
 ·exact loops_none (by kernel_rfl)
 ·refine LoopsOk.seq ?_ ?_
  ·exact loops_none (by kernel_rfl)
  ·refine LoopsOk.seq ?_ ?_
   ·exact loops_none (by kernel_rfl)
   ·refine LoopsOk.seq ?_ ?_
    ·refine LoopsOk.seq ?_ ?_
     ·exact loops_none (by kernel_rfl)
     ·refine LoopsOk.block ?_
      refine LoopsOk.loop (fun tm H=>?_) (fun k61 tm H r h0=>?_) (fun k61=>?_)
      ·refine none_of fun r h0=>?_
       obtain ⟨cu,bQ,bp,cI,cW,hks,e1,e3,e4,e5,h⟩:=ap.lh61_inv (show ap.lh61 F cM [] 0 tm H = some r from h0)
       cases h
      ·obtain ⟨cu,bQ,bp,cI,cW,hks,e1,e3,e4,e5,h⟩:=ap.lh61_inv (show ap.lh61 F cM [] (k61 + 1) tm H = some r from h0)
       have q0:(Tm.put tm 1 (.ptr cu bQ)) = tm:=by exact Tm.put_same e1
       have q1:(Tm.put (Tm.put tm 1 (.ptr cu bQ)) 3 (.sl bp)) = tm:=by rw [q0]; exact Tm.put_same e3
       have q2:(Tm.put (Tm.put (Tm.put tm 1 (.ptr cu bQ)) 3 (.sl bp)) 4 (.sl cI)) = tm:=by rw [q1]; exact Tm.put_same e4
       have q3:(Tm.put (Tm.put (Tm.put (Tm.put tm 1 (.ptr cu bQ)) 3 (.sl bp)) 4 (.sl cI)) 5 (.int .i64 cW)) = tm:=by rw [q2]; exact Tm.put_same e5
       rw [← q3]
       exact Eq.trans (by kernel_rfl) h
      ·refine LoopsOk.seq ?_ ?_
       ·exact loops_none (by kernel_rfl)
       ·refine LoopsOk.seq ?_ ?_
        ·refine LoopsOk.block ?_
         refine LoopsOk.seq ?_ ?_
         ·exact loops_none (by kernel_rfl)
         ·refine LoopsOk.seq ?_ ?_
          ·exact loops_none (by kernel_rfl)
          ·refine LoopsOk.seq ?_ ?_
           ·refine LoopsOk.seq ?_ ?_
            ·exact loops_none (by kernel_rfl)
            ·refine LoopsOk.block ?_
             refine LoopsOk.loop (fun tm H=>?_) (fun k7853 tm H r h0=>?_) (fun k7853=>?_)
             ·refine none_of fun r h0=>?_
              obtain ⟨bP,fJ,iX,jL,jA,gR,c_,eI,hks,e1,e3,e4,e5,e6,e7,h⟩:=ap.lh7853_inv (show ap.lh7853 F cM [k61] 0 tm H = some r from h0)
              cases h
             ·obtain ⟨bP,fJ,iX,jL,jA,gR,c_,eI,hks,e1,e3,e4,e5,e6,e7,h⟩:=ap.lh7853_inv (show ap.lh7853 F cM [k61] (k7853 + 1) tm H = some r from h0)
              obtain rfl:bP = k61:=by simpa [eq_comm] using hks
              have q0:(Tm.put tm 1 (.ptr fJ iX)) = tm:=by exact Tm.put_same e1
              have q1:(Tm.put (Tm.put tm 1 (.ptr fJ iX)) 3 (.sl jL)) = tm:=by rw [q0]; exact Tm.put_same e3
              have q2:(Tm.put (Tm.put (Tm.put tm 1 (.ptr fJ iX)) 3 (.sl jL)) 4 (.sl jA)) = tm:=by rw [q1]; exact Tm.put_same e4
              have q3:(Tm.put (Tm.put (Tm.put (Tm.put tm 1 (.ptr fJ iX)) 3 (.sl jL)) 4 (.sl jA)) 5 (.int .i64 gR)) = tm:=by rw [q2]; exact Tm.put_same e5
              have q4:(Tm.put (Tm.put (Tm.put (Tm.put (Tm.put tm 1 (.ptr fJ iX)) 3 (.sl jL)) 4 (.sl jA)) 5 (.int .i64 gR)) 6 (.sl c_)) = tm:=by rw [q3]; exact Tm.put_same e6
              have q5:(Tm.put (Tm.put (Tm.put (Tm.put (Tm.put (Tm.put tm 1 (.ptr fJ iX)) 3 (.sl jL)) 4 (.sl jA)) 5 (.int .i64 gR)) 6 (.sl c_)) 7 (.int .i64 eI)) = tm:=by rw [q4]; exact Tm.put_same e7
              rw [← q5]
              exact Eq.trans (by kernel_rfl) h
             ·exact loops_none (by kernel_rfl)
           ·exact loops_none (by kernel_rfl)
        ·exact loops_none (by kernel_rfl)
    ·exact loops_none (by kernel_rfl)
theorem ap.eqX (F:Nat) (cM:Sl→Int→Int→Hp→OA) (aa:Sl) (ab:Int) (H:Hp):aCode tabs (mkOrc (ap.cs F cM)) ap.pn (ap.lh F cM) F [] 1 ap.code (argTm [(.agg [(.sl aa),(.int .i64 ab)])]) H (fun tm H=>aresults tabs.ty H tm Try.f51.results.toList fun v=>some (v,H)) (fun _ _ _=>none) (fun tm H=>aresults tabs.ty H tm Try.f51.results.toList fun v=>some (v,H)) = ap.twX F cM aa ab H:=by kernel_rfl
theorem ap.cs_ok (F:Nat):∀ p ∈ ap.cs F (bR.tw F),∀ args H v H',p.2 args H = some (v,H')→Go.AE.T Try.prog p.1 args H v H':=by
 intro p hp
 simp only [ap.cs,List.mem_cons,List.not_mem_nil,or_false] at hp
 subst hp
 exact fun args H v H' h=>bR.mk_T h
theorem ap.ok:codeOk ap.pn Try.f51.ntmps ap.tb ap.code = true:=by kernel_rfl
theorem ap.T {F:Nat} {aa:Sl} {ab:Int} {H:Hp} {v:AV} {H':Hp} (h:ap.tw F aa ab H = some (v,H')):Go.AE.T Try.prog 51 [(.agg [(.sl aa),(.int .i64 ab)])] H v H':=
 Go.AE.T.of (Y:=tabs) (C:=mkOrc (ap.cs F (bR.tw F))) (PN:=ap.pn) (LH:=ap.lh F (bR.tw F)) (F:=F) (TB:=ap.tb) (fn:=Try.f51) (code:=ap.code) mixed tabs_ok (mkOrc_ok (ap.cs_ok F)) Try.func51 (by kernel_rfl) (by kernel_rfl) ap.ok (Nat.le_of_ble_eq_true (by kernel_rfl)) (ap.loops F (bR.tw F)) (Eq.trans (ap.eqX F (bR.tw F) aa ab H) h)
theorem ap.mk_T {F:Nat} {args:List AV} {H:Hp} {v:AV} {H':Hp} (h:ap.mk (ap.tw F) args H = some (v,H')):Go.AE.T Try.prog 51 args H v H':=by
 unfold ap.mk at h
 split at h
 ·exact ap.T h
 ·cases h
def ao.j6 (F:Nat) (bK:Sl→Int→Int→Bool→Hp→OA) (C61_:Nat→Nat→Sl→Int→Hp→OA) (Ab:Nat) (abt:Nat) (abu:Sl) (qx:Int) (H243:Hp):OA:=C61_ Ab abt abu (IntKind.i64.wrap (qx + 1)) H243
def ao.j7 (F:Nat) (bK:Sl→Int→Int→Bool→Hp→OA) (C61_:Nat→Nat→Sl→Int→Hp→OA) (Ac:Nat) (abv:Nat) (qy:Sl) (nY:Int) (H226:Hp):OA:=ao.j6 F bK C61_ Ac abv qy nY H226
def ao.j8 (F:Nat) (bK:Sl→Int→Int→Bool→Hp→OA) (C7855_:Nat→Nat→Sl→Int→Int→Int→Int→Hp→OA) (Ad:Nat) (abw:Nat) (abx:Sl) (qz:Int) (qA:Int) (qB:Int) (qC:Int) (H265:Hp):OA:=C7855_ Ad abw abx qz qA qB (IntKind.i64.wrap (qC + 1)) H265
def ao.l7855 (F:Nat) (bK:Sl→Int→Int→Bool→Hp→OA) (C61_:Nat→Nat→Sl→Int→Hp→OA):Nat→Nat→Nat→Sl→Int→Int→Int→Int→Hp→OA
 | 0,_,_,_,_,_,_,_,_=>none
 | Nu + 1,gz,jm,iw,fe,dz,dS,eJ,H187=>(bif (decide (eJ < (iw.n:Int))) then ((Sl.idx iw eJ 1).bind fun p244=>(Hp.ldI H187 .i64 p244.1 p244.2).bind fun n245=>(bif (n245 == (if dS > dz then dS else dz)) then ((Sl.idx iw eJ 1).bind fun p246=>(Hp.st H187 p246.1 p246.2 (.int .i64 (if dS < dz then dS else dz))).bind fun H247=>ao.j8 F bK (ao.l7855 F bK C61_ Nu) gz jm iw fe dz dS eJ H247) else (ao.j8 F bK (ao.l7855 F bK C61_ Nu) gz jm iw fe dz dS eJ H187))) else (ao.j7 F bK C61_ gz jm iw fe H187))
termination_by structural n=>n
def ao.l61 (F:Nat) (bK:Sl→Int→Int→Bool→Hp→OA) :Nat→Nat→Nat→Sl→Int→Hp→OA
 | 0,_,_,_,_,_=>none
 | bP + 1,gA,jn,ke,fK,H35=>(Hp.ldSl H35 gA jn).bind fun s151=>(bif (decide (fK < (IntKind.i64.wrap (2 * (s151.n:Int))))) then ((Hp.ldSl H35 gA jn).bind fun s152=>(Hp.ldI H35 .i64 gA (jn + 1)).bind fun n153=>(bK s152 n153 fK true H35).bind fun r154=>((r154.1).asTup 2).bind fun l155=>(l155[0]?).bind fun v156=>((v156).asI .i64).bind fun n157=>(l155[1]?).bind fun v158=>((v158).asI .i64).bind fun n159=>(Hp.ldSl r154.2 gA jn).bind fun s160=>(Hp.ldI r154.2 .i64 gA (jn + 1)).bind fun n161=>(bK s160 n161 fK false r154.2).bind fun r162=>((r162.1).asTup 2).bind fun l163=>(l163[0]?).bind fun v164=>((v164).asI .i64).bind fun n165=>(l163[1]?).bind fun v166=>((v166).asI .i64).bind fun n167=>(Sl.idx ke n157 1).bind fun p168=>(Hp.ldI r162.2 .i64 p168.1 p168.2).bind fun n169=>(Sl.idx ke n165 1).bind fun p170=>(Hp.ldI r162.2 .i64 p170.1 p170.2).bind fun n171=>ao.l7855 F bK (ao.l61 F bK bP) F gA jn ke fK n169 n171 0 r162.2) else (some ((.sl ke),H35)))
termination_by structural n=>n
def ao.j9 (F:Nat) (bK:Sl→Int→Int→Bool→Hp→OA) (Ae:Nat) (aby:Nat) (abz:Sl) (H25:Hp):OA:=ao.l61 F bK F Ae aby abz 0 H25
def ao.l29 (F:Nat) (bK:Sl→Int→Int→Bool→Hp→OA) :Nat→Nat→Nat→Sl→Int→Hp→OA
 | 0,_,_,_,_,_=>none
 | cB + 1,iy,dc,dy,fL,H12=>(Hp.ldSl H12 iy dc).bind fun s266=>(bif (decide (fL < (s266.n:Int))) then ((Hp.new H12 [(.int .i64 fL)]).bind fun H267=>(Sl.row H267 (⟨some (H12.length,0),1,.ex 1⟩:Sl) 1).bind fun xs269=>(Hp.app H267 1 8 dy (⟨some (H12.length,0),1,.ex 1⟩:Sl).n xs269).bind fun a268=>ao.l29 F bK cB iy dc a268.1 (IntKind.i64.wrap (fL + 1)) a268.2) else (ao.j9 F bK iy dc dy H12))
termination_by structural n=>n
def ao.twX (F:Nat) (bK:Sl→Int→Int→Bool→Hp→OA) (aa:Sl) (ab:Int) (H:Hp):OA:=(Hp.new H [(.sl aa),(.int .i64 ab)]).bind fun H3=>(Hp.new H3 []).bind fun H4=>ao.l29 F bK F H.length 0 (⟨some (H3.length,0),0,.ex 0⟩:Sl) 0 H4
def ao.tw (F:Nat) (aa:Sl) (ab:Int) (H:Hp):OA:=ao.twX F (aA.tw F) aa ab H
def ao.code:Go.Code:=(Try.f52.body).getD .skip
def ao.lh29 (F:Nat) (bK:Sl→Int→Int→Bool→Hp→OA) (ks:List Nat) (n:Nat) (tm:Tm) (H:Hp):OA:=match ks,tm 1,tm 3,tm 4 with
 | [],(.ptr iy dc),(.sl dy),(.int .i64 fL)=>ao.l29 F bK n iy dc dy fL H
 | _,_,_,_=>none
theorem ao.lh29_inv {F:Nat} {bK:Sl→Int→Int→Bool→Hp→OA} {ks:List Nat} {n:Nat} {tm:Tm} {H:Hp} {r:AV×Hp} (h:ao.lh29 F bK ks n tm H = some r):∃ iy:Nat,∃ dc:Nat,∃ dy:Sl,∃ fL:Int,ks = []∧tm 1 = (.ptr iy dc)∧tm 3 = (.sl dy)∧tm 4 = (.int .i64 fL)∧ao.l29 F bK n iy dc dy fL H = some r:=by
 unfold ao.lh29 at h
 split at h
 ·exact ⟨_,_,_,_,rfl,by assumption,by assumption,by assumption,h⟩
 ·cases h
def ao.lh61 (F:Nat) (bK:Sl→Int→Int→Bool→Hp→OA) (ks:List Nat) (n:Nat) (tm:Tm) (H:Hp):OA:=match ks,tm 1,tm 3,tm 5 with
 | [],(.ptr gA jn),(.sl ke),(.int .i64 fK)=>ao.l61 F bK n gA jn ke fK H
 | _,_,_,_=>none
theorem ao.lh61_inv {F:Nat} {bK:Sl→Int→Int→Bool→Hp→OA} {ks:List Nat} {n:Nat} {tm:Tm} {H:Hp} {r:AV×Hp} (h:ao.lh61 F bK ks n tm H = some r):∃ gA:Nat,∃ jn:Nat,∃ ke:Sl,∃ fK:Int,ks = []∧tm 1 = (.ptr gA jn)∧tm 3 = (.sl ke)∧tm 5 = (.int .i64 fK)∧ao.l61 F bK n gA jn ke fK H = some r:=by
 unfold ao.lh61 at h
 split at h
 ·exact ⟨_,_,_,_,rfl,by assumption,by assumption,by assumption,h⟩
 ·cases h
def ao.lh7855 (F:Nat) (bK:Sl→Int→Int→Bool→Hp→OA) (ks:List Nat) (n:Nat) (tm:Tm) (H:Hp):OA:=match ks,tm 1,tm 3,tm 5,tm 10,tm 11,tm 12 with
 | [bP],(.ptr gz jm),(.sl iw),(.int .i64 fe),(.int .i64 dz),(.int .i64 dS),(.int .i64 eJ)=>ao.l7855 F bK (ao.l61 F bK bP) n gz jm iw fe dz dS eJ H
 | _,_,_,_,_,_,_=>none
theorem ao.lh7855_inv {F:Nat} {bK:Sl→Int→Int→Bool→Hp→OA} {ks:List Nat} {n:Nat} {tm:Tm} {H:Hp} {r:AV×Hp} (h:ao.lh7855 F bK ks n tm H = some r):∃ bP:Nat,∃ gz:Nat,∃ jm:Nat,∃ iw:Sl,∃ fe:Int,∃ dz:Int,∃ dS:Int,∃ eJ:Int,ks = [bP]∧tm 1 = (.ptr gz jm)∧tm 3 = (.sl iw)∧tm 5 = (.int .i64 fe)∧tm 10 = (.int .i64 dz)∧tm 11 = (.int .i64 dS)∧tm 12 = (.int .i64 eJ)∧ao.l7855 F bK (ao.l61 F bK bP) n gz jm iw fe dz dS eJ H = some r:=by
 unfold ao.lh7855 at h
 split at h
 ·exact ⟨_,_,_,_,_,_,_,_,rfl,by assumption,by assumption,by assumption,by assumption,by assumption,by assumption,h⟩
 ·cases h
def ao.lh (F:Nat) (bK:Sl→Int→Int→Bool→Hp→OA) (p:Nat) (ks:List Nat) (n:Nat) (tm:Tm) (H:Hp):OA:=bif p.beq 7855 then ao.lh7855 F bK ks n tm H else (bif p.beq 61 then ao.lh61 F bK ks n tm H else (bif p.beq 29 then ao.lh29 F bK ks n tm H else (none)))
def ao.pn:Nat→List Nat:=fun i=>(([(11,[])]:List (Nat×List Nat)).lookup i).getD []
def ao.tb:Nat→List (List Nat):=fun i=>(([(11,[[],[],[0,1],[0,1,2],[],[],[4,5],[4,5,6],[0,1,2,3],[0,1,2,3,4,5,6,7,8]])]:List (Nat×List (List Nat))).lookup i).getD []
def ao.mk (g:Sl→Int→Hp→OA) (args:List AV) (H:Hp):OA:=match args with
 | [(.agg [(.sl aa),(.int .i64 ab)])]=>g aa ab H
 | _=>none
def ao.cs (F:Nat) (bK:Sl→Int→Int→Bool→Hp→OA):List (FuncId×(List AV→Hp→OA)):=[(98,aA.mk bK)]
theorem ao.loops (F:Nat) (bK:Sl→Int→Int→Bool→Hp→OA):LoopsOk tabs (mkOrc (ao.cs F bK)) ao.pn (ao.lh F bK) F [] 1 ao.code (fun tm H=>aresults tabs.ty H tm Try.f52.results.toList fun v=>some (v,H)) (fun _ _ _=>none) (fun tm H=>aresults tabs.ty H tm Try.f52.results.toList fun v=>some (v,H)):=by
 refine LoopsOk.seq ?_ ?_
 ·exact loops_none (by kernel_rfl)
 ·refine LoopsOk.seq ?_ ?_
  ·exact loops_none (by kernel_rfl)
  ·refine LoopsOk.seq ?_ ?_
   ·refine LoopsOk.seq ?_ ?_
    ·exact loops_none (by kernel_rfl)
    ·refine LoopsOk.block ?_
     refine LoopsOk.loop (fun tm H=>?_) (fun k29 tm H r h0=>?_) (fun k29=>?_)
     ·refine none_of fun r h0=>?_
      obtain ⟨iy,dc,dy,fL,hks,e1,e3,e4,h⟩:=ao.lh29_inv (show ao.lh29 F bK [] 0 tm H = some r from h0)
      cases h
     ·obtain ⟨iy,dc,dy,fL,hks,e1,e3,e4,h⟩:=ao.lh29_inv (show ao.lh29 F bK [] (k29 + 1) tm H = some r from h0)
      have q0:(Tm.put tm 1 (.ptr iy dc)) = tm:=by exact Tm.put_same e1
      have q1:(Tm.put (Tm.put tm 1 (.ptr iy dc)) 3 (.sl dy)) = tm:=by rw [q0]; exact Tm.put_same e3
      have q2:(Tm.put (Tm.put (Tm.put tm 1 (.ptr iy dc)) 3 (.sl dy)) 4 (.int .i64 fL)) = tm:=by rw [q1]; exact Tm.put_same e4
      rw [← q2]
      exact Eq.trans (by kernel_rfl) h
     ·exact loops_none (by kernel_rfl)
   ·refine LoopsOk.seq ?_ ?_
    ·refine LoopsOk.seq ?_ ?_
     ·exact loops_none (by kernel_rfl)
     ·refine LoopsOk.block ?_
      refine LoopsOk.loop (fun tm H=>?_) (fun k61 tm H r h0=>?_) (fun k61=>?_)
      ·refine none_of fun r h0=>?_
       obtain ⟨gA,jn,ke,fK,hks,e1,e3,e5,h⟩:=ao.lh61_inv (show ao.lh61 F bK [] 0 tm H = some r from h0)
       cases h
      ·obtain ⟨gA,jn,ke,fK,hks,e1,e3,e5,h⟩:=ao.lh61_inv (show ao.lh61 F bK [] (k61 + 1) tm H = some r from h0)
       have q0:(Tm.put tm 1 (.ptr gA jn)) = tm:=by exact Tm.put_same e1
       have q1:(Tm.put (Tm.put tm 1 (.ptr gA jn)) 3 (.sl ke)) = tm:=by rw [q0]; exact Tm.put_same e3
       have q2:(Tm.put (Tm.put (Tm.put tm 1 (.ptr gA jn)) 3 (.sl ke)) 5 (.int .i64 fK)) = tm:=by rw [q1]; exact Tm.put_same e5
       rw [← q2]
       exact Eq.trans (by kernel_rfl) h
      ·refine LoopsOk.seq ?_ ?_
       ·exact loops_none (by kernel_rfl)
       ·refine LoopsOk.seq ?_ ?_
        ·refine LoopsOk.block ?_
         refine LoopsOk.seq ?_ ?_
         ·exact loops_none (by kernel_rfl)
         ·refine LoopsOk.seq ?_ ?_
          ·exact loops_none (by kernel_rfl)
          ·refine LoopsOk.seq ?_ ?_
           ·exact loops_none (by kernel_rfl)
           ·refine LoopsOk.seq ?_ ?_
            ·exact loops_none (by kernel_rfl)
            ·refine LoopsOk.block ?_
             refine LoopsOk.loop (fun tm H=>?_) (fun k7855 tm H r h0=>?_) (fun k7855=>?_)
             ·refine none_of fun r h0=>?_
              obtain ⟨bP,gz,jm,iw,fe,dz,dS,eJ,hks,e1,e3,e5,e10,e11,e12,h⟩:=ao.lh7855_inv (show ao.lh7855 F bK [k61] 0 tm H = some r from h0)
              cases h
             ·obtain ⟨bP,gz,jm,iw,fe,dz,dS,eJ,hks,e1,e3,e5,e10,e11,e12,h⟩:=ao.lh7855_inv (show ao.lh7855 F bK [k61] (k7855 + 1) tm H = some r from h0)
              obtain rfl:bP = k61:=by simpa [eq_comm] using hks
              have q0:(Tm.put tm 1 (.ptr gz jm)) = tm:=by exact Tm.put_same e1
              have q1:(Tm.put (Tm.put tm 1 (.ptr gz jm)) 3 (.sl iw)) = tm:=by rw [q0]; exact Tm.put_same e3
              have q2:(Tm.put (Tm.put (Tm.put tm 1 (.ptr gz jm)) 3 (.sl iw)) 5 (.int .i64 fe)) = tm:=by rw [q1]; exact Tm.put_same e5
              have q3:(Tm.put (Tm.put (Tm.put (Tm.put tm 1 (.ptr gz jm)) 3 (.sl iw)) 5 (.int .i64 fe)) 10 (.int .i64 dz)) = tm:=by rw [q2]; exact Tm.put_same e10
              have q4:(Tm.put (Tm.put (Tm.put (Tm.put (Tm.put tm 1 (.ptr gz jm)) 3 (.sl iw)) 5 (.int .i64 fe)) 10 (.int .i64 dz)) 11 (.int .i64 dS)) = tm:=by rw [q3]; exact Tm.put_same e11
              have q5:(Tm.put (Tm.put (Tm.put (Tm.put (Tm.put (Tm.put tm 1 (.ptr gz jm)) 3 (.sl iw)) 5 (.int .i64 fe)) 10 (.int .i64 dz)) 11 (.int .i64 dS)) 12 (.int .i64 eJ)) = tm:=by rw [q4]; exact Tm.put_same e12
              rw [← q5]
              exact Eq.trans (by kernel_rfl) h
             ·exact loops_none (by kernel_rfl)
        ·exact loops_none (by kernel_rfl)
    ·exact loops_none (by kernel_rfl)
theorem ao.eqX (F:Nat) (bK:Sl→Int→Int→Bool→Hp→OA) (aa:Sl) (ab:Int) (H:Hp):aCode tabs (mkOrc (ao.cs F bK)) ao.pn (ao.lh F bK) F [] 1 ao.code (argTm [(.agg [(.sl aa),(.int .i64 ab)])]) H (fun tm H=>aresults tabs.ty H tm Try.f52.results.toList fun v=>some (v,H)) (fun _ _ _=>none) (fun tm H=>aresults tabs.ty H tm Try.f52.results.toList fun v=>some (v,H)) = ao.twX F bK aa ab H:=by kernel_rfl
theorem ao.cs_ok (F:Nat):∀ p ∈ ao.cs F (aA.tw F),∀ args H v H',p.2 args H = some (v,H')→Go.AE.T Try.prog p.1 args H v H':=by
 intro p hp
 simp only [ao.cs,List.mem_cons,List.not_mem_nil,or_false] at hp
 subst hp
 exact fun args H v H' h=>aA.mk_T h
theorem ao.ok:codeOk ao.pn Try.f52.ntmps ao.tb ao.code = true:=by kernel_rfl
theorem ao.T {F:Nat} {aa:Sl} {ab:Int} {H:Hp} {v:AV} {H':Hp} (h:ao.tw F aa ab H = some (v,H')):Go.AE.T Try.prog 52 [(.agg [(.sl aa),(.int .i64 ab)])] H v H':=
 Go.AE.T.of (Y:=tabs) (C:=mkOrc (ao.cs F (aA.tw F))) (PN:=ao.pn) (LH:=ao.lh F (aA.tw F)) (F:=F) (TB:=ao.tb) (fn:=Try.f52) (code:=ao.code) mixed tabs_ok (mkOrc_ok (ao.cs_ok F)) Try.func52 (by kernel_rfl) (by kernel_rfl) ao.ok (Nat.le_of_ble_eq_true (by kernel_rfl)) (ao.loops F (aA.tw F)) (Eq.trans (ao.eqX F (aA.tw F) aa ab H) h)
theorem ao.mk_T {F:Nat} {args:List AV} {H:Hp} {v:AV} {H':Hp} (h:ao.mk (ao.tw F) args H = some (v,H')):Go.AE.T Try.prog 52 args H v H':=by
 unfold ao.mk at h
 split at h
 ·exact ao.T h
 ·cases h
def aL.j2 (F:Nat) (aN:Sl→Int→Hp→OA) (C61_:Int→Sl→Int→Hp→OA) (qD:Int) (abA:Sl) (qE:Int) (H42:Hp):OA:=C61_ qD abA (IntKind.i64.wrap (qE + 1)) H42
def aL.l61 (F:Nat) (aN:Sl→Int→Hp→OA) :Nat→Int→Sl→Int→Hp→OA
 | 0,_,_,_,_=>none
 | bP + 1,cL,kf,eK,H16=>(bif (decide (eK < (kf.n:Int))) then ((Sl.idx kf eK 1).bind fun p30=>(Hp.ldI H16 .i64 p30.1 p30.2).bind fun n31=>(bif (n31 == eK) then (aL.j2 F aN (aL.l61 F aN bP) (IntKind.i64.wrap (cL + 1)) kf eK H16) else (aL.j2 F aN (aL.l61 F aN bP) cL kf eK H16))) else (some ((.int .i64 cL),H16)))
termination_by structural n=>n
def aL.twX (F:Nat) (aN:Sl→Int→Hp→OA) (aa:Sl) (ab:Int) (H:Hp):OA:=(Hp.new H [(.sl aa),(.int .i64 ab)]).bind fun H3=>(Hp.ldSl H3 H.length 0).bind fun s4=>(Hp.ldI H3 .i64 H.length (0 + 1)).bind fun n5=>(aN s4 n5 H3).bind fun r6=>((r6.1).asSl).bind fun s7=>aL.l61 F aN F 0 s7 0 r6.2
def aL.tw (F:Nat) (aa:Sl) (ab:Int) (H:Hp):OA:=aL.twX F (ao.tw F) aa ab H
def aL.code:Go.Code:=(Try.f27.body).getD .skip
def aL.lh61 (F:Nat) (aN:Sl→Int→Hp→OA) (ks:List Nat) (n:Nat) (tm:Tm) (H:Hp):OA:=match ks,tm 3,tm 4,tm 5 with
 | [],(.int .i64 cL),(.sl kf),(.int .i64 eK)=>aL.l61 F aN n cL kf eK H
 | _,_,_,_=>none
theorem aL.lh61_inv {F:Nat} {aN:Sl→Int→Hp→OA} {ks:List Nat} {n:Nat} {tm:Tm} {H:Hp} {r:AV×Hp} (h:aL.lh61 F aN ks n tm H = some r):∃ cL:Int,∃ kf:Sl,∃ eK:Int,ks = []∧tm 3 = (.int .i64 cL)∧tm 4 = (.sl kf)∧tm 5 = (.int .i64 eK)∧aL.l61 F aN n cL kf eK H = some r:=by
 unfold aL.lh61 at h
 split at h
 ·exact ⟨_,_,_,rfl,by assumption,by assumption,by assumption,h⟩
 ·cases h
def aL.lh (F:Nat) (aN:Sl→Int→Hp→OA) (p:Nat) (ks:List Nat) (n:Nat) (tm:Tm) (H:Hp):OA:=bif p.beq 61 then aL.lh61 F aN ks n tm H else (none)
def aL.pn:Nat→List Nat:=fun i=>(([]:List (Nat×List Nat)).lookup i).getD []
def aL.tb:Nat→List (List Nat):=fun i=>(([]:List (Nat×List (List Nat))).lookup i).getD []
def aL.mk (g:Sl→Int→Hp→OA) (args:List AV) (H:Hp):OA:=match args with
 | [(.agg [(.sl aa),(.int .i64 ab)])]=>g aa ab H
 | _=>none
def aL.cs (F:Nat) (aN:Sl→Int→Hp→OA):List (FuncId×(List AV→Hp→OA)):=[(52,ao.mk aN)]
theorem aL.loops (F:Nat) (aN:Sl→Int→Hp→OA):LoopsOk tabs (mkOrc (aL.cs F aN)) aL.pn (aL.lh F aN) F [] 1 aL.code (fun tm H=>aresults tabs.ty H tm Try.f27.results.toList fun v=>some (v,H)) (fun _ _ _=>none) (fun tm H=>aresults tabs.ty H tm Try.f27.results.toList fun v=>some (v,H)):=by
 refine LoopsOk.seq ?_ ?_
 ·exact loops_none (by kernel_rfl)
 ·refine LoopsOk.seq ?_ ?_
  ·exact loops_none (by kernel_rfl)
  ·refine LoopsOk.seq ?_ ?_
   ·exact loops_none (by kernel_rfl)
   ·refine LoopsOk.seq ?_ ?_
    ·refine LoopsOk.seq ?_ ?_
     ·exact loops_none (by kernel_rfl)
     ·refine LoopsOk.block ?_
      refine LoopsOk.loop (fun tm H=>?_) (fun k61 tm H r h0=>?_) (fun k61=>?_)
      ·refine none_of fun r h0=>?_
       obtain ⟨cL,kf,eK,hks,e3,e4,e5,h⟩:=aL.lh61_inv (show aL.lh61 F aN [] 0 tm H = some r from h0)
       cases h
      ·obtain ⟨cL,kf,eK,hks,e3,e4,e5,h⟩:=aL.lh61_inv (show aL.lh61 F aN [] (k61 + 1) tm H = some r from h0)
       have q0:(Tm.put tm 3 (.int .i64 cL)) = tm:=by exact Tm.put_same e3
       have q1:(Tm.put (Tm.put tm 3 (.int .i64 cL)) 4 (.sl kf)) = tm:=by rw [q0]; exact Tm.put_same e4
       have q2:(Tm.put (Tm.put (Tm.put tm 3 (.int .i64 cL)) 4 (.sl kf)) 5 (.int .i64 eK)) = tm:=by rw [q1]; exact Tm.put_same e5
       rw [← q2]
       exact Eq.trans (by kernel_rfl) h
      ·exact loops_none (by kernel_rfl)
    ·exact loops_none (by kernel_rfl)
theorem aL.eqX (F:Nat) (aN:Sl→Int→Hp→OA) (aa:Sl) (ab:Int) (H:Hp):aCode tabs (mkOrc (aL.cs F aN)) aL.pn (aL.lh F aN) F [] 1 aL.code (argTm [(.agg [(.sl aa),(.int .i64 ab)])]) H (fun tm H=>aresults tabs.ty H tm Try.f27.results.toList fun v=>some (v,H)) (fun _ _ _=>none) (fun tm H=>aresults tabs.ty H tm Try.f27.results.toList fun v=>some (v,H)) = aL.twX F aN aa ab H:=by kernel_rfl
theorem aL.cs_ok (F:Nat):∀ p ∈ aL.cs F (ao.tw F),∀ args H v H',p.2 args H = some (v,H')→Go.AE.T Try.prog p.1 args H v H':=by
 intro p hp
 simp only [aL.cs,List.mem_cons,List.not_mem_nil,or_false] at hp
 subst hp
 exact fun args H v H' h=>ao.mk_T h
theorem aL.ok:codeOk aL.pn Try.f27.ntmps aL.tb aL.code = true:=by kernel_rfl
theorem aL.T {F:Nat} {aa:Sl} {ab:Int} {H:Hp} {v:AV} {H':Hp} (h:aL.tw F aa ab H = some (v,H')):Go.AE.T Try.prog 27 [(.agg [(.sl aa),(.int .i64 ab)])] H v H':=
 Go.AE.T.of (Y:=tabs) (C:=mkOrc (aL.cs F (ao.tw F))) (PN:=aL.pn) (LH:=aL.lh F (ao.tw F)) (F:=F) (TB:=aL.tb) (fn:=Try.f27) (code:=aL.code) mixed tabs_ok (mkOrc_ok (aL.cs_ok F)) Try.func27 (by kernel_rfl) (by kernel_rfl) aL.ok (Nat.le_of_ble_eq_true (by kernel_rfl)) (aL.loops F (ao.tw F)) (Eq.trans (aL.eqX F (ao.tw F) aa ab H) h)
theorem aL.mk_T {F:Nat} {args:List AV} {H:Hp} {v:AV} {H':Hp} (h:aL.mk (aL.tw F) args H = some (v,H')):Go.AE.T Try.prog 27 args H v H':=by
 unfold aL.mk at h
 split at h
 ·exact aL.T h
 ·cases h
def bU.twX (F:Nat) (cE:Int→Int→Int→Hp→OA) (lk:Sl→Int→Hp→OA) (aH:Sl→Int→Hp→OA) (ff:Sl→Int→Hp→OA) (aa:Sl) (ab:Int) (H:Hp):OA:=(Hp.new H [(.sl aa),(.int .i64 ab)]).bind fun H3=>(Hp.ldSl H3 H.length 0).bind fun s4=>(bif (decide ((s4.n:Int) > 10)) then (some ((.bool false),H3)) else ((Hp.ldI H3 .i64 H.length 1).bind fun n5=>(cE n5 0 8 H3).bind fun r6=>((r6.1).asB).bind fun b7=>(bif (!b7) then (some ((.bool false),r6.2)) else ((Hp.ldSl r6.2 H.length 0).bind fun s8=>(Hp.ldI r6.2 .i64 H.length (0 + 1)).bind fun n9=>(lk s8 n9 r6.2).bind fun r10=>((r10.1).asB).bind fun b11=>(bif (!b11) then (some ((.bool false),r10.2)) else ((Hp.ldSl r10.2 H.length 0).bind fun s12=>(Hp.ldI r10.2 .i64 H.length (0 + 1)).bind fun n13=>(aH s12 n13 r10.2).bind fun r14=>((r14.1).asSl).bind fun s15=>(if Cons r10.2 r14.2 then ((Hp.ldSl r14.2 H.length 0).bind fun s16=>(Hp.ldSl r14.2 H.length 0).bind fun s17=>(Hp.ldI r14.2 .i64 H.length (0 + 1)).bind fun n18=>(ff s17 n18 r14.2).bind fun r19=>((r19.1).asI .i64).bind fun n20=>(if Cons r14.2 r19.2 then (some ((.bool ((s15.n:Int) == (IntKind.i64.wrap ((s16.n:Int) + (IntKind.i64.wrap (2 * n20)))))),r19.2)) else none)) else none)))))))
def bU.tw (F:Nat) (aa:Sl) (ab:Int) (H:Hp):OA:=bU.twX F (bz.tw F) (aD.tw F) (ap.tw F) (aL.tw F) aa ab H
def bU.code:Go.Code:=(Try.f26.body).getD .skip
def bU.lh (F:Nat) (cE:Int→Int→Int→Hp→OA) (lk:Sl→Int→Hp→OA) (aH:Sl→Int→Hp→OA) (ff:Sl→Int→Hp→OA) (p:Nat) (ks:List Nat) (n:Nat) (tm:Tm) (H:Hp):OA:=none
def bU.pn:Nat→List Nat:=fun i=>(([(3,[])]:List (Nat×List Nat)).lookup i).getD []
def bU.tb:Nat→List (List Nat):=fun i=>(([(3,[[],[0],[0,1],[],[3],[3,4],[],[0,1,6],[0,1,6,7],[0,1,3,4,5,6,7,8],[0,1,2,3,4,5,6,7,8,9],[0,1,2,3,4,5,6,7,8,9,10]])]:List (Nat×List (List Nat))).lookup i).getD []
def bU.mk (g:Sl→Int→Hp→OA) (args:List AV) (H:Hp):OA:=match args with
 | [(.agg [(.sl aa),(.int .i64 ab)])]=>g aa ab H
 | _=>none
def bU.cs (F:Nat) (cE:Int→Int→Int→Hp→OA) (lk:Sl→Int→Hp→OA) (aH:Sl→Int→Hp→OA) (ff:Sl→Int→Hp→OA):List (FuncId×(List AV→Hp→OA)):=[(39,bz.mk cE),(50,aD.mk lk),(51,ap.mk aH),(27,aL.mk ff)]
theorem bU.loops (F:Nat) (cE:Int→Int→Int→Hp→OA) (lk:Sl→Int→Hp→OA) (aH:Sl→Int→Hp→OA) (ff:Sl→Int→Hp→OA):LoopsOk tabs (mkOrc (bU.cs F cE lk aH ff)) bU.pn (bU.lh F cE lk aH ff) F [] 1 bU.code (fun tm H=>aresults tabs.ty H tm Try.f26.results.toList fun v=>some (v,H)) (fun _ _ _=>none) (fun tm H=>aresults tabs.ty H tm Try.f26.results.toList fun v=>some (v,H)):=by
 exact loops_none (by kernel_rfl)
theorem bU.eqX (F:Nat) (cE:Int→Int→Int→Hp→OA) (lk:Sl→Int→Hp→OA) (aH:Sl→Int→Hp→OA) (ff:Sl→Int→Hp→OA) (aa:Sl) (ab:Int) (H:Hp):aCode tabs (mkOrc (bU.cs F cE lk aH ff)) bU.pn (bU.lh F cE lk aH ff) F [] 1 bU.code (argTm [(.agg [(.sl aa),(.int .i64 ab)])]) H (fun tm H=>aresults tabs.ty H tm Try.f26.results.toList fun v=>some (v,H)) (fun _ _ _=>none) (fun tm H=>aresults tabs.ty H tm Try.f26.results.toList fun v=>some (v,H)) = bU.twX F cE lk aH ff aa ab H:=by kernel_rfl
theorem bU.cs_ok (F:Nat):∀ p ∈ bU.cs F (bz.tw F) (aD.tw F) (ap.tw F) (aL.tw F),∀ args H v H',p.2 args H = some (v,H')→Go.AE.T Try.prog p.1 args H v H':=by
 intro p hp
 simp only [bU.cs,List.mem_cons,List.not_mem_nil,or_false] at hp
 rcases hp with rfl | rfl | rfl | rfl
 ·exact fun args H v H' h=>bz.mk_T h
 ·exact fun args H v H' h=>aD.mk_T h
 ·exact fun args H v H' h=>ap.mk_T h
 ·exact fun args H v H' h=>aL.mk_T h
theorem bU.ok:codeOk bU.pn Try.f26.ntmps bU.tb bU.code = true:=by kernel_rfl
theorem bU.T {F:Nat} {aa:Sl} {ab:Int} {H:Hp} {v:AV} {H':Hp} (h:bU.tw F aa ab H = some (v,H')):Go.AE.T Try.prog 26 [(.agg [(.sl aa),(.int .i64 ab)])] H v H':=
 Go.AE.T.of (Y:=tabs) (C:=mkOrc (bU.cs F (bz.tw F) (aD.tw F) (ap.tw F) (aL.tw F))) (PN:=bU.pn) (LH:=bU.lh F (bz.tw F) (aD.tw F) (ap.tw F) (aL.tw F)) (F:=F) (TB:=bU.tb) (fn:=Try.f26) (code:=bU.code) mixed tabs_ok (mkOrc_ok (bU.cs_ok F)) Try.func26 (by kernel_rfl) (by kernel_rfl) bU.ok (Nat.le_of_ble_eq_true (by kernel_rfl)) (bU.loops F (bz.tw F) (aD.tw F) (ap.tw F) (aL.tw F)) (Eq.trans (bU.eqX F (bz.tw F) (aD.tw F) (ap.tw F) (aL.tw F) aa ab H) h)
theorem bU.mk_T {F:Nat} {args:List AV} {H:Hp} {v:AV} {H':Hp} (h:bU.mk (bU.tw F) args H = some (v,H')):Go.AE.T Try.prog 26 args H v H':=by
 unfold bU.mk at h
 split at h
 ·exact bU.T h
 ·cases h
def aw.j3 (F:Nat) (aH:Sl→Int→Hp→OA) (C61_:Sl→Sl→Int→Hp→OA) (abB:Sl) (abC:Sl) (qF:Int) (H112:Hp):OA:=C61_ abB abC (IntKind.i64.wrap (qF + 1)) H112
def aw.j4 (F:Nat) (aH:Sl→Int→Hp→OA) (C61_:Sl→Sl→Int→Hp→OA) (abD:Sl) (abE:Sl) (qG:Int) (H100:Hp):OA:=aw.j3 F aH C61_ abD abE qG H100
def aw.l981 (F:Nat) (aH:Sl→Int→Hp→OA) (C61_:Sl→Sl→Int→Hp→OA):Nat→Sl→Sl→Int→Int→Hp→OA
 | 0,_,_,_,_,_=>none
 | abF + 1,jM,jN,et,gS,H80=>(Sl.idx jN et 1).bind fun p113=>(Hp.ldSl H80 p113.1 p113.2).bind fun s114=>(bif (decide (gS < (s114.n:Int))) then ((Sl.idx jN et 1).bind fun p115=>(Hp.ldSl H80 p115.1 p115.2).bind fun s116=>(Sl.idx s116 gS 1).bind fun p117=>(Hp.ldI H80 .i64 p117.1 p117.2).bind fun n118=>(Sl.idx jM n118 1).bind fun p119=>(Hp.st H80 p119.1 p119.2 (.int .i64 et)).bind fun H120=>aw.l981 F aH C61_ abF jM jN et (IntKind.i64.wrap (gS + 1)) H120) else (aw.j4 F aH C61_ jM jN et H80))
termination_by structural n=>n
def aw.l61 (F:Nat) (aH:Sl→Int→Hp→OA) :Nat→Sl→Sl→Int→Hp→OA
 | 0,_,_,_,_=>none
 | bP + 1,di,ll,iz,H18=>(bif (decide (iz < (ll.n:Int))) then (aw.l981 F aH (aw.l61 F aH bP) F di ll iz 0 H18) else (some ((.sl di),H18)))
termination_by structural n=>n
def aw.twX (F:Nat) (aH:Sl→Int→Hp→OA) (aa:Sl) (ab:Int) (H:Hp):OA:=(Hp.new H [(.sl aa),(.int .i64 ab)]).bind fun H3=>(Hp.ldSl H3 H.length 0).bind fun s4=>(Hp.mk H3 [.int .i64 0] 8 (IntKind.i64.wrap (4 * (s4.n:Int))) (IntKind.i64.wrap (4 * (s4.n:Int)))).bind fun m5=>(Hp.ldSl m5.2 H.length 0).bind fun s6=>(Hp.ldI m5.2 .i64 H.length (0 + 1)).bind fun n7=>(aH s6 n7 m5.2).bind fun r8=>((r8.1).asSl).bind fun s9=>aw.l61 F aH F m5.1 s9 0 r8.2
def aw.tw (F:Nat) (aa:Sl) (ab:Int) (H:Hp):OA:=aw.twX F (ap.tw F) aa ab H
def aw.code:Go.Code:=(Try.f55.body).getD .skip
def aw.lh61 (F:Nat) (aH:Sl→Int→Hp→OA) (ks:List Nat) (n:Nat) (tm:Tm) (H:Hp):OA:=match ks,tm 3,tm 4,tm 5 with
 | [],(.sl di),(.sl ll),(.int .i64 iz)=>aw.l61 F aH n di ll iz H
 | _,_,_,_=>none
theorem aw.lh61_inv {F:Nat} {aH:Sl→Int→Hp→OA} {ks:List Nat} {n:Nat} {tm:Tm} {H:Hp} {r:AV×Hp} (h:aw.lh61 F aH ks n tm H = some r):∃ di:Sl,∃ ll:Sl,∃ iz:Int,ks = []∧tm 3 = (.sl di)∧tm 4 = (.sl ll)∧tm 5 = (.int .i64 iz)∧aw.l61 F aH n di ll iz H = some r:=by
 unfold aw.lh61 at h
 split at h
 ·exact ⟨_,_,_,rfl,by assumption,by assumption,by assumption,h⟩
 ·cases h
def aw.lh981 (F:Nat) (aH:Sl→Int→Hp→OA) (ks:List Nat) (n:Nat) (tm:Tm) (H:Hp):OA:=match ks,tm 3,tm 4,tm 5,tm 6 with
 | [bP],(.sl jM),(.sl jN),(.int .i64 et),(.int .i64 gS)=>aw.l981 F aH (aw.l61 F aH bP) n jM jN et gS H
 | _,_,_,_,_=>none
theorem aw.lh981_inv {F:Nat} {aH:Sl→Int→Hp→OA} {ks:List Nat} {n:Nat} {tm:Tm} {H:Hp} {r:AV×Hp} (h:aw.lh981 F aH ks n tm H = some r):∃ bP:Nat,∃ jM:Sl,∃ jN:Sl,∃ et:Int,∃ gS:Int,ks = [bP]∧tm 3 = (.sl jM)∧tm 4 = (.sl jN)∧tm 5 = (.int .i64 et)∧tm 6 = (.int .i64 gS)∧aw.l981 F aH (aw.l61 F aH bP) n jM jN et gS H = some r:=by
 unfold aw.lh981 at h
 split at h
 ·exact ⟨_,_,_,_,_,rfl,by assumption,by assumption,by assumption,by assumption,h⟩
 ·cases h
def aw.lh (F:Nat) (aH:Sl→Int→Hp→OA) (p:Nat) (ks:List Nat) (n:Nat) (tm:Tm) (H:Hp):OA:=bif p.beq 981 then aw.lh981 F aH ks n tm H else (bif p.beq 61 then aw.lh61 F aH ks n tm H else (none))
def aw.pn:Nat→List Nat:=fun i=>(([]:List (Nat×List Nat)).lookup i).getD []
def aw.tb:Nat→List (List Nat):=fun i=>(([]:List (Nat×List (List Nat))).lookup i).getD []
def aw.mk (g:Sl→Int→Hp→OA) (args:List AV) (H:Hp):OA:=match args with
 | [(.agg [(.sl aa),(.int .i64 ab)])]=>g aa ab H
 | _=>none
def aw.cs (F:Nat) (aH:Sl→Int→Hp→OA):List (FuncId×(List AV→Hp→OA)):=[(51,ap.mk aH)]
theorem aw.loops (F:Nat) (aH:Sl→Int→Hp→OA):LoopsOk tabs (mkOrc (aw.cs F aH)) aw.pn (aw.lh F aH) F [] 1 aw.code (fun tm H=>aresults tabs.ty H tm Try.f55.results.toList fun v=>some (v,H)) (fun _ _ _=>none) (fun tm H=>aresults tabs.ty H tm Try.f55.results.toList fun v=>some (v,H)):=by
 refine LoopsOk.seq ?_ ?_
 ·exact loops_none (by kernel_rfl)
 ·refine LoopsOk.seq ?_ ?_
  ·exact loops_none (by kernel_rfl)
  ·refine LoopsOk.seq ?_ ?_
   ·exact loops_none (by kernel_rfl)
   ·refine LoopsOk.seq ?_ ?_
    ·refine LoopsOk.seq ?_ ?_
     ·exact loops_none (by kernel_rfl)
     ·refine LoopsOk.block ?_
      refine LoopsOk.loop (fun tm H=>?_) (fun k61 tm H r h0=>?_) (fun k61=>?_)
      ·refine none_of fun r h0=>?_
       obtain ⟨di,ll,iz,hks,e3,e4,e5,h⟩:=aw.lh61_inv (show aw.lh61 F aH [] 0 tm H = some r from h0)
       cases h
      ·obtain ⟨di,ll,iz,hks,e3,e4,e5,h⟩:=aw.lh61_inv (show aw.lh61 F aH [] (k61 + 1) tm H = some r from h0)
       have q0:(Tm.put tm 3 (.sl di)) = tm:=by exact Tm.put_same e3
       have q1:(Tm.put (Tm.put tm 3 (.sl di)) 4 (.sl ll)) = tm:=by rw [q0]; exact Tm.put_same e4
       have q2:(Tm.put (Tm.put (Tm.put tm 3 (.sl di)) 4 (.sl ll)) 5 (.int .i64 iz)) = tm:=by rw [q1]; exact Tm.put_same e5
       rw [← q2]
       exact Eq.trans (by kernel_rfl) h
      ·refine LoopsOk.seq ?_ ?_
       ·exact loops_none (by kernel_rfl)
       ·refine LoopsOk.seq ?_ ?_
        ·refine LoopsOk.block ?_
         refine LoopsOk.seq ?_ ?_
         ·exact loops_none (by kernel_rfl)
         ·refine LoopsOk.block ?_
          refine LoopsOk.loop (fun tm H=>?_) (fun k981 tm H r h0=>?_) (fun k981=>?_)
          ·refine none_of fun r h0=>?_
           obtain ⟨bP,jM,jN,et,gS,hks,e3,e4,e5,e6,h⟩:=aw.lh981_inv (show aw.lh981 F aH [k61] 0 tm H = some r from h0)
           cases h
          ·obtain ⟨bP,jM,jN,et,gS,hks,e3,e4,e5,e6,h⟩:=aw.lh981_inv (show aw.lh981 F aH [k61] (k981 + 1) tm H = some r from h0)
           obtain rfl:bP = k61:=by simpa [eq_comm] using hks
           have q0:(Tm.put tm 3 (.sl jM)) = tm:=by exact Tm.put_same e3
           have q1:(Tm.put (Tm.put tm 3 (.sl jM)) 4 (.sl jN)) = tm:=by rw [q0]; exact Tm.put_same e4
           have q2:(Tm.put (Tm.put (Tm.put tm 3 (.sl jM)) 4 (.sl jN)) 5 (.int .i64 et)) = tm:=by rw [q1]; exact Tm.put_same e5
           have q3:(Tm.put (Tm.put (Tm.put (Tm.put tm 3 (.sl jM)) 4 (.sl jN)) 5 (.int .i64 et)) 6 (.int .i64 gS)) = tm:=by rw [q2]; exact Tm.put_same e6
           rw [← q3]
           exact Eq.trans (by kernel_rfl) h
          ·exact loops_none (by kernel_rfl)
        ·exact loops_none (by kernel_rfl)
    ·exact loops_none (by kernel_rfl)
theorem aw.eqX (F:Nat) (aH:Sl→Int→Hp→OA) (aa:Sl) (ab:Int) (H:Hp):aCode tabs (mkOrc (aw.cs F aH)) aw.pn (aw.lh F aH) F [] 1 aw.code (argTm [(.agg [(.sl aa),(.int .i64 ab)])]) H (fun tm H=>aresults tabs.ty H tm Try.f55.results.toList fun v=>some (v,H)) (fun _ _ _=>none) (fun tm H=>aresults tabs.ty H tm Try.f55.results.toList fun v=>some (v,H)) = aw.twX F aH aa ab H:=by kernel_rfl
theorem aw.cs_ok (F:Nat):∀ p ∈ aw.cs F (ap.tw F),∀ args H v H',p.2 args H = some (v,H')→Go.AE.T Try.prog p.1 args H v H':=by
 intro p hp
 simp only [aw.cs,List.mem_cons,List.not_mem_nil,or_false] at hp
 subst hp
 exact fun args H v H' h=>ap.mk_T h
theorem aw.ok:codeOk aw.pn Try.f55.ntmps aw.tb aw.code = true:=by kernel_rfl
theorem aw.T {F:Nat} {aa:Sl} {ab:Int} {H:Hp} {v:AV} {H':Hp} (h:aw.tw F aa ab H = some (v,H')):Go.AE.T Try.prog 55 [(.agg [(.sl aa),(.int .i64 ab)])] H v H':=
 Go.AE.T.of (Y:=tabs) (C:=mkOrc (aw.cs F (ap.tw F))) (PN:=aw.pn) (LH:=aw.lh F (ap.tw F)) (F:=F) (TB:=aw.tb) (fn:=Try.f55) (code:=aw.code) mixed tabs_ok (mkOrc_ok (aw.cs_ok F)) Try.func55 (by kernel_rfl) (by kernel_rfl) aw.ok (Nat.le_of_ble_eq_true (by kernel_rfl)) (aw.loops F (ap.tw F)) (Eq.trans (aw.eqX F (ap.tw F) aa ab H) h)
theorem aw.mk_T {F:Nat} {args:List AV} {H:Hp} {v:AV} {H':Hp} (h:aw.mk (aw.tw F) args H = some (v,H')):Go.AE.T Try.prog 55 args H v H':=by
 unfold aw.mk at h
 split at h
 ·exact aw.T h
 ·cases h
def ac.j20 (F:Nat) (aE:Sl→Int→Hp→OA) (aN:Sl→Int→Hp→OA) (aH:Sl→Int→Hp→OA) (C509_:Sl→Sl→Bool→Hp→OA) (abG:Sl) (abH:Sl) (qH:Bool) (H630:Hp):OA:=C509_ abG abH qH H630
def ac.j21 (F:Nat) (aE:Sl→Int→Hp→OA) (aN:Sl→Int→Hp→OA) (aH:Sl→Int→Hp→OA) (C509_:Sl→Sl→Bool→Hp→OA) (abI:Sl) (abJ:Sl) (qI:Bool) (H613:Hp):OA:=ac.j20 F aE aN aH C509_ abI abJ qI H613
def ac.j22 (F:Nat) (aE:Sl→Int→Hp→OA) (aN:Sl→Int→Hp→OA) (aH:Sl→Int→Hp→OA) (C8151_:Sl→Sl→Bool→Int→Hp→OA) (abK:Sl) (abL:Sl) (qJ:Bool) (qK:Int) (H696:Hp):OA:=C8151_ abK abL qJ (IntKind.i64.wrap (qK + 1)) H696
def ac.j23 (F:Nat) (aE:Sl→Int→Hp→OA) (aN:Sl→Int→Hp→OA) (aH:Sl→Int→Hp→OA) (C8151_:Sl→Sl→Bool→Int→Hp→OA) (abM:Sl) (abN:Sl) (qL:Bool) (qM:Int) (H716:Hp):OA:=C8151_ abM abN qL (IntKind.i64.wrap (qM + 1)) H716
def ac.j24 (F:Nat) (aE:Sl→Int→Hp→OA) (aN:Sl→Int→Hp→OA) (aH:Sl→Int→Hp→OA) (C8151_:Sl→Sl→Bool→Int→Hp→OA) (ug:Sl) (py:Sl) (nZ:Bool) (jO:Int) (n_:Int) (H663:Hp):OA:=(Sl.idx py n_ 1).bind fun p664=>(Hp.ldI H663 .i64 p664.1 p664.2).bind fun n665=>(bif (decide (n665 ≥ 0)) then ((Sl.idx ug jO 1).bind fun p666=>(Hp.ldI H663 .i64 p666.1 p666.2).bind fun n667=>(Sl.idx py n667 1).bind fun p668=>(Hp.ldI H663 .i64 p668.1 p668.2).bind fun n669=>(bif (decide (n669 < 0)) then ((Sl.idx ug jO 1).bind fun p670=>(Hp.ldI H663 .i64 p670.1 p670.2).bind fun n671=>(Sl.idx py n_ 1).bind fun p672=>(Hp.ldI H663 .i64 p672.1 p672.2).bind fun n673=>(Sl.idx py n671 1).bind fun p674=>(Hp.st H663 p674.1 p674.2 (.int .i64 (IntKind.i64.wrap (1 - n673)))).bind fun H675=>ac.j22 F aE aN aH C8151_ ug py true jO H675) else (ac.j23 F aE aN aH C8151_ ug py nZ jO H663))) else (C8151_ ug py nZ (IntKind.i64.wrap (jO + 1)) H663))
def ac.j25 (F:Nat) (aE:Sl→Int→Hp→OA) (aN:Sl→Int→Hp→OA) (aH:Sl→Int→Hp→OA) (C8151_:Sl→Sl→Bool→Int→Hp→OA) (abO:Sl) (abP:Sl) (qN:Bool) (qO:Int) (H749:Hp):OA:=C8151_ abO abP qN (IntKind.i64.wrap (qO + 1)) H749
def ac.j26 (F:Nat) (aE:Sl→Int→Hp→OA) (aN:Sl→Int→Hp→OA) (aH:Sl→Int→Hp→OA) (C8151_:Sl→Sl→Bool→Int→Hp→OA) (abQ:Sl) (abR:Sl) (qP:Bool) (qQ:Int) (H769:Hp):OA:=C8151_ abQ abR qP (IntKind.i64.wrap (qQ + 1)) H769
def ac.l8151 (F:Nat) (aE:Sl→Int→Hp→OA) (aN:Sl→Int→Hp→OA) (aH:Sl→Int→Hp→OA) (C509_:Sl→Sl→Bool→Hp→OA):Nat→Sl→Sl→Bool→Int→Hp→OA
 | 0,_,_,_,_,_=>none
 | uh + 1,fg,eL,fh,cQ,H457=>(bif (decide (cQ < (fg.n:Int))) then ((Sl.idx fg (IntKind.i64.wrap ((IntKind.i64.wrap ((IntKind.i64.wrap (Int.tdiv cQ 4)) * 4)) + (Int.tmod (IntKind.i64.wrap (cQ + 1)) 4))) 1).bind fun p631=>(Hp.ldI H457 .i64 p631.1 p631.2).bind fun n632=>(Sl.idx fg cQ 1).bind fun p633=>(Hp.ldI H457 .i64 p633.1 p633.2).bind fun n634=>(Sl.idx eL n634 1).bind fun p635=>(Hp.ldI H457 .i64 p635.1 p635.2).bind fun n636=>(bif (decide (n636 ≥ 0)) then ((Sl.idx eL n632 1).bind fun p637=>(Hp.ldI H457 .i64 p637.1 p637.2).bind fun n638=>(bif (decide (n638 < 0)) then ((Sl.idx fg cQ 1).bind fun p639=>(Hp.ldI H457 .i64 p639.1 p639.2).bind fun n640=>(Sl.idx eL n640 1).bind fun p641=>(Hp.ldI H457 .i64 p641.1 p641.2).bind fun n642=>(Sl.idx eL n632 1).bind fun p643=>(Hp.st H457 p643.1 p643.2 (.int .i64 (IntKind.i64.wrap (1 - n642)))).bind fun H644=>ac.j24 F aE aN aH (ac.l8151 F aE aN aH C509_ uh) fg eL true cQ n632 H644) else (ac.j24 F aE aN aH (ac.l8151 F aE aN aH C509_ uh) fg eL fh cQ n632 H457))) else ((Sl.idx eL n632 1).bind fun p717=>(Hp.ldI H457 .i64 p717.1 p717.2).bind fun n718=>(bif (decide (n718 ≥ 0)) then ((Sl.idx fg cQ 1).bind fun p719=>(Hp.ldI H457 .i64 p719.1 p719.2).bind fun n720=>(Sl.idx eL n720 1).bind fun p721=>(Hp.ldI H457 .i64 p721.1 p721.2).bind fun n722=>(bif (decide (n722 < 0)) then ((Sl.idx fg cQ 1).bind fun p723=>(Hp.ldI H457 .i64 p723.1 p723.2).bind fun n724=>(Sl.idx eL n632 1).bind fun p725=>(Hp.ldI H457 .i64 p725.1 p725.2).bind fun n726=>(Sl.idx eL n724 1).bind fun p727=>(Hp.st H457 p727.1 p727.2 (.int .i64 (IntKind.i64.wrap (1 - n726)))).bind fun H728=>ac.j25 F aE aN aH (ac.l8151 F aE aN aH C509_ uh) fg eL true cQ H728) else (ac.j26 F aE aN aH (ac.l8151 F aE aN aH C509_ uh) fg eL fh cQ H457))) else (ac.l8151 F aE aN aH C509_ uh fg eL fh (IntKind.i64.wrap (cQ + 1)) H457))))) else (ac.j21 F aE aN aH C509_ fg eL fh H457))
termination_by structural n=>n
def ac.l509 (F:Nat) (aE:Sl→Int→Hp→OA) (aN:Sl→Int→Hp→OA) (aH:Sl→Int→Hp→OA) :Nat→Sl→Sl→Bool→Hp→OA
 | 0,_,_,_,_=>none
 | de + 1,lm,ln,jo,H113=>(bif jo then (ac.l8151 F aE aN aH (ac.l509 F aE aN aH de) F lm ln false 0 H113) else (some ((.sl ln),H113)))
termination_by structural n=>n
def ac.j27 (F:Nat) (aE:Sl→Int→Hp→OA) (aN:Sl→Int→Hp→OA) (aH:Sl→Int→Hp→OA) (abS:Sl) (abT:Sl) (H99:Hp):OA:=ac.l509 F aE aN aH F abS abT true H99
def ac.j28 (F:Nat) (aE:Sl→Int→Hp→OA) (aN:Sl→Int→Hp→OA) (aH:Sl→Int→Hp→OA) (C253_:Sl→Sl→Sl→Int→Hp→OA) (abU:Sl) (abV:Sl) (abW:Sl) (qR:Int) (H790:Hp):OA:=C253_ abU abV abW (IntKind.i64.wrap (qR + 1)) H790
def ac.j29 (F:Nat) (aE:Sl→Int→Hp→OA) (aN:Sl→Int→Hp→OA) (aH:Sl→Int→Hp→OA) (C253_:Sl→Sl→Sl→Int→Hp→OA) (abX:Sl) (abY:Sl) (abZ:Sl) (qS:Int) (H804:Hp):OA:=C253_ abX abY abZ (IntKind.i64.wrap (qS + 1)) H804
def ac.l253 (F:Nat) (aE:Sl→Int→Hp→OA) (aN:Sl→Int→Hp→OA) (aH:Sl→Int→Hp→OA) :Nat→Sl→Sl→Sl→Int→Hp→OA
 | 0,_,_,_,_,_=>none
 | ui + 1,jB,jP,kg,ec,H51=>(bif (decide (ec < (jP.n:Int))) then ((Sl.idx jP ec 1).bind fun p770=>(Hp.ldI H51 .i64 p770.1 p770.2).bind fun n771=>(bif (n771 == ec) then ((Sl.idx jB (IntKind.i64.wrap (4 * ec)) 1).bind fun p772=>(Hp.ldI H51 .i64 p772.1 p772.2).bind fun n773=>(Sl.idx kg n773 1).bind fun p774=>(Hp.st H51 p774.1 p774.2 (.int .i64 0)).bind fun H775=>ac.j28 F aE aN aH (ac.l253 F aE aN aH ui) jB jP kg ec H775) else (ac.j29 F aE aN aH (ac.l253 F aE aN aH ui) jB jP kg ec H51))) else (ac.j27 F aE aN aH jB kg H51))
termination_by structural n=>n
def ac.j30 (F:Nat) (aE:Sl→Int→Hp→OA) (aN:Sl→Int→Hp→OA) (aH:Sl→Int→Hp→OA) (ab0:Sl) (ab1:Sl) (ab2:Sl) (H39:Hp):OA:=ac.l253 F aE aN aH F ab0 ab1 ab2 0 H39
def ac.l125 (F:Nat) (aE:Sl→Int→Hp→OA) (aN:Sl→Int→Hp→OA) (aH:Sl→Int→Hp→OA) :Nat→Sl→Sl→Sl→Int→Hp→OA
 | 0,_,_,_,_,_=>none
 | cX + 1,kh,kK,cJ,gT,H26=>(bif (decide (gT < (cJ.n:Int))) then ((Sl.idx cJ gT 1).bind fun p805=>(Hp.st H26 p805.1 p805.2 (.int .i64 (-1))).bind fun H806=>ac.l125 F aE aN aH cX kh kK cJ (IntKind.i64.wrap (gT + 1)) H806) else (ac.j30 F aE aN aH kh kK cJ H26))
termination_by structural n=>n
def ac.twX (F:Nat) (aE:Sl→Int→Hp→OA) (aN:Sl→Int→Hp→OA) (aH:Sl→Int→Hp→OA) (aa:Sl) (ab:Int) (H:Hp):OA:=(Hp.new H [(.sl aa),(.int .i64 ab)]).bind fun H3=>(Hp.ldSl H3 H.length 0).bind fun s4=>(Hp.ldI H3 .i64 H.length (0 + 1)).bind fun n5=>(aE s4 n5 H3).bind fun r6=>((r6.1).asSl).bind fun s7=>(Hp.ldSl r6.2 H.length 0).bind fun s8=>(Hp.ldI r6.2 .i64 H.length (0 + 1)).bind fun n9=>(aN s8 n9 r6.2).bind fun r10=>((r10.1).asSl).bind fun s11=>(Hp.ldSl r10.2 H.length 0).bind fun s12=>(Hp.ldI r10.2 .i64 H.length (0 + 1)).bind fun n13=>(aH s12 n13 r10.2).bind fun r14=>((r14.1).asSl).bind fun s15=>(Hp.mk r14.2 [.int .i64 0] 8 (s15.n:Int) (s15.n:Int)).bind fun m16=>ac.l125 F aE aN aH F s7 s11 m16.1 0 m16.2
def ac.tw (F:Nat) (aa:Sl) (ab:Int) (H:Hp):OA:=ac.twX F (aw.tw F) (ao.tw F) (ap.tw F) aa ab H
def ac.code:Go.Code:=(Try.f56.body).getD .skip
def ac.lh125 (F:Nat) (aE:Sl→Int→Hp→OA) (aN:Sl→Int→Hp→OA) (aH:Sl→Int→Hp→OA) (ks:List Nat) (n:Nat) (tm:Tm) (H:Hp):OA:=match ks,tm 3,tm 4,tm 5,tm 6 with
 | [],(.sl kh),(.sl kK),(.sl cJ),(.int .i64 gT)=>ac.l125 F aE aN aH n kh kK cJ gT H
 | _,_,_,_,_=>none
theorem ac.lh125_inv {F:Nat} {aE:Sl→Int→Hp→OA} {aN:Sl→Int→Hp→OA} {aH:Sl→Int→Hp→OA} {ks:List Nat} {n:Nat} {tm:Tm} {H:Hp} {r:AV×Hp} (h:ac.lh125 F aE aN aH ks n tm H = some r):∃ kh:Sl,∃ kK:Sl,∃ cJ:Sl,∃ gT:Int,ks = []∧tm 3 = (.sl kh)∧tm 4 = (.sl kK)∧tm 5 = (.sl cJ)∧tm 6 = (.int .i64 gT)∧ac.l125 F aE aN aH n kh kK cJ gT H = some r:=by
 unfold ac.lh125 at h
 split at h
 ·exact ⟨_,_,_,_,rfl,by assumption,by assumption,by assumption,by assumption,h⟩
 ·cases h
def ac.lh253 (F:Nat) (aE:Sl→Int→Hp→OA) (aN:Sl→Int→Hp→OA) (aH:Sl→Int→Hp→OA) (ks:List Nat) (n:Nat) (tm:Tm) (H:Hp):OA:=match ks,tm 3,tm 4,tm 5,tm 7 with
 | [],(.sl jB),(.sl jP),(.sl kg),(.int .i64 ec)=>ac.l253 F aE aN aH n jB jP kg ec H
 | _,_,_,_,_=>none
theorem ac.lh253_inv {F:Nat} {aE:Sl→Int→Hp→OA} {aN:Sl→Int→Hp→OA} {aH:Sl→Int→Hp→OA} {ks:List Nat} {n:Nat} {tm:Tm} {H:Hp} {r:AV×Hp} (h:ac.lh253 F aE aN aH ks n tm H = some r):∃ jB:Sl,∃ jP:Sl,∃ kg:Sl,∃ ec:Int,ks = []∧tm 3 = (.sl jB)∧tm 4 = (.sl jP)∧tm 5 = (.sl kg)∧tm 7 = (.int .i64 ec)∧ac.l253 F aE aN aH n jB jP kg ec H = some r:=by
 unfold ac.lh253 at h
 split at h
 ·exact ⟨_,_,_,_,rfl,by assumption,by assumption,by assumption,by assumption,h⟩
 ·cases h
def ac.lh509 (F:Nat) (aE:Sl→Int→Hp→OA) (aN:Sl→Int→Hp→OA) (aH:Sl→Int→Hp→OA) (ks:List Nat) (n:Nat) (tm:Tm) (H:Hp):OA:=match ks,tm 3,tm 5,tm 9 with
 | [],(.sl lm),(.sl ln),(.bool jo)=>ac.l509 F aE aN aH n lm ln jo H
 | _,_,_,_=>none
theorem ac.lh509_inv {F:Nat} {aE:Sl→Int→Hp→OA} {aN:Sl→Int→Hp→OA} {aH:Sl→Int→Hp→OA} {ks:List Nat} {n:Nat} {tm:Tm} {H:Hp} {r:AV×Hp} (h:ac.lh509 F aE aN aH ks n tm H = some r):∃ lm:Sl,∃ ln:Sl,∃ jo:Bool,ks = []∧tm 3 = (.sl lm)∧tm 5 = (.sl ln)∧tm 9 = (.bool jo)∧ac.l509 F aE aN aH n lm ln jo H = some r:=by
 unfold ac.lh509 at h
 split at h
 ·exact ⟨_,_,_,rfl,by assumption,by assumption,by assumption,h⟩
 ·cases h
def ac.lh8151 (F:Nat) (aE:Sl→Int→Hp→OA) (aN:Sl→Int→Hp→OA) (aH:Sl→Int→Hp→OA) (ks:List Nat) (n:Nat) (tm:Tm) (H:Hp):OA:=match ks,tm 3,tm 5,tm 9,tm 10 with
 | [de],(.sl fg),(.sl eL),(.bool fh),(.int .i64 cQ)=>ac.l8151 F aE aN aH (ac.l509 F aE aN aH de) n fg eL fh cQ H
 | _,_,_,_,_=>none
theorem ac.lh8151_inv {F:Nat} {aE:Sl→Int→Hp→OA} {aN:Sl→Int→Hp→OA} {aH:Sl→Int→Hp→OA} {ks:List Nat} {n:Nat} {tm:Tm} {H:Hp} {r:AV×Hp} (h:ac.lh8151 F aE aN aH ks n tm H = some r):∃ de:Nat,∃ fg:Sl,∃ eL:Sl,∃ fh:Bool,∃ cQ:Int,ks = [de]∧tm 3 = (.sl fg)∧tm 5 = (.sl eL)∧tm 9 = (.bool fh)∧tm 10 = (.int .i64 cQ)∧ac.l8151 F aE aN aH (ac.l509 F aE aN aH de) n fg eL fh cQ H = some r:=by
 unfold ac.lh8151 at h
 split at h
 ·exact ⟨_,_,_,_,_,rfl,by assumption,by assumption,by assumption,by assumption,h⟩
 ·cases h
def ac.lh (F:Nat) (aE:Sl→Int→Hp→OA) (aN:Sl→Int→Hp→OA) (aH:Sl→Int→Hp→OA) (p:Nat) (ks:List Nat) (n:Nat) (tm:Tm) (H:Hp):OA:=bif p.beq 8151 then ac.lh8151 F aE aN aH ks n tm H else (bif p.beq 509 then ac.lh509 F aE aN aH ks n tm H else (bif p.beq 253 then ac.lh253 F aE aN aH ks n tm H else (bif p.beq 125 then ac.lh125 F aE aN aH ks n tm H else (none))))
def ac.pn:Nat→List Nat:=fun i=>(([]:List (Nat×List Nat)).lookup i).getD []
def ac.tb:Nat→List (List Nat):=fun i=>(([]:List (Nat×List (List Nat))).lookup i).getD []
def ac.mk (g:Sl→Int→Hp→OA) (args:List AV) (H:Hp):OA:=match args with
 | [(.agg [(.sl aa),(.int .i64 ab)])]=>g aa ab H
 | _=>none
def ac.cs (F:Nat) (aE:Sl→Int→Hp→OA) (aN:Sl→Int→Hp→OA) (aH:Sl→Int→Hp→OA):List (FuncId×(List AV→Hp→OA)):=[(55,aw.mk aE),(52,ao.mk aN),(51,ap.mk aH)]
theorem ac.loops (F:Nat) (aE:Sl→Int→Hp→OA) (aN:Sl→Int→Hp→OA) (aH:Sl→Int→Hp→OA):LoopsOk tabs (mkOrc (ac.cs F aE aN aH)) ac.pn (ac.lh F aE aN aH) F [] 1 ac.code (fun tm H=>aresults tabs.ty H tm Try.f56.results.toList fun v=>some (v,H)) (fun _ _ _=>none) (fun tm H=>aresults tabs.ty H tm Try.f56.results.toList fun v=>some (v,H)):=by
 refine LoopsOk.seq ?_ ?_
 ·exact loops_none (by kernel_rfl)
 ·refine LoopsOk.seq ?_ ?_
  ·exact loops_none (by kernel_rfl)
  ·refine LoopsOk.seq ?_ ?_
   ·exact loops_none (by kernel_rfl)
   ·refine LoopsOk.seq ?_ ?_
    ·exact loops_none (by kernel_rfl)
    ·refine LoopsOk.seq ?_ ?_
     ·refine LoopsOk.seq ?_ ?_
      ·exact loops_none (by kernel_rfl)
      ·refine LoopsOk.block ?_
       refine LoopsOk.loop (fun tm H=>?_) (fun k125 tm H r h0=>?_) (fun k125=>?_)
       ·refine none_of fun r h0=>?_
        obtain ⟨kh,kK,cJ,gT,hks,e3,e4,e5,e6,h⟩:=ac.lh125_inv (show ac.lh125 F aE aN aH [] 0 tm H = some r from h0)
        cases h
       ·obtain ⟨kh,kK,cJ,gT,hks,e3,e4,e5,e6,h⟩:=ac.lh125_inv (show ac.lh125 F aE aN aH [] (k125 + 1) tm H = some r from h0)
        have q0:(Tm.put tm 3 (.sl kh)) = tm:=by exact Tm.put_same e3
        have q1:(Tm.put (Tm.put tm 3 (.sl kh)) 4 (.sl kK)) = tm:=by rw [q0]; exact Tm.put_same e4
        have q2:(Tm.put (Tm.put (Tm.put tm 3 (.sl kh)) 4 (.sl kK)) 5 (.sl cJ)) = tm:=by rw [q1]; exact Tm.put_same e5
        have q3:(Tm.put (Tm.put (Tm.put (Tm.put tm 3 (.sl kh)) 4 (.sl kK)) 5 (.sl cJ)) 6 (.int .i64 gT)) = tm:=by rw [q2]; exact Tm.put_same e6
        rw [← q3]
        exact Eq.trans (by kernel_rfl) h
       ·exact loops_none (by kernel_rfl)
     ·refine LoopsOk.seq ?_ ?_
      ·refine LoopsOk.seq ?_ ?_
       ·exact loops_none (by kernel_rfl)
       ·refine LoopsOk.block ?_
        refine LoopsOk.loop (fun tm H=>?_) (fun k253 tm H r h0=>?_) (fun k253=>?_)
        ·refine none_of fun r h0=>?_
         obtain ⟨jB,jP,kg,ec,hks,e3,e4,e5,e7,h⟩:=ac.lh253_inv (show ac.lh253 F aE aN aH [] 0 tm H = some r from h0)
         cases h
        ·obtain ⟨jB,jP,kg,ec,hks,e3,e4,e5,e7,h⟩:=ac.lh253_inv (show ac.lh253 F aE aN aH [] (k253 + 1) tm H = some r from h0)
         have q0:(Tm.put tm 3 (.sl jB)) = tm:=by exact Tm.put_same e3
         have q1:(Tm.put (Tm.put tm 3 (.sl jB)) 4 (.sl jP)) = tm:=by rw [q0]; exact Tm.put_same e4
         have q2:(Tm.put (Tm.put (Tm.put tm 3 (.sl jB)) 4 (.sl jP)) 5 (.sl kg)) = tm:=by rw [q1]; exact Tm.put_same e5
         have q3:(Tm.put (Tm.put (Tm.put (Tm.put tm 3 (.sl jB)) 4 (.sl jP)) 5 (.sl kg)) 7 (.int .i64 ec)) = tm:=by rw [q2]; exact Tm.put_same e7
         rw [← q3]
         exact Eq.trans (by kernel_rfl) h
        ·exact loops_none (by kernel_rfl)
      ·refine LoopsOk.seq ?_ ?_
       ·refine LoopsOk.seq ?_ ?_
        ·exact loops_none (by kernel_rfl)
        ·refine LoopsOk.block ?_
         refine LoopsOk.loop (fun tm H=>?_) (fun k509 tm H r h0=>?_) (fun k509=>?_)
         ·refine none_of fun r h0=>?_
          obtain ⟨lm,ln,jo,hks,e3,e5,e9,h⟩:=ac.lh509_inv (show ac.lh509 F aE aN aH [] 0 tm H = some r from h0)
          cases h
         ·obtain ⟨lm,ln,jo,hks,e3,e5,e9,h⟩:=ac.lh509_inv (show ac.lh509 F aE aN aH [] (k509 + 1) tm H = some r from h0)
          have q0:(Tm.put tm 3 (.sl lm)) = tm:=by exact Tm.put_same e3
          have q1:(Tm.put (Tm.put tm 3 (.sl lm)) 5 (.sl ln)) = tm:=by rw [q0]; exact Tm.put_same e5
          have q2:(Tm.put (Tm.put (Tm.put tm 3 (.sl lm)) 5 (.sl ln)) 9 (.bool jo)) = tm:=by rw [q1]; exact Tm.put_same e9
          rw [← q2]
          exact Eq.trans (by kernel_rfl) h
         ·refine LoopsOk.seq ?_ ?_
          ·exact loops_none (by kernel_rfl)
          ·refine LoopsOk.block ?_
           refine LoopsOk.seq ?_ ?_
           ·exact loops_none (by kernel_rfl)
           ·refine LoopsOk.seq ?_ ?_
            ·exact loops_none (by kernel_rfl)
            ·refine LoopsOk.block ?_
             refine LoopsOk.loop (fun tm H=>?_) (fun k8151 tm H r h0=>?_) (fun k8151=>?_)
             ·refine none_of fun r h0=>?_
              obtain ⟨de,fg,eL,fh,cQ,hks,e3,e5,e9,e10,h⟩:=ac.lh8151_inv (show ac.lh8151 F aE aN aH [k509] 0 tm H = some r from h0)
              cases h
             ·obtain ⟨de,fg,eL,fh,cQ,hks,e3,e5,e9,e10,h⟩:=ac.lh8151_inv (show ac.lh8151 F aE aN aH [k509] (k8151 + 1) tm H = some r from h0)
              obtain rfl:de = k509:=by simpa [eq_comm] using hks
              have q0:(Tm.put tm 3 (.sl fg)) = tm:=by exact Tm.put_same e3
              have q1:(Tm.put (Tm.put tm 3 (.sl fg)) 5 (.sl eL)) = tm:=by rw [q0]; exact Tm.put_same e5
              have q2:(Tm.put (Tm.put (Tm.put tm 3 (.sl fg)) 5 (.sl eL)) 9 (.bool fh)) = tm:=by rw [q1]; exact Tm.put_same e9
              have q3:(Tm.put (Tm.put (Tm.put (Tm.put tm 3 (.sl fg)) 5 (.sl eL)) 9 (.bool fh)) 10 (.int .i64 cQ)) = tm:=by rw [q2]; exact Tm.put_same e10
              rw [← q3]
              exact Eq.trans (by kernel_rfl) h
             ·exact loops_none (by kernel_rfl)
       ·exact loops_none (by kernel_rfl)
theorem ac.eqX (F:Nat) (aE:Sl→Int→Hp→OA) (aN:Sl→Int→Hp→OA) (aH:Sl→Int→Hp→OA) (aa:Sl) (ab:Int) (H:Hp):aCode tabs (mkOrc (ac.cs F aE aN aH)) ac.pn (ac.lh F aE aN aH) F [] 1 ac.code (argTm [(.agg [(.sl aa),(.int .i64 ab)])]) H (fun tm H=>aresults tabs.ty H tm Try.f56.results.toList fun v=>some (v,H)) (fun _ _ _=>none) (fun tm H=>aresults tabs.ty H tm Try.f56.results.toList fun v=>some (v,H)) = ac.twX F aE aN aH aa ab H:=by kernel_rfl
theorem ac.cs_ok (F:Nat):∀ p ∈ ac.cs F (aw.tw F) (ao.tw F) (ap.tw F),∀ args H v H',p.2 args H = some (v,H')→Go.AE.T Try.prog p.1 args H v H':=by
 intro p hp
 simp only [ac.cs,List.mem_cons,List.not_mem_nil,or_false] at hp
 rcases hp with rfl | rfl | rfl
 ·exact fun args H v H' h=>aw.mk_T h
 ·exact fun args H v H' h=>ao.mk_T h
 ·exact fun args H v H' h=>ap.mk_T h
theorem ac.ok:codeOk ac.pn Try.f56.ntmps ac.tb ac.code = true:=by kernel_rfl
theorem ac.T {F:Nat} {aa:Sl} {ab:Int} {H:Hp} {v:AV} {H':Hp} (h:ac.tw F aa ab H = some (v,H')):Go.AE.T Try.prog 56 [(.agg [(.sl aa),(.int .i64 ab)])] H v H':=
 Go.AE.T.of (Y:=tabs) (C:=mkOrc (ac.cs F (aw.tw F) (ao.tw F) (ap.tw F))) (PN:=ac.pn) (LH:=ac.lh F (aw.tw F) (ao.tw F) (ap.tw F)) (F:=F) (TB:=ac.tb) (fn:=Try.f56) (code:=ac.code) mixed tabs_ok (mkOrc_ok (ac.cs_ok F)) Try.func56 (by kernel_rfl) (by kernel_rfl) ac.ok (Nat.le_of_ble_eq_true (by kernel_rfl)) (ac.loops F (aw.tw F) (ao.tw F) (ap.tw F)) (Eq.trans (ac.eqX F (aw.tw F) (ao.tw F) (ap.tw F) aa ab H) h)
theorem ac.mk_T {F:Nat} {args:List AV} {H:Hp} {v:AV} {H':Hp} (h:ac.mk (ac.tw F) args H = some (v,H')):Go.AE.T Try.prog 56 args H v H':=by
 unfold ac.mk at h
 split at h
 ·exact ac.T h
 ·cases h
def bG.twX (F:Nat) (aa:Int) (ak:Int) (H:Hp):OA:=(Hp.new H [.int .i64 0,.int .i64 0,.sl ⟨none,0,.ex 0⟩]).bind fun H3=>(Hp.mk H3 [.int .i64 0] 8 (IntKind.i64.wrap (aa * ak)) (IntKind.i64.wrap (aa * ak))).bind fun m4=>(Hp.st m4.2 H.length 0 (.int .i64 aa)).bind fun H5=>(Hp.st H5 H.length (0 + 1) (.int .i64 ak)).bind fun H6=>(Hp.st H6 H.length (0 + 1 + 1) (.sl m4.1)).bind fun H7=>(Hp.ldI H7 .i64 H.length 0).bind fun n8=>(Hp.ldI H7 .i64 H.length (0 + 1)).bind fun n9=>(Hp.ldSl H7 H.length (0 + 2)).bind fun s10=>some ((.agg [(.int .i64 n8),(.int .i64 n9),(.sl s10)]),H7)
def bG.tw (F:Nat) (aa:Int) (ak:Int) (H:Hp):OA:=bG.twX F aa ak H
def bG.code:Go.Code:=(Try.f57.body).getD .skip
def bG.lh (F:Nat) (p:Nat) (ks:List Nat) (n:Nat) (tm:Tm) (H:Hp):OA:=none
def bG.pn:Nat→List Nat:=fun i=>(([]:List (Nat×List Nat)).lookup i).getD []
def bG.tb:Nat→List (List Nat):=fun i=>(([]:List (Nat×List (List Nat))).lookup i).getD []
def bG.mk (g:Int→Int→Hp→OA) (args:List AV) (H:Hp):OA:=match args with
 | [(.int .i64 aa),(.int .i64 ak)]=>g aa ak H
 | _=>none
def bG.cs (F:Nat):List (FuncId×(List AV→Hp→OA)):=[]
theorem bG.loops (F:Nat):LoopsOk tabs (mkOrc (bG.cs F)) bG.pn (bG.lh F) F [] 1 bG.code (fun tm H=>aresults tabs.ty H tm Try.f57.results.toList fun v=>some (v,H)) (fun _ _ _=>none) (fun tm H=>aresults tabs.ty H tm Try.f57.results.toList fun v=>some (v,H)):=by
 exact loops_none (by kernel_rfl)
theorem bG.eqX (F:Nat) (aa:Int) (ak:Int) (H:Hp):aCode tabs (mkOrc (bG.cs F)) bG.pn (bG.lh F) F [] 1 bG.code (argTm [(.int .i64 aa),(.int .i64 ak)]) H (fun tm H=>aresults tabs.ty H tm Try.f57.results.toList fun v=>some (v,H)) (fun _ _ _=>none) (fun tm H=>aresults tabs.ty H tm Try.f57.results.toList fun v=>some (v,H)) = bG.twX F aa ak H:=by kernel_rfl
theorem bG.cs_ok (F:Nat):∀ p ∈ bG.cs F,∀ args H v H',p.2 args H = some (v,H')→Go.AE.T Try.prog p.1 args H v H':=by
 intro p hp
 exact absurd (show p ∈ [] from hp) List.not_mem_nil
theorem bG.ok:codeOk bG.pn Try.f57.ntmps bG.tb bG.code = true:=by kernel_rfl
theorem bG.T {F:Nat} {aa:Int} {ak:Int} {H:Hp} {v:AV} {H':Hp} (h:bG.tw F aa ak H = some (v,H')):Go.AE.T Try.prog 57 [(.int .i64 aa),(.int .i64 ak)] H v H':=
 Go.AE.T.of (Y:=tabs) (C:=mkOrc (bG.cs F)) (PN:=bG.pn) (LH:=bG.lh F) (F:=F) (TB:=bG.tb) (fn:=Try.f57) (code:=bG.code) mixed tabs_ok (mkOrc_ok (bG.cs_ok F)) Try.func57 (by kernel_rfl) (by kernel_rfl) bG.ok (Nat.le_of_ble_eq_true (by kernel_rfl)) (bG.loops F) (Eq.trans (bG.eqX F aa ak H) h)
theorem bG.mk_T {F:Nat} {args:List AV} {H:Hp} {v:AV} {H':Hp} (h:bG.mk (bG.tw F) args H = some (v,H')):Go.AE.T Try.prog 57 args H v H':=by
 unfold bG.mk at h
 split at h
 ·exact bG.T h
 ·cases h
def bC.twX (F:Nat) (aa:Sl) (ak:Sl) (bF:Int) (iY:Int) (H:Hp):OA:=(Sl.idx aa (IntKind.i64.wrap ((IntKind.i64.wrap (4 * bF)) + 1)) 1).bind fun p5=>(Hp.ldI H .i64 p5.1 p5.2).bind fun n6=>(Sl.idx ak n6 1).bind fun p7=>(Hp.ldI H .i64 p7.1 p7.2).bind fun n8=>(bif (n8 == iY) then (some ((.int .i64 1),H)) else (some ((.int .i64 (-1)),H)))
def bC.tw (F:Nat) (aa:Sl) (ak:Sl) (bF:Int) (iY:Int) (H:Hp):OA:=bC.twX F aa ak bF iY H
def bC.code:Go.Code:=(Try.f58.body).getD .skip
def bC.lh (F:Nat) (p:Nat) (ks:List Nat) (n:Nat) (tm:Tm) (H:Hp):OA:=none
def bC.pn:Nat→List Nat:=fun i=>(([]:List (Nat×List Nat)).lookup i).getD []
def bC.tb:Nat→List (List Nat):=fun i=>(([]:List (Nat×List (List Nat))).lookup i).getD []
def bC.mk (g:Sl→Sl→Int→Int→Hp→OA) (args:List AV) (H:Hp):OA:=match args with
 | [(.sl aa),(.sl ak),(.int .i64 bF),(.int .i64 iY)]=>g aa ak bF iY H
 | _=>none
def bC.cs (F:Nat):List (FuncId×(List AV→Hp→OA)):=[]
theorem bC.loops (F:Nat):LoopsOk tabs (mkOrc (bC.cs F)) bC.pn (bC.lh F) F [] 1 bC.code (fun tm H=>aresults tabs.ty H tm Try.f58.results.toList fun v=>some (v,H)) (fun _ _ _=>none) (fun tm H=>aresults tabs.ty H tm Try.f58.results.toList fun v=>some (v,H)):=by
 exact loops_none (by kernel_rfl)
theorem bC.eqX (F:Nat) (aa:Sl) (ak:Sl) (bF:Int) (iY:Int) (H:Hp):aCode tabs (mkOrc (bC.cs F)) bC.pn (bC.lh F) F [] 1 bC.code (argTm [(.sl aa),(.sl ak),(.int .i64 bF),(.int .i64 iY)]) H (fun tm H=>aresults tabs.ty H tm Try.f58.results.toList fun v=>some (v,H)) (fun _ _ _=>none) (fun tm H=>aresults tabs.ty H tm Try.f58.results.toList fun v=>some (v,H)) = bC.twX F aa ak bF iY H:=by kernel_rfl
theorem bC.cs_ok (F:Nat):∀ p ∈ bC.cs F,∀ args H v H',p.2 args H = some (v,H')→Go.AE.T Try.prog p.1 args H v H':=by
 intro p hp
 exact absurd (show p ∈ [] from hp) List.not_mem_nil
theorem bC.ok:codeOk bC.pn Try.f58.ntmps bC.tb bC.code = true:=by kernel_rfl
theorem bC.T {F:Nat} {aa:Sl} {ak:Sl} {bF:Int} {iY:Int} {H:Hp} {v:AV} {H':Hp} (h:bC.tw F aa ak bF iY H = some (v,H')):Go.AE.T Try.prog 58 [(.sl aa),(.sl ak),(.int .i64 bF),(.int .i64 iY)] H v H':=
 Go.AE.T.of (Y:=tabs) (C:=mkOrc (bC.cs F)) (PN:=bC.pn) (LH:=bC.lh F) (F:=F) (TB:=bC.tb) (fn:=Try.f58) (code:=bC.code) mixed tabs_ok (mkOrc_ok (bC.cs_ok F)) Try.func58 (by kernel_rfl) (by kernel_rfl) bC.ok (Nat.le_of_ble_eq_true (by kernel_rfl)) (bC.loops F) (Eq.trans (bC.eqX F aa ak bF iY H) h)
theorem bC.mk_T {F:Nat} {args:List AV} {H:Hp} {v:AV} {H':Hp} (h:bC.mk (bC.tw F) args H = some (v,H')):Go.AE.T Try.prog 58 args H v H':=by
 unfold bC.mk at h
 split at h
 ·exact bC.T h
 ·cases h
def ai.j8 (F:Nat) (aE:Sl→Int→Hp→OA) (cv:Sl→Int→Hp→OA) (cz:Int→Int→Hp→OA) (cA:Sl→Sl→Int→Int→Hp→OA) (C509_:Int→Nat→Nat→Nat→Nat→Sl→Sl→Sl→Int→Nat→Nat→Int→Hp→OA) (qT:Int) (Af:Nat) (ab3:Nat) (Ag:Nat) (ab4:Nat) (ab5:Sl) (ab6:Sl) (ab7:Sl) (qU:Int) (Ah:Nat) (ab8:Nat) (qV:Int) (H351:Hp):OA:=C509_ qT Af ab3 Ag ab4 ab5 ab6 ab7 qU Ah ab8 (IntKind.i64.wrap (qV + 1)) H351
def ai.j9 (F:Nat) (aE:Sl→Int→Hp→OA) (cv:Sl→Int→Hp→OA) (cz:Int→Int→Hp→OA) (cA:Sl→Sl→Int→Int→Hp→OA) (C509_:Int→Nat→Nat→Nat→Nat→Sl→Sl→Sl→Int→Nat→Nat→Int→Hp→OA) (qW:Int) (Ai:Nat) (ab9:Nat) (Aj:Nat) (ab_:Nat) (aca:Sl) (acb:Sl) (acd:Sl) (qX:Int) (Ak:Nat) (ace:Nat) (qY:Int) (H480:Hp):OA:=C509_ qW Ai ab9 Aj ab_ aca acb acd qX Ak ace (IntKind.i64.wrap (qY + 1)) H480
def ai.j10 (F:Nat) (aE:Sl→Int→Hp→OA) (cv:Sl→Int→Hp→OA) (cz:Int→Int→Hp→OA) (cA:Sl→Sl→Int→Int→Hp→OA) (C509_:Int→Nat→Nat→Nat→Nat→Sl→Sl→Sl→Int→Nat→Nat→Int→Hp→OA) (qZ:Int) (Al:Nat) (acf:Nat) (Am:Nat) (acg:Nat) (ach:Sl) (aci:Sl) (acj:Sl) (q_:Int) (An:Nat) (ack:Nat) (ra:Int) (H453:Hp):OA:=ai.j9 F aE cv cz cA C509_ qZ Al acf Am acg ach aci acj q_ An ack ra H453
def ai.j11 (F:Nat) (aE:Sl→Int→Hp→OA) (cv:Sl→Int→Hp→OA) (cz:Int→Int→Hp→OA) (cA:Sl→Sl→Int→Int→Hp→OA) (C509_:Int→Nat→Nat→Nat→Nat→Sl→Sl→Sl→Int→Nat→Nat→Int→Hp→OA) (mq:Int) (rb:Nat) (H_:Nat) (rc:Nat) (Ia:Nat) (Ib:Sl) (Ic:Sl) (Id:Sl) (iA:Int) (mr:Nat) (pz:Nat) (ms:Int) (oa:Int) (jQ:Int) (jR:Int) (H414:Hp):OA:=(bif (decide (jQ ≥ 0)) then ((bif (decide (jR ≥ 0)) then ((Hp.ldSl H414 mr (pz + 2)).bind fun s415=>(Hp.ldSl H414 mr (pz + 2)).bind fun s416=>(Sl.idx s416 (IntKind.i64.wrap ((IntKind.i64.wrap (jQ * iA)) + jR)) 1).bind fun p417=>(Hp.ldI H414 .i64 p417.1 p417.2).bind fun n418=>(Sl.idx s415 (IntKind.i64.wrap ((IntKind.i64.wrap (jQ * iA)) + jR)) 1).bind fun p419=>(Hp.st H414 p419.1 p419.2 (.int .i64 (IntKind.i64.wrap (n418 - oa)))).bind fun H420=>(Hp.ldSl H420 mr (pz + 2)).bind fun s421=>(Hp.ldSl H420 mr (pz + 2)).bind fun s422=>(Sl.idx s422 (IntKind.i64.wrap ((IntKind.i64.wrap (jR * iA)) + jQ)) 1).bind fun p423=>(Hp.ldI H420 .i64 p423.1 p423.2).bind fun n424=>(Sl.idx s421 (IntKind.i64.wrap ((IntKind.i64.wrap (jR * iA)) + jQ)) 1).bind fun p425=>(Hp.st H420 p425.1 p425.2 (.int .i64 (IntKind.i64.wrap (n424 - oa)))).bind fun H426=>ai.j10 F aE cv cz cA C509_ mq rb H_ rc Ia Ib Ic Id iA mr pz ms H426) else (ai.j10 F aE cv cz cA C509_ mq rb H_ rc Ia Ib Ic Id iA mr pz ms H414))) else (ai.j9 F aE cv cz cA C509_ mq rb H_ rc Ia Ib Ic Id iA mr pz ms H414))
def ai.j12 (F:Nat) (aE:Sl→Int→Hp→OA) (cv:Sl→Int→Hp→OA) (cz:Int→Int→Hp→OA) (cA:Sl→Sl→Int→Int→Hp→OA) (C509_:Int→Nat→Nat→Nat→Nat→Sl→Sl→Sl→Int→Nat→Nat→Int→Hp→OA) (ob:Int) (uj:Nat) (Nv:Nat) (uk:Nat) (Nw:Nat) (Nx:Sl) (Ny:Sl) (Nz:Sl) (kL:Int) (pA:Nat) (Ao:Nat) (oc:Int) (mu:Int) (od:Int) (iB:Int) (H382:Hp):OA:=(bif (decide (iB ≥ 0)) then ((Hp.ldSl H382 pA (Ao + 2)).bind fun s383=>(Hp.ldSl H382 pA (Ao + 2)).bind fun s384=>(Sl.idx s384 (IntKind.i64.wrap ((IntKind.i64.wrap (iB * kL)) + iB)) 1).bind fun p385=>(Hp.ldI H382 .i64 p385.1 p385.2).bind fun n386=>(Sl.idx s383 (IntKind.i64.wrap ((IntKind.i64.wrap (iB * kL)) + iB)) 1).bind fun p387=>(Hp.st H382 p387.1 p387.2 (.int .i64 (IntKind.i64.wrap (n386 + mu)))).bind fun H388=>ai.j11 F aE cv cz cA C509_ ob uj Nv uk Nw Nx Ny Nz kL pA Ao oc mu od iB H388) else (ai.j11 F aE cv cz cA C509_ ob uj Nv uk Nw Nx Ny Nz kL pA Ao oc mu od iB H382))
def ai.j13 (F:Nat) (aE:Sl→Int→Hp→OA) (cv:Sl→Int→Hp→OA) (cz:Int→Int→Hp→OA) (cA:Sl→Sl→Int→Int→Hp→OA) (C509_:Int→Nat→Nat→Nat→Nat→Sl→Sl→Sl→Int→Nat→Nat→Int→Hp→OA) (mv:Int) (rd:Nat) (Ie:Nat) (rh:Nat) (If:Nat) (ul:Sl) (Ig:Sl) (um:Sl) (jS:Int) (oe:Nat) (un:Nat) (jT:Int) (mw:Int) (og:Int) (H319:Hp):OA:=(Sl.idx ul (IntKind.i64.wrap ((IntKind.i64.wrap (4 * jT)) + og)) 1).bind fun p320=>(Hp.ldI H319 .i64 p320.1 p320.2).bind fun n321=>(Sl.idx um n321 1).bind fun p322=>(Hp.ldI H319 .i64 p322.1 p322.2).bind fun n323=>(Sl.idx ul (IntKind.i64.wrap ((IntKind.i64.wrap ((IntKind.i64.wrap (4 * jT)) + og)) + 2)) 1).bind fun p324=>(Hp.ldI H319 .i64 p324.1 p324.2).bind fun n325=>(Sl.idx um n325 1).bind fun p326=>(Hp.ldI H319 .i64 p326.1 p326.2).bind fun n327=>(bif (n323 == n327) then (ai.j8 F aE cv cz cA C509_ mv rd Ie rh If ul Ig um jS oe un jT H319) else ((bif (decide (n323 ≥ 0)) then ((Hp.ldSl H319 oe (un + 2)).bind fun s352=>(Hp.ldSl H319 oe (un + 2)).bind fun s353=>(Sl.idx s353 (IntKind.i64.wrap ((IntKind.i64.wrap (n323 * jS)) + n323)) 1).bind fun p354=>(Hp.ldI H319 .i64 p354.1 p354.2).bind fun n355=>(Sl.idx s352 (IntKind.i64.wrap ((IntKind.i64.wrap (n323 * jS)) + n323)) 1).bind fun p356=>(Hp.st H319 p356.1 p356.2 (.int .i64 (IntKind.i64.wrap (n355 + mw)))).bind fun H357=>ai.j12 F aE cv cz cA C509_ mv rd Ie rh If ul Ig um jS oe un jT mw n323 n327 H357) else (ai.j12 F aE cv cz cA C509_ mv rd Ie rh If ul Ig um jS oe un jT mw n323 n327 H319))))
def ai.l509 (F:Nat) (aE:Sl→Int→Hp→OA) (cv:Sl→Int→Hp→OA) (cz:Int→Int→Hp→OA) (cA:Sl→Sl→Int→Int→Hp→OA) :Nat→Int→Nat→Nat→Nat→Nat→Sl→Sl→Sl→Int→Nat→Nat→Int→Hp→OA
 | 0,_,_,_,_,_,_,_,_,_,_,_,_,_=>none
 | de + 1,dm,fi,iC,dU,fM,iZ,jp,ki,gU,hM,jU,eM,H93=>(Hp.ldSl H93 fi iC).bind fun s292=>(bif (decide (eM < (s292.n:Int))) then ((cA iZ jp eM dm H93).bind fun r293=>((r293.1).asI .i64).bind fun n294=>(Sl.idx iZ (IntKind.i64.wrap (4 * eM)) 1).bind fun p295=>(Hp.ldI r293.2 .i64 p295.1 p295.2).bind fun n296=>(Sl.idx jp n296 1).bind fun p297=>(Hp.ldI r293.2 .i64 p297.1 p297.2).bind fun n298=>(bif (n298 == dm) then (ai.j13 F aE cv cz cA (ai.l509 F aE cv cz cA de) dm fi iC dU fM iZ jp ki gU hM jU eM n294 1 r293.2) else (ai.j13 F aE cv cz cA (ai.l509 F aE cv cz cA de) dm fi iC dU fM iZ jp ki gU hM jU eM n294 0 r293.2))) else ((Hp.ldI H93 .i64 hM jU).bind fun n481=>(Hp.ldI H93 .i64 hM (jU + 1)).bind fun n482=>(Hp.ldSl H93 hM (jU + 2)).bind fun s483=>(Hp.st H93 dU fM (.int .i64 n481)).bind fun H484=>(Hp.st H484 dU (fM + 1) (.int .i64 n482)).bind fun H485=>(Hp.st H485 dU (fM + 1 + 1) (.sl s483)).bind fun H486=>(Hp.ldI H486 .i64 dU fM).bind fun n487=>(Hp.ldI H486 .i64 dU (fM + 1)).bind fun n488=>(Hp.ldSl H486 dU (fM + 2)).bind fun s489=>some ((.agg [(.int .i64 n487),(.int .i64 n488),(.sl s489)]),H486)))
termination_by structural n=>n
def ai.j14 (F:Nat) (aE:Sl→Int→Hp→OA) (cv:Sl→Int→Hp→OA) (cz:Int→Int→Hp→OA) (cA:Sl→Sl→Int→Int→Hp→OA) (ri:Int) (Ap:Nat) (acl:Nat) (Aq:Nat) (acm:Nat) (acn:Sl) (aco:Sl) (acp:Sl) (mx:Int) (H64:Hp):OA:=(cz mx mx H64).bind fun r65=>((r65.1).asAgg 3).bind fun l66=>(l66[0]?).bind fun v67=>((v67).asI .i64).bind fun n68=>(l66[1]?).bind fun v69=>((v69).asI .i64).bind fun n70=>(l66[2]?).bind fun v71=>((v71).asSl).bind fun s72=>(Hp.new r65.2 [.int .i64 0,.int .i64 0,.sl ⟨none,0,.ex 0⟩]).bind fun H73=>(Hp.st H73 r65.2.length 0 (.int .i64 n68)).bind fun H74=>(Hp.st H74 r65.2.length (0 + 1) (.int .i64 n70)).bind fun H75=>(Hp.st H75 r65.2.length (0 + 1 + 1) (.sl s72)).bind fun H76=>ai.l509 F aE cv cz cA F ri Ap acl Aq acm acn aco acp mx r65.2.length 0 0 H76
def ai.j15 (F:Nat) (aE:Sl→Int→Hp→OA) (cv:Sl→Int→Hp→OA) (cz:Int→Int→Hp→OA) (cA:Sl→Sl→Int→Int→Hp→OA) (C125_:Int→Nat→Nat→Nat→Nat→Sl→Sl→Sl→Int→Int→Hp→OA) (rj:Int) (Ar:Nat) (acq:Nat) (As:Nat) (acr:Nat) (acs:Sl) (act:Sl) (acu:Sl) (rl:Int) (rm:Int) (H509:Hp):OA:=C125_ rj Ar acq As acr acs act acu rl (IntKind.i64.wrap (rm + 1)) H509
def ai.l125 (F:Nat) (aE:Sl→Int→Hp→OA) (cv:Sl→Int→Hp→OA) (cz:Int→Int→Hp→OA) (cA:Sl→Sl→Int→Int→Hp→OA) :Nat→Int→Nat→Nat→Nat→Nat→Sl→Sl→Sl→Int→Int→Hp→OA
 | 0,_,_,_,_,_,_,_,_,_,_,_=>none
 | cX + 1,du,fN,i_,gB,da,dp,jq,kj,ev,fO,H27=>(bif (decide (fO < (jq.n:Int))) then ((Sl.idx jq fO 1).bind fun p490=>(Hp.ldI H27 .i64 p490.1 p490.2).bind fun n491=>(bif (n491 == du) then ((Hp.new H27 [(.int .i64 (-2))]).bind fun H492=>(Sl.row H492 (⟨some (H27.length,0),1,.ex 1⟩:Sl) 1).bind fun xs494=>(Hp.app H492 1 8 kj (⟨some (H27.length,0),1,.ex 1⟩:Sl).n xs494).bind fun a493=>ai.j15 F aE cv cz cA (ai.l125 F aE cv cz cA cX) du fN i_ gB da dp jq a493.1 ev fO a493.2) else ((Hp.new H27 [(.int .i64 ev)]).bind fun H510=>(Sl.row H510 (⟨some (H27.length,0),1,.ex 1⟩:Sl) 1).bind fun xs512=>(Hp.app H510 1 8 kj (⟨some (H27.length,0),1,.ex 1⟩:Sl).n xs512).bind fun a511=>ai.j15 F aE cv cz cA (ai.l125 F aE cv cz cA cX) du fN i_ gB da dp jq a511.1 (IntKind.i64.wrap (ev + 1)) fO a511.2))) else (ai.j14 F aE cv cz cA du fN i_ gB da dp jq kj ev H27))
termination_by structural n=>n
def ai.twX (F:Nat) (aE:Sl→Int→Hp→OA) (cv:Sl→Int→Hp→OA) (cz:Int→Int→Hp→OA) (cA:Sl→Sl→Int→Int→Hp→OA) (aa:Sl) (ab:Int) (au:Int) (H:Hp):OA:=(Hp.new H [(.sl aa),(.int .i64 ab)]).bind fun H4=>(Hp.new H4 [.int .i64 0,.int .i64 0,.sl ⟨none,0,.ex 0⟩]).bind fun H5=>(Hp.ldSl H5 H.length 0).bind fun s6=>(Hp.ldI H5 .i64 H.length (0 + 1)).bind fun n7=>(aE s6 n7 H5).bind fun r8=>((r8.1).asSl).bind fun s9=>(if Cons H5 r8.2 then ((Hp.ldSl r8.2 H.length 0).bind fun s10=>(Hp.ldI r8.2 .i64 H.length (0 + 1)).bind fun n11=>(cv s10 n11 r8.2).bind fun r12=>((r12.1).asSl).bind fun s13=>(Hp.new r12.2 []).bind fun H14=>ai.l125 F aE cv cz cA F au H.length 0 H4.length 0 s9 s13 (⟨some (r12.2.length,0),0,.ex 0⟩:Sl) (-1) 0 H14) else none)
def ai.tw (F:Nat) (aa:Sl) (ab:Int) (au:Int) (H:Hp):OA:=ai.twX F (aw.tw F) (ac.tw F) (bG.tw F) (bC.tw F) aa ab au H
def ai.code:Go.Code:=(Try.f30.body).getD .skip
def ai.lh125 (F:Nat) (aE:Sl→Int→Hp→OA) (cv:Sl→Int→Hp→OA) (cz:Int→Int→Hp→OA) (cA:Sl→Sl→Int→Int→Hp→OA) (ks:List Nat) (n:Nat) (tm:Tm) (H:Hp):OA:=match ks,tm 1,tm 2,tm 4,tm 5,tm 6,tm 7,tm 8,tm 9 with
 | [],(.int .i64 du),(.ptr fN i_),(.ptr gB da),(.sl dp),(.sl jq),(.sl kj),(.int .i64 ev),(.int .i64 fO)=>ai.l125 F aE cv cz cA n du fN i_ gB da dp jq kj ev fO H
 | _,_,_,_,_,_,_,_,_=>none
theorem ai.lh125_inv {F:Nat} {aE:Sl→Int→Hp→OA} {cv:Sl→Int→Hp→OA} {cz:Int→Int→Hp→OA} {cA:Sl→Sl→Int→Int→Hp→OA} {ks:List Nat} {n:Nat} {tm:Tm} {H:Hp} {r:AV×Hp} (h:ai.lh125 F aE cv cz cA ks n tm H = some r):∃ du:Int,∃ fN:Nat,∃ i_:Nat,∃ gB:Nat,∃ da:Nat,∃ dp:Sl,∃ jq:Sl,∃ kj:Sl,∃ ev:Int,∃ fO:Int,ks = []∧tm 1 = (.int .i64 du)∧tm 2 = (.ptr fN i_)∧tm 4 = (.ptr gB da)∧tm 5 = (.sl dp)∧tm 6 = (.sl jq)∧tm 7 = (.sl kj)∧tm 8 = (.int .i64 ev)∧tm 9 = (.int .i64 fO)∧ai.l125 F aE cv cz cA n du fN i_ gB da dp jq kj ev fO H = some r:=by
 unfold ai.lh125 at h
 split at h
 ·exact ⟨_,_,_,_,_,_,_,_,_,_,rfl,by assumption,by assumption,by assumption,by assumption,by assumption,by assumption,by assumption,by assumption,h⟩
 ·cases h
def ai.lh509 (F:Nat) (aE:Sl→Int→Hp→OA) (cv:Sl→Int→Hp→OA) (cz:Int→Int→Hp→OA) (cA:Sl→Sl→Int→Int→Hp→OA) (ks:List Nat) (n:Nat) (tm:Tm) (H:Hp):OA:=match ks,tm 1,tm 2,tm 4,tm 5,tm 6,tm 7,tm 8,tm 10,tm 11 with
 | [],(.int .i64 dm),(.ptr fi iC),(.ptr dU fM),(.sl iZ),(.sl jp),(.sl ki),(.int .i64 gU),(.ptr hM jU),(.int .i64 eM)=>ai.l509 F aE cv cz cA n dm fi iC dU fM iZ jp ki gU hM jU eM H
 | _,_,_,_,_,_,_,_,_,_=>none
theorem ai.lh509_inv {F:Nat} {aE:Sl→Int→Hp→OA} {cv:Sl→Int→Hp→OA} {cz:Int→Int→Hp→OA} {cA:Sl→Sl→Int→Int→Hp→OA} {ks:List Nat} {n:Nat} {tm:Tm} {H:Hp} {r:AV×Hp} (h:ai.lh509 F aE cv cz cA ks n tm H = some r):∃ dm:Int,∃ fi:Nat,∃ iC:Nat,∃ dU:Nat,∃ fM:Nat,∃ iZ:Sl,∃ jp:Sl,∃ ki:Sl,∃ gU:Int,∃ hM:Nat,∃ jU:Nat,∃ eM:Int,ks = []∧tm 1 = (.int .i64 dm)∧tm 2 = (.ptr fi iC)∧tm 4 = (.ptr dU fM)∧tm 5 = (.sl iZ)∧tm 6 = (.sl jp)∧tm 7 = (.sl ki)∧tm 8 = (.int .i64 gU)∧tm 10 = (.ptr hM jU)∧tm 11 = (.int .i64 eM)∧ai.l509 F aE cv cz cA n dm fi iC dU fM iZ jp ki gU hM jU eM H = some r:=by
 unfold ai.lh509 at h
 split at h
 ·exact ⟨_,_,_,_,_,_,_,_,_,_,_,_,rfl,by assumption,by assumption,by assumption,by assumption,by assumption,by assumption,by assumption,by assumption,by assumption,h⟩
 ·cases h
def ai.lh (F:Nat) (aE:Sl→Int→Hp→OA) (cv:Sl→Int→Hp→OA) (cz:Int→Int→Hp→OA) (cA:Sl→Sl→Int→Int→Hp→OA) (p:Nat) (ks:List Nat) (n:Nat) (tm:Tm) (H:Hp):OA:=bif p.beq 509 then ai.lh509 F aE cv cz cA ks n tm H else (bif p.beq 125 then ai.lh125 F aE cv cz cA ks n tm H else (none))
def ai.pn:Nat→List Nat:=fun i=>(([(1,[3]),(19,[]),(22,[19]),(24,[19]),(26,[19]),(27,[19])]:List (Nat×List Nat)).lookup i).getD []
def ai.tb:Nat→List (List Nat):=fun i=>(([(1,[[],[0],[],[0,1,2],[0,1,2,3],[0,1,2,3,4]]),(19,[[],[],[],[2],[],[2,3,4],[1,2,3,4,5],[1,2,3,4,5,6],[0,1,2,3,4,5,6,7],[0,1,2,3,4,5,6,7,8],[],[],[],[12],[],[12,13,14],[12,13,14,15],[11,12,13,14,15,16],[11,12,13,14,15,16,17],[10,11,12,13,14,15,16,17,18],[10,11,12,13,14,15,16,17,18,19],[0,1,2,3,4,5,6,7,8,9],[0,1,2,3,4,5,6,7,8,9,10,11,12,13,14,15,16,17,18,19,20,21]]),(22,[[],[0],[],[],[2,3],[],[2,3,4,5],[],[7],[],[],[9,10],[],[9,10,11,12],[7,8,9,10,11,12,13],[7,8,9,10,11,12,13,14],[],[7,8,9,10,11,12,13,14,15,16],[0,1,2,3,4,5,6,7,8,9,10,11,12,13,14,15,16,17],[0,1,2,3,4,5,6,7,8,9,10,11,12,13,14,15,16,17,18]]),(24,[[],[0],[],[],[2,3],[],[2,3,4,5],[],[7],[],[],[9,10],[],[9,10,11,12],[7,8,9,10,11,12,13],[7,8,9,10,11,12,13,14],[],[7,8,9,10,11,12,13,14,15,16],[0,1,2,3,4,5,6,7,8,9,10,11,12,13,14,15,16,17],[0,1,2,3,4,5,6,7,8,9,10,11,12,13,14,15,16,17,18]]),(26,[[],[0],[],[],[2,3],[],[2,3,4,5],[],[7],[],[],[9,10],[],[9,10,11,12],[7,8,9,10,11,12,13],[7,8,9,10,11,12,13,14],[],[7,8,9,10,11,12,13,14,15,16],[0,1,2,3,4,5,6,7,8,9,10,11,12,13,14,15,16,17],[0,1,2,3,4,5,6,7,8,9,10,11,12,13,14,15,16,17,18]]),(27,[[],[0],[],[],[2,3],[],[2,3,4,5],[],[7],[],[],[9,10],[],[9,10,11,12],[7,8,9,10,11,12,13],[7,8,9,10,11,12,13,14],[],[7,8,9,10,11,12,13,14,15,16],[0,1,2,3,4,5,6,7,8,9,10,11,12,13,14,15,16,17],[0,1,2,3,4,5,6,7,8,9,10,11,12,13,14,15,16,17,18]])]:List (Nat×List (List Nat))).lookup i).getD []
def ai.mk (g:Sl→Int→Int→Hp→OA) (args:List AV) (H:Hp):OA:=match args with
 | [(.agg [(.sl aa),(.int .i64 ab)]),(.int .i64 au)]=>g aa ab au H
 | _=>none
def ai.cs (F:Nat) (aE:Sl→Int→Hp→OA) (cv:Sl→Int→Hp→OA) (cz:Int→Int→Hp→OA) (cA:Sl→Sl→Int→Int→Hp→OA):List (FuncId×(List AV→Hp→OA)):=[(55,aw.mk aE),(56,ac.mk cv),(57,bG.mk cz),(58,bC.mk cA)]
theorem ai.loops (F:Nat) (aE:Sl→Int→Hp→OA) (cv:Sl→Int→Hp→OA) (cz:Int→Int→Hp→OA) (cA:Sl→Sl→Int→Int→Hp→OA):LoopsOk tabs (mkOrc (ai.cs F aE cv cz cA)) ai.pn (ai.lh F aE cv cz cA) F [] 1 ai.code (fun tm H=>aresults tabs.ty H tm Try.f30.results.toList fun v=>some (v,H)) (fun _ _ _=>none) (fun tm H=>aresults tabs.ty H tm Try.f30.results.toList fun v=>some (v,H)):=by
 refine LoopsOk.seq ?_ ?_
 ·exact loops_none (by kernel_rfl)
 ·refine LoopsOk.seq ?_ ?_
  ·exact loops_none (by kernel_rfl)
  ·refine LoopsOk.seq ?_ ?_
   ·exact loops_none (by kernel_rfl)
   ·refine LoopsOk.seq ?_ ?_
    ·exact loops_none (by kernel_rfl)
    ·refine LoopsOk.seq ?_ ?_
     ·refine LoopsOk.seq ?_ ?_
      ·exact loops_none (by kernel_rfl)
      ·refine LoopsOk.block ?_
       refine LoopsOk.loop (fun tm H=>?_) (fun k125 tm H r h0=>?_) (fun k125=>?_)
       ·refine none_of fun r h0=>?_
        obtain ⟨du,fN,i_,gB,da,dp,jq,kj,ev,fO,hks,e1,e2,e4,e5,e6,e7,e8,e9,h⟩:=ai.lh125_inv (show ai.lh125 F aE cv cz cA [] 0 tm H = some r from h0)
        cases h
       ·obtain ⟨du,fN,i_,gB,da,dp,jq,kj,ev,fO,hks,e1,e2,e4,e5,e6,e7,e8,e9,h⟩:=ai.lh125_inv (show ai.lh125 F aE cv cz cA [] (k125 + 1) tm H = some r from h0)
        have q0:(Tm.put tm 1 (.int .i64 du)) = tm:=by exact Tm.put_same e1
        have q1:(Tm.put (Tm.put tm 1 (.int .i64 du)) 2 (.ptr fN i_)) = tm:=by rw [q0]; exact Tm.put_same e2
        have q2:(Tm.put (Tm.put (Tm.put tm 1 (.int .i64 du)) 2 (.ptr fN i_)) 4 (.ptr gB da)) = tm:=by rw [q1]; exact Tm.put_same e4
        have q3:(Tm.put (Tm.put (Tm.put (Tm.put tm 1 (.int .i64 du)) 2 (.ptr fN i_)) 4 (.ptr gB da)) 5 (.sl dp)) = tm:=by rw [q2]; exact Tm.put_same e5
        have q4:(Tm.put (Tm.put (Tm.put (Tm.put (Tm.put tm 1 (.int .i64 du)) 2 (.ptr fN i_)) 4 (.ptr gB da)) 5 (.sl dp)) 6 (.sl jq)) = tm:=by rw [q3]; exact Tm.put_same e6
        have q5:(Tm.put (Tm.put (Tm.put (Tm.put (Tm.put (Tm.put tm 1 (.int .i64 du)) 2 (.ptr fN i_)) 4 (.ptr gB da)) 5 (.sl dp)) 6 (.sl jq)) 7 (.sl kj)) = tm:=by rw [q4]; exact Tm.put_same e7
        have q6:(Tm.put (Tm.put (Tm.put (Tm.put (Tm.put (Tm.put (Tm.put tm 1 (.int .i64 du)) 2 (.ptr fN i_)) 4 (.ptr gB da)) 5 (.sl dp)) 6 (.sl jq)) 7 (.sl kj)) 8 (.int .i64 ev)) = tm:=by rw [q5]; exact Tm.put_same e8
        have q7:(Tm.put (Tm.put (Tm.put (Tm.put (Tm.put (Tm.put (Tm.put (Tm.put tm 1 (.int .i64 du)) 2 (.ptr fN i_)) 4 (.ptr gB da)) 5 (.sl dp)) 6 (.sl jq)) 7 (.sl kj)) 8 (.int .i64 ev)) 9 (.int .i64 fO)) = tm:=by rw [q6]; exact Tm.put_same e9
        rw [← q7]
        exact Eq.trans (by kernel_rfl) h
       ·exact loops_none (by kernel_rfl)
     ·refine LoopsOk.seq ?_ ?_
      ·exact loops_none (by kernel_rfl)
      ·refine LoopsOk.seq ?_ ?_
       ·refine LoopsOk.seq ?_ ?_
        ·exact loops_none (by kernel_rfl)
        ·refine LoopsOk.block ?_
         refine LoopsOk.loop (fun tm H=>?_) (fun k509 tm H r h0=>?_) (fun k509=>?_)
         ·refine none_of fun r h0=>?_
          obtain ⟨dm,fi,iC,dU,fM,iZ,jp,ki,gU,hM,jU,eM,hks,e1,e2,e4,e5,e6,e7,e8,e10,e11,h⟩:=ai.lh509_inv (show ai.lh509 F aE cv cz cA [] 0 tm H = some r from h0)
          cases h
         ·obtain ⟨dm,fi,iC,dU,fM,iZ,jp,ki,gU,hM,jU,eM,hks,e1,e2,e4,e5,e6,e7,e8,e10,e11,h⟩:=ai.lh509_inv (show ai.lh509 F aE cv cz cA [] (k509 + 1) tm H = some r from h0)
          have q0:(Tm.put tm 1 (.int .i64 dm)) = tm:=by exact Tm.put_same e1
          have q1:(Tm.put (Tm.put tm 1 (.int .i64 dm)) 2 (.ptr fi iC)) = tm:=by rw [q0]; exact Tm.put_same e2
          have q2:(Tm.put (Tm.put (Tm.put tm 1 (.int .i64 dm)) 2 (.ptr fi iC)) 4 (.ptr dU fM)) = tm:=by rw [q1]; exact Tm.put_same e4
          have q3:(Tm.put (Tm.put (Tm.put (Tm.put tm 1 (.int .i64 dm)) 2 (.ptr fi iC)) 4 (.ptr dU fM)) 5 (.sl iZ)) = tm:=by rw [q2]; exact Tm.put_same e5
          have q4:(Tm.put (Tm.put (Tm.put (Tm.put (Tm.put tm 1 (.int .i64 dm)) 2 (.ptr fi iC)) 4 (.ptr dU fM)) 5 (.sl iZ)) 6 (.sl jp)) = tm:=by rw [q3]; exact Tm.put_same e6
          have q5:(Tm.put (Tm.put (Tm.put (Tm.put (Tm.put (Tm.put tm 1 (.int .i64 dm)) 2 (.ptr fi iC)) 4 (.ptr dU fM)) 5 (.sl iZ)) 6 (.sl jp)) 7 (.sl ki)) = tm:=by rw [q4]; exact Tm.put_same e7
          have q6:(Tm.put (Tm.put (Tm.put (Tm.put (Tm.put (Tm.put (Tm.put tm 1 (.int .i64 dm)) 2 (.ptr fi iC)) 4 (.ptr dU fM)) 5 (.sl iZ)) 6 (.sl jp)) 7 (.sl ki)) 8 (.int .i64 gU)) = tm:=by rw [q5]; exact Tm.put_same e8
          have q7:(Tm.put (Tm.put (Tm.put (Tm.put (Tm.put (Tm.put (Tm.put (Tm.put tm 1 (.int .i64 dm)) 2 (.ptr fi iC)) 4 (.ptr dU fM)) 5 (.sl iZ)) 6 (.sl jp)) 7 (.sl ki)) 8 (.int .i64 gU)) 10 (.ptr hM jU)) = tm:=by rw [q6]; exact Tm.put_same e10
          have q8:(Tm.put (Tm.put (Tm.put (Tm.put (Tm.put (Tm.put (Tm.put (Tm.put (Tm.put tm 1 (.int .i64 dm)) 2 (.ptr fi iC)) 4 (.ptr dU fM)) 5 (.sl iZ)) 6 (.sl jp)) 7 (.sl ki)) 8 (.int .i64 gU)) 10 (.ptr hM jU)) 11 (.int .i64 eM)) = tm:=by rw [q7]; exact Tm.put_same e11
          rw [← q8]
          exact Eq.trans (by kernel_rfl) h
         ·exact loops_none (by kernel_rfl)
       ·exact loops_none (by kernel_rfl)
theorem ai.eqX (F:Nat) (aE:Sl→Int→Hp→OA) (cv:Sl→Int→Hp→OA) (cz:Int→Int→Hp→OA) (cA:Sl→Sl→Int→Int→Hp→OA) (aa:Sl) (ab:Int) (au:Int) (H:Hp):aCode tabs (mkOrc (ai.cs F aE cv cz cA)) ai.pn (ai.lh F aE cv cz cA) F [] 1 ai.code (argTm [(.agg [(.sl aa),(.int .i64 ab)]),(.int .i64 au)]) H (fun tm H=>aresults tabs.ty H tm Try.f30.results.toList fun v=>some (v,H)) (fun _ _ _=>none) (fun tm H=>aresults tabs.ty H tm Try.f30.results.toList fun v=>some (v,H)) = ai.twX F aE cv cz cA aa ab au H:=by kernel_rfl
theorem ai.cs_ok (F:Nat):∀ p ∈ ai.cs F (aw.tw F) (ac.tw F) (bG.tw F) (bC.tw F),∀ args H v H',p.2 args H = some (v,H')→Go.AE.T Try.prog p.1 args H v H':=by
 intro p hp
 simp only [ai.cs,List.mem_cons,List.not_mem_nil,or_false] at hp
 rcases hp with rfl | rfl | rfl | rfl
 ·exact fun args H v H' h=>aw.mk_T h
 ·exact fun args H v H' h=>ac.mk_T h
 ·exact fun args H v H' h=>bG.mk_T h
 ·exact fun args H v H' h=>bC.mk_T h
theorem ai.ok:codeOk ai.pn Try.f30.ntmps ai.tb ai.code = true:=by kernel_rfl
theorem ai.T {F:Nat} {aa:Sl} {ab:Int} {au:Int} {H:Hp} {v:AV} {H':Hp} (h:ai.tw F aa ab au H = some (v,H')):Go.AE.T Try.prog 30 [(.agg [(.sl aa),(.int .i64 ab)]),(.int .i64 au)] H v H':=
 Go.AE.T.of (Y:=tabs) (C:=mkOrc (ai.cs F (aw.tw F) (ac.tw F) (bG.tw F) (bC.tw F))) (PN:=ai.pn) (LH:=ai.lh F (aw.tw F) (ac.tw F) (bG.tw F) (bC.tw F)) (F:=F) (TB:=ai.tb) (fn:=Try.f30) (code:=ai.code) mixed tabs_ok (mkOrc_ok (ai.cs_ok F)) Try.func30 (by kernel_rfl) (by kernel_rfl) ai.ok (Nat.le_of_ble_eq_true (by kernel_rfl)) (ai.loops F (aw.tw F) (ac.tw F) (bG.tw F) (bC.tw F)) (Eq.trans (ai.eqX F (aw.tw F) (ac.tw F) (bG.tw F) (bC.tw F) aa ab au H) h)
theorem ai.mk_T {F:Nat} {args:List AV} {H:Hp} {v:AV} {H':Hp} (h:ai.mk (ai.tw F) args H = some (v,H')):Go.AE.T Try.prog 30 args H v H':=by
 unfold ai.mk at h
 split at h
 ·exact ai.T h
 ·cases h
def a_.twX (F:Nat) (aa:Int) (ab:Int) (ax:Sl) (aB:Int) (aV:Int) (H:Hp):OA:=(Hp.new H [(.int .i64 aa),(.int .i64 ab),(.sl ax)]).bind fun H6=>(Hp.ldSl H6 H.length 2).bind fun s7=>(Hp.ldI H6 .i64 H.length 1).bind fun n8=>(Sl.idx s7 (IntKind.i64.wrap ((IntKind.i64.wrap (aB * n8)) + aV)) 1).bind fun p9=>(Hp.ldI H6 .i64 p9.1 p9.2).bind fun n10=>some ((.int .i64 n10),H6)
def a_.tw (F:Nat) (aa:Int) (ab:Int) (ax:Sl) (aB:Int) (aV:Int) (H:Hp):OA:=a_.twX F aa ab ax aB aV H
def a_.code:Go.Code:=(Try.f53.body).getD .skip
def a_.lh (F:Nat) (p:Nat) (ks:List Nat) (n:Nat) (tm:Tm) (H:Hp):OA:=none
def a_.pn:Nat→List Nat:=fun i=>(([]:List (Nat×List Nat)).lookup i).getD []
def a_.tb:Nat→List (List Nat):=fun i=>(([]:List (Nat×List (List Nat))).lookup i).getD []
def a_.mk (g:Int→Int→Sl→Int→Int→Hp→OA) (args:List AV) (H:Hp):OA:=match args with
 | [(.agg [(.int .i64 aa),(.int .i64 ab),(.sl ax)]),(.int .i64 aB),(.int .i64 aV)]=>g aa ab ax aB aV H
 | _=>none
def a_.cs (F:Nat):List (FuncId×(List AV→Hp→OA)):=[]
theorem a_.loops (F:Nat):LoopsOk tabs (mkOrc (a_.cs F)) a_.pn (a_.lh F) F [] 1 a_.code (fun tm H=>aresults tabs.ty H tm Try.f53.results.toList fun v=>some (v,H)) (fun _ _ _=>none) (fun tm H=>aresults tabs.ty H tm Try.f53.results.toList fun v=>some (v,H)):=by
 exact loops_none (by kernel_rfl)
theorem a_.eqX (F:Nat) (aa:Int) (ab:Int) (ax:Sl) (aB:Int) (aV:Int) (H:Hp):aCode tabs (mkOrc (a_.cs F)) a_.pn (a_.lh F) F [] 1 a_.code (argTm [(.agg [(.int .i64 aa),(.int .i64 ab),(.sl ax)]),(.int .i64 aB),(.int .i64 aV)]) H (fun tm H=>aresults tabs.ty H tm Try.f53.results.toList fun v=>some (v,H)) (fun _ _ _=>none) (fun tm H=>aresults tabs.ty H tm Try.f53.results.toList fun v=>some (v,H)) = a_.twX F aa ab ax aB aV H:=by kernel_rfl
theorem a_.cs_ok (F:Nat):∀ p ∈ a_.cs F,∀ args H v H',p.2 args H = some (v,H')→Go.AE.T Try.prog p.1 args H v H':=by
 intro p hp
 exact absurd (show p ∈ [] from hp) List.not_mem_nil
theorem a_.ok:codeOk a_.pn Try.f53.ntmps a_.tb a_.code = true:=by kernel_rfl
theorem a_.T {F:Nat} {aa:Int} {ab:Int} {ax:Sl} {aB:Int} {aV:Int} {H:Hp} {v:AV} {H':Hp} (h:a_.tw F aa ab ax aB aV H = some (v,H')):Go.AE.T Try.prog 53 [(.agg [(.int .i64 aa),(.int .i64 ab),(.sl ax)]),(.int .i64 aB),(.int .i64 aV)] H v H':=
 Go.AE.T.of (Y:=tabs) (C:=mkOrc (a_.cs F)) (PN:=a_.pn) (LH:=a_.lh F) (F:=F) (TB:=a_.tb) (fn:=Try.f53) (code:=a_.code) mixed tabs_ok (mkOrc_ok (a_.cs_ok F)) Try.func53 (by kernel_rfl) (by kernel_rfl) a_.ok (Nat.le_of_ble_eq_true (by kernel_rfl)) (a_.loops F) (Eq.trans (a_.eqX F aa ab ax aB aV H) h)
theorem a_.mk_T {F:Nat} {args:List AV} {H:Hp} {v:AV} {H':Hp} (h:a_.mk (a_.tw F) args H = some (v,H')):Go.AE.T Try.prog 53 args H v H':=by
 unfold a_.mk at h
 split at h
 ·exact a_.T h
 ·cases h
def aY.l7 (F:Nat) (aP:Int→Int→Sl→Int→Int→Hp→OA) :Nat→Int→Int→Nat→Nat→Int→Hp→OA
 | 0,_,_,_,_,_,_=>none
 | At + 1,bQ,fP,bp,cL,ed,H15=>(Hp.ldI H15 .i64 bp (cL + 1)).bind fun n35=>(bif (decide (ed < n35)) then ((Hp.ldI H15 .i64 bp cL).bind fun n36=>(Hp.ldI H15 .i64 bp (cL + 1)).bind fun n37=>(Hp.ldSl H15 bp (cL + 2)).bind fun s38=>(aP n36 n37 s38 bQ ed H15).bind fun r39=>((r39.1).asI .i64).bind fun n40=>(Hp.ldSl r39.2 bp (cL + 2)).bind fun s41=>(Hp.ldI r39.2 .i64 bp (cL + 1)).bind fun n42=>(Hp.ldI r39.2 .i64 bp cL).bind fun n43=>(Hp.ldI r39.2 .i64 bp (cL + 1)).bind fun n44=>(Hp.ldSl r39.2 bp (cL + 2)).bind fun s45=>(aP n43 n44 s45 fP ed r39.2).bind fun r46=>((r46.1).asI .i64).bind fun n47=>(if Cons r39.2 r46.2 then ((Sl.idx s41 (IntKind.i64.wrap ((IntKind.i64.wrap (bQ * n42)) + ed)) 1).bind fun p48=>(Hp.st r46.2 p48.1 p48.2 (.int .i64 n47)).bind fun H49=>(Hp.ldSl H49 bp (cL + 2)).bind fun s50=>(Hp.ldI H49 .i64 bp (cL + 1)).bind fun n51=>(Sl.idx s50 (IntKind.i64.wrap ((IntKind.i64.wrap (fP * n51)) + ed)) 1).bind fun p52=>(Hp.st H49 p52.1 p52.2 (.int .i64 n40)).bind fun H53=>aY.l7 F aP At bQ fP bp cL (IntKind.i64.wrap (ed + 1)) H53) else none)) else (some ((.tup []),H15)))
termination_by structural n=>n
def aY.twX (F:Nat) (aP:Int→Int→Sl→Int→Int→Hp→OA) (aa:Int) (ab:Int) (ax:Sl) (aB:Int) (aV:Int) (H:Hp):OA:=(Hp.new H [(.int .i64 aa),(.int .i64 ab),(.sl ax)]).bind fun H6=>aY.l7 F aP F aB aV H.length 0 0 H6
def aY.tw (F:Nat) (aa:Int) (ab:Int) (ax:Sl) (aB:Int) (aV:Int) (H:Hp):OA:=aY.twX F (a_.tw F) aa ab ax aB aV H
def aY.code:Go.Code:=(Try.f54.body).getD .skip
def aY.lh7 (F:Nat) (aP:Int→Int→Sl→Int→Int→Hp→OA) (ks:List Nat) (n:Nat) (tm:Tm) (H:Hp):OA:=match ks,tm 1,tm 2,tm 3,tm 6 with
 | [],(.int .i64 bQ),(.int .i64 fP),(.ptr bp cL),(.int .i64 ed)=>aY.l7 F aP n bQ fP bp cL ed H
 | _,_,_,_,_=>none
theorem aY.lh7_inv {F:Nat} {aP:Int→Int→Sl→Int→Int→Hp→OA} {ks:List Nat} {n:Nat} {tm:Tm} {H:Hp} {r:AV×Hp} (h:aY.lh7 F aP ks n tm H = some r):∃ bQ:Int,∃ fP:Int,∃ bp:Nat,∃ cL:Nat,∃ ed:Int,ks = []∧tm 1 = (.int .i64 bQ)∧tm 2 = (.int .i64 fP)∧tm 3 = (.ptr bp cL)∧tm 6 = (.int .i64 ed)∧aY.l7 F aP n bQ fP bp cL ed H = some r:=by
 unfold aY.lh7 at h
 split at h
 ·exact ⟨_,_,_,_,_,rfl,by assumption,by assumption,by assumption,by assumption,h⟩
 ·cases h
def aY.lh (F:Nat) (aP:Int→Int→Sl→Int→Int→Hp→OA) (p:Nat) (ks:List Nat) (n:Nat) (tm:Tm) (H:Hp):OA:=bif p.beq 7 then aY.lh7 F aP ks n tm H else (none)
def aY.pn:Nat→List Nat:=fun i=>(([(5,[13])]:List (Nat×List Nat)).lookup i).getD []
def aY.tb:Nat→List (List Nat):=fun i=>(([(5,[[],[0],[],[],[3],[2,3,4],[],[2,3,4,5,6],[],[],[],[8,9,10],[0,1,2,3,4,5,6,7,8,9,10,11],[0,1,2,3,4,5,6,7,8,9,10,11,12]])]:List (Nat×List (List Nat))).lookup i).getD []
def aY.mk (g:Int→Int→Sl→Int→Int→Hp→OA) (args:List AV) (H:Hp):OA:=match args with
 | [(.agg [(.int .i64 aa),(.int .i64 ab),(.sl ax)]),(.int .i64 aB),(.int .i64 aV)]=>g aa ab ax aB aV H
 | _=>none
def aY.cs (F:Nat) (aP:Int→Int→Sl→Int→Int→Hp→OA):List (FuncId×(List AV→Hp→OA)):=[(53,a_.mk aP)]
theorem aY.loops (F:Nat) (aP:Int→Int→Sl→Int→Int→Hp→OA):LoopsOk tabs (mkOrc (aY.cs F aP)) aY.pn (aY.lh F aP) F [] 1 aY.code (fun tm H=>aresults tabs.ty H tm Try.f54.results.toList fun v=>some (v,H)) (fun _ _ _=>none) (fun tm H=>aresults tabs.ty H tm Try.f54.results.toList fun v=>some (v,H)):=by
 refine LoopsOk.seq ?_ ?_
 ·exact loops_none (by kernel_rfl)
 ·refine LoopsOk.seq ?_ ?_
  ·exact loops_none (by kernel_rfl)
  ·refine LoopsOk.block ?_
   refine LoopsOk.loop (fun tm H=>?_) (fun k7 tm H r h0=>?_) (fun k7=>?_)
   ·refine none_of fun r h0=>?_
    obtain ⟨bQ,fP,bp,cL,ed,hks,e1,e2,e3,e6,h⟩:=aY.lh7_inv (show aY.lh7 F aP [] 0 tm H = some r from h0)
    cases h
   ·obtain ⟨bQ,fP,bp,cL,ed,hks,e1,e2,e3,e6,h⟩:=aY.lh7_inv (show aY.lh7 F aP [] (k7 + 1) tm H = some r from h0)
    have q0:(Tm.put tm 1 (.int .i64 bQ)) = tm:=by exact Tm.put_same e1
    have q1:(Tm.put (Tm.put tm 1 (.int .i64 bQ)) 2 (.int .i64 fP)) = tm:=by rw [q0]; exact Tm.put_same e2
    have q2:(Tm.put (Tm.put (Tm.put tm 1 (.int .i64 bQ)) 2 (.int .i64 fP)) 3 (.ptr bp cL)) = tm:=by rw [q1]; exact Tm.put_same e3
    have q3:(Tm.put (Tm.put (Tm.put (Tm.put tm 1 (.int .i64 bQ)) 2 (.int .i64 fP)) 3 (.ptr bp cL)) 6 (.int .i64 ed)) = tm:=by rw [q2]; exact Tm.put_same e6
    rw [← q3]
    exact Eq.trans (by kernel_rfl) h
   ·exact loops_none (by kernel_rfl)
theorem aY.eqX (F:Nat) (aP:Int→Int→Sl→Int→Int→Hp→OA) (aa:Int) (ab:Int) (ax:Sl) (aB:Int) (aV:Int) (H:Hp):aCode tabs (mkOrc (aY.cs F aP)) aY.pn (aY.lh F aP) F [] 1 aY.code (argTm [(.agg [(.int .i64 aa),(.int .i64 ab),(.sl ax)]),(.int .i64 aB),(.int .i64 aV)]) H (fun tm H=>aresults tabs.ty H tm Try.f54.results.toList fun v=>some (v,H)) (fun _ _ _=>none) (fun tm H=>aresults tabs.ty H tm Try.f54.results.toList fun v=>some (v,H)) = aY.twX F aP aa ab ax aB aV H:=by kernel_rfl
theorem aY.cs_ok (F:Nat):∀ p ∈ aY.cs F (a_.tw F),∀ args H v H',p.2 args H = some (v,H')→Go.AE.T Try.prog p.1 args H v H':=by
 intro p hp
 simp only [aY.cs,List.mem_cons,List.not_mem_nil,or_false] at hp
 subst hp
 exact fun args H v H' h=>a_.mk_T h
theorem aY.ok:codeOk aY.pn Try.f54.ntmps aY.tb aY.code = true:=by kernel_rfl
theorem aY.T {F:Nat} {aa:Int} {ab:Int} {ax:Sl} {aB:Int} {aV:Int} {H:Hp} {v:AV} {H':Hp} (h:aY.tw F aa ab ax aB aV H = some (v,H')):Go.AE.T Try.prog 54 [(.agg [(.int .i64 aa),(.int .i64 ab),(.sl ax)]),(.int .i64 aB),(.int .i64 aV)] H v H':=
 Go.AE.T.of (Y:=tabs) (C:=mkOrc (aY.cs F (a_.tw F))) (PN:=aY.pn) (LH:=aY.lh F (a_.tw F)) (F:=F) (TB:=aY.tb) (fn:=Try.f54) (code:=aY.code) mixed tabs_ok (mkOrc_ok (aY.cs_ok F)) Try.func54 (by kernel_rfl) (by kernel_rfl) aY.ok (Nat.le_of_ble_eq_true (by kernel_rfl)) (aY.loops F (a_.tw F)) (Eq.trans (aY.eqX F (a_.tw F) aa ab ax aB aV H) h)
theorem aY.mk_T {F:Nat} {args:List AV} {H:Hp} {v:AV} {H':Hp} (h:aY.mk (aY.tw F) args H = some (v,H')):Go.AE.T Try.prog 54 args H v H':=by
 unfold aY.mk at h
 split at h
 ·exact aY.T h
 ·cases h
def ah.j9 (F:Nat) (aP:Int→Int→Sl→Int→Int→Hp→OA) (bu:Int→Int→Sl→Int→Int→Hp→OA) (rn:Int) (ro:Int) (H389:Hp):OA:=some ((.int .i64 (IntKind.i64.wrap (rn * ro))),H389)
def ah.j12 (F:Nat) (aP:Int→Int→Sl→Int→Int→Hp→OA) (bu:Int→Int→Sl→Int→Int→Hp→OA) (C125_:Int→Nat→Nat→Int→Int→Int→Hp→OA) (rp:Int) (Au:Nat) (acv:Nat) (rq:Int) (rr:Int) (rs:Int) (H622:Hp):OA:=C125_ rp Au acv rq rr (IntKind.i64.wrap (rs + 1)) H622
def ah.j13 (F:Nat) (aP:Int→Int→Sl→Int→Int→Hp→OA) (bu:Int→Int→Sl→Int→Int→Hp→OA) (C125_:Int→Nat→Nat→Int→Int→Int→Hp→OA) (rt:Int) (pB:Nat) (Av:Nat) (ru:Int) (mz:Int) (H597:Hp):OA:=(Hp.ldI H597 .i64 pB Av).bind fun n598=>(Hp.ldI H597 .i64 pB (Av + 1)).bind fun n599=>(Hp.ldSl H597 pB (Av + 2)).bind fun s600=>(aP n598 n599 s600 mz mz H597).bind fun r601=>((r601.1).asI .i64).bind fun n602=>ah.j12 F aP bu C125_ rt pB Av ru n602 mz r601.2
def ah.j14 (F:Nat) (aP:Int→Int→Sl→Int→Int→Hp→OA) (bu:Int→Int→Sl→Int→Int→Hp→OA) (C64189_:Int→Nat→Nat→Int→Int→Int→Int→Hp→OA) (rv:Int) (Aw:Nat) (acw:Nat) (rx:Int) (ry:Int) (rz:Int) (rA:Int) (H710:Hp):OA:=C64189_ rv Aw acw rx ry rz (IntKind.i64.wrap (rA + 1)) H710
def ah.j15 (F:Nat) (aP:Int→Int→Sl→Int→Int→Hp→OA) (bu:Int→Int→Sl→Int→Int→Hp→OA) (C64189_:Int→Nat→Nat→Int→Int→Int→Int→Hp→OA) (rB:Int) (Ax:Nat) (acx:Nat) (rC:Int) (rD:Int) (rE:Int) (rF:Int) (H688:Hp):OA:=ah.j14 F aP bu C64189_ rB Ax acx rC rD rE rF H688
def ah.l1027029 (F:Nat) (aP:Int→Int→Sl→Int→Int→Hp→OA) (bu:Int→Int→Sl→Int→Int→Hp→OA) (C125_:Int→Nat→Nat→Int→Int→Int→Hp→OA) (C64189_:Int→Nat→Nat→Int→Int→Int→Int→Hp→OA):Nat→Int→Nat→Nat→Int→Int→Int→Int→Int→Hp→OA
 | 0,_,_,_,_,_,_,_,_,_=>none
 | acy + 1,dA,df,dB,fQ,ew,dC,ey,eN,H643=>(bif (decide (eN < dA)) then ((Hp.ldSl H643 df (dB + 2)).bind fun s711=>(Hp.ldI H643 .i64 df dB).bind fun n712=>(Hp.ldI H643 .i64 df (dB + 1)).bind fun n713=>(Hp.ldSl H643 df (dB + 2)).bind fun s714=>(aP n712 n713 s714 ey eN H643).bind fun r715=>((r715.1).asI .i64).bind fun n716=>(if Cons H643 r715.2 then ((Hp.ldI r715.2 .i64 df dB).bind fun n717=>(Hp.ldI r715.2 .i64 df (dB + 1)).bind fun n718=>(Hp.ldSl r715.2 df (dB + 2)).bind fun s719=>(aP n717 n718 s719 dC dC r715.2).bind fun r720=>((r720.1).asI .i64).bind fun n721=>(if Cons r715.2 r720.2 then ((Hp.ldI r720.2 .i64 df dB).bind fun n722=>(Hp.ldI r720.2 .i64 df (dB + 1)).bind fun n723=>(Hp.ldSl r720.2 df (dB + 2)).bind fun s724=>(aP n722 n723 s724 ey dC r720.2).bind fun r725=>((r725.1).asI .i64).bind fun n726=>(if Cons r720.2 r725.2 then ((Hp.ldI r725.2 .i64 df dB).bind fun n727=>(Hp.ldI r725.2 .i64 df (dB + 1)).bind fun n728=>(Hp.ldSl r725.2 df (dB + 2)).bind fun s729=>(aP n727 n728 s729 dC eN r725.2).bind fun r730=>((r730.1).asI .i64).bind fun n731=>(if Cons r725.2 r730.2 then ((if ew = 0 then none else ((Sl.idx s711 (IntKind.i64.wrap ((IntKind.i64.wrap (ey * dA)) + eN)) 1).bind fun p732=>(Hp.st r730.2 p732.1 p732.2 (.int .i64 (IntKind.i64.wrap (Int.tdiv (IntKind.i64.wrap ((IntKind.i64.wrap (n716 * n721)) - (IntKind.i64.wrap (n726 * n731)))) ew)))).bind fun H733=>ah.l1027029 F aP bu C125_ C64189_ acy dA df dB fQ ew dC ey (IntKind.i64.wrap (eN + 1)) H733))) else none)) else none)) else none)) else none)) else (ah.j15 F aP bu C64189_ dA df dB fQ ew dC ey H643))
termination_by structural n=>n
def ah.l64189 (F:Nat) (aP:Int→Int→Sl→Int→Int→Hp→OA) (bu:Int→Int→Sl→Int→Int→Hp→OA) (C125_:Int→Nat→Nat→Int→Int→Int→Hp→OA):Nat→Int→Nat→Nat→Int→Int→Int→Int→Hp→OA
 | 0,_,_,_,_,_,_,_,_=>none
 | mU + 1,ez,hO,jV,gC,iD,gD,iE,H466=>(bif (decide (iE < ez)) then (ah.l1027029 F aP bu C125_ (ah.l64189 F aP bu C125_ mU) F ez hO jV gC iD gD iE (IntKind.i64.wrap (gD + 1)) H466) else (ah.j13 F aP bu C125_ ez hO jV gC gD H466))
termination_by structural n=>n
def ah.j16 (F:Nat) (aP:Int→Int→Sl→Int→Int→Hp→OA) (bu:Int→Int→Sl→Int→Int→Hp→OA) (C125_:Int→Nat→Nat→Int→Int→Int→Hp→OA) (rG:Int) (Ay:Nat) (acz:Nat) (rH:Int) (rI:Int) (oh:Int) (H447:Hp):OA:=ah.l64189 F aP bu C125_ F rG Ay acz rH rI oh (IntKind.i64.wrap (oh + 1)) H447
def ah.j17 (F:Nat) (aP:Int→Int→Sl→Int→Int→Hp→OA) (bu:Int→Int→Sl→Int→Int→Hp→OA) (C125_:Int→Nat→Nat→Int→Int→Int→Hp→OA) (mA:Int) (oi:Nat) (uo:Nat) (oj:Int) (ol:Int) (kM:Int) (mB:Int) (H425:Hp):OA:=(bif (mB == mA) then (some ((.int .i64 0),H425)) else ((bif (mB != kM) then ((Hp.ldI H425 .i64 oi uo).bind fun n426=>(Hp.ldI H425 .i64 oi (uo + 1)).bind fun n427=>(Hp.ldSl H425 oi (uo + 2)).bind fun s428=>(bu n426 n427 s428 mB kM H425).bind fun r429=>ah.j16 F aP bu C125_ mA oi uo (IntKind.i64.wrap (0 - oj)) ol kM r429.2) else (ah.j16 F aP bu C125_ mA oi uo oj ol kM H425))))
def ah.l4010 (F:Nat) (aP:Int→Int→Sl→Int→Int→Hp→OA) (bu:Int→Int→Sl→Int→Int→Hp→OA) (C125_:Int→Nat→Nat→Int→Int→Int→Hp→OA):Nat→Int→Nat→Nat→Int→Int→Int→Int→Hp→OA
 | 0,_,_,_,_,_,_,_,_=>none
 | acA + 1,dV,fj,iF,fk,fR,fm,eO,H404=>(bif (decide (eO < dV)) then ((Hp.ldI H404 .i64 fj iF).bind fun n734=>(Hp.ldI H404 .i64 fj (iF + 1)).bind fun n735=>(Hp.ldSl H404 fj (iF + 2)).bind fun s736=>(aP n734 n735 s736 eO fm H404).bind fun r737=>((r737.1).asI .i64).bind fun n738=>(bif (n738 == 0) then (ah.l4010 F aP bu C125_ acA dV fj iF fk fR fm (IntKind.i64.wrap (eO + 1)) r737.2) else (ah.j17 F aP bu C125_ dV fj iF fk fR fm eO r737.2))) else (ah.j17 F aP bu C125_ dV fj iF fk fR fm eO H404))
termination_by structural n=>n
def ah.l125 (F:Nat) (aP:Int→Int→Sl→Int→Int→Hp→OA) (bu:Int→Int→Sl→Int→Int→Hp→OA) :Nat→Int→Nat→Nat→Int→Int→Int→Hp→OA
 | 0,_,_,_,_,_,_,_=>none
 | cX + 1,cT,da,kN,gV,hP,gW,H26=>(bif (decide (gW < cT)) then (ah.l4010 F aP bu (ah.l125 F aP bu cX) F cT da kN gV hP gW gW H26) else (ah.j9 F aP bu gV hP H26))
termination_by structural n=>n
def ah.twX (F:Nat) (aP:Int→Int→Sl→Int→Int→Hp→OA) (bu:Int→Int→Sl→Int→Int→Hp→OA) (aa:Int) (ab:Int) (ax:Sl) (H:Hp):OA:=(Hp.new H [(.int .i64 aa),(.int .i64 ab),(.sl ax)]).bind fun H4=>(Hp.ldI H4 .i64 H.length 0).bind fun n5=>(Hp.new H4 []).bind fun H6=>(Hp.ldSl H6 H.length 2).bind fun s7=>(Sl.row H6 s7 1).bind fun xs9=>(Hp.app H6 1 8 (⟨some (H4.length,0),0,.ex 0⟩:Sl) s7.n xs9).bind fun a8=>(Hp.new a8.2 [.int .i64 0,.int .i64 0,.sl ⟨none,0,.ex 0⟩]).bind fun H10=>(Hp.st H10 a8.2.length 0 (.int .i64 n5)).bind fun H11=>(Hp.st H11 a8.2.length (0 + 1) (.int .i64 n5)).bind fun H12=>(Hp.st H12 a8.2.length (0 + 1 + 1) (.sl a8.1)).bind fun H13=>ah.l125 F aP bu F n5 a8.2.length 0 1 1 0 H13
def ah.tw (F:Nat) (aa:Int) (ab:Int) (ax:Sl) (H:Hp):OA:=ah.twX F (a_.tw F) (aY.tw F) aa ab ax H
def ah.code:Go.Code:=(Try.f29.body).getD .skip
def ah.lh125 (F:Nat) (aP:Int→Int→Sl→Int→Int→Hp→OA) (bu:Int→Int→Sl→Int→Int→Hp→OA) (ks:List Nat) (n:Nat) (tm:Tm) (H:Hp):OA:=match ks,tm 3,tm 4,tm 5,tm 6,tm 7 with
 | [],(.int .i64 cT),(.ptr da kN),(.int .i64 gV),(.int .i64 hP),(.int .i64 gW)=>ah.l125 F aP bu n cT da kN gV hP gW H
 | _,_,_,_,_,_=>none
theorem ah.lh125_inv {F:Nat} {aP:Int→Int→Sl→Int→Int→Hp→OA} {bu:Int→Int→Sl→Int→Int→Hp→OA} {ks:List Nat} {n:Nat} {tm:Tm} {H:Hp} {r:AV×Hp} (h:ah.lh125 F aP bu ks n tm H = some r):∃ cT:Int,∃ da:Nat,∃ kN:Nat,∃ gV:Int,∃ hP:Int,∃ gW:Int,ks = []∧tm 3 = (.int .i64 cT)∧tm 4 = (.ptr da kN)∧tm 5 = (.int .i64 gV)∧tm 6 = (.int .i64 hP)∧tm 7 = (.int .i64 gW)∧ah.l125 F aP bu n cT da kN gV hP gW H = some r:=by
 unfold ah.lh125 at h
 split at h
 ·exact ⟨_,_,_,_,_,_,rfl,by assumption,by assumption,by assumption,by assumption,by assumption,h⟩
 ·cases h
def ah.lh4010 (F:Nat) (aP:Int→Int→Sl→Int→Int→Hp→OA) (bu:Int→Int→Sl→Int→Int→Hp→OA) (ks:List Nat) (n:Nat) (tm:Tm) (H:Hp):OA:=match ks,tm 3,tm 4,tm 5,tm 6,tm 7,tm 8 with
 | [cX],(.int .i64 dV),(.ptr fj iF),(.int .i64 fk),(.int .i64 fR),(.int .i64 fm),(.int .i64 eO)=>ah.l4010 F aP bu (ah.l125 F aP bu cX) n dV fj iF fk fR fm eO H
 | _,_,_,_,_,_,_=>none
theorem ah.lh4010_inv {F:Nat} {aP:Int→Int→Sl→Int→Int→Hp→OA} {bu:Int→Int→Sl→Int→Int→Hp→OA} {ks:List Nat} {n:Nat} {tm:Tm} {H:Hp} {r:AV×Hp} (h:ah.lh4010 F aP bu ks n tm H = some r):∃ cX:Nat,∃ dV:Int,∃ fj:Nat,∃ iF:Nat,∃ fk:Int,∃ fR:Int,∃ fm:Int,∃ eO:Int,ks = [cX]∧tm 3 = (.int .i64 dV)∧tm 4 = (.ptr fj iF)∧tm 5 = (.int .i64 fk)∧tm 6 = (.int .i64 fR)∧tm 7 = (.int .i64 fm)∧tm 8 = (.int .i64 eO)∧ah.l4010 F aP bu (ah.l125 F aP bu cX) n dV fj iF fk fR fm eO H = some r:=by
 unfold ah.lh4010 at h
 split at h
 ·exact ⟨_,_,_,_,_,_,_,_,rfl,by assumption,by assumption,by assumption,by assumption,by assumption,by assumption,h⟩
 ·cases h
def ah.lh64189 (F:Nat) (aP:Int→Int→Sl→Int→Int→Hp→OA) (bu:Int→Int→Sl→Int→Int→Hp→OA) (ks:List Nat) (n:Nat) (tm:Tm) (H:Hp):OA:=match ks,tm 3,tm 4,tm 5,tm 6,tm 7,tm 9 with
 | [cX],(.int .i64 ez),(.ptr hO jV),(.int .i64 gC),(.int .i64 iD),(.int .i64 gD),(.int .i64 iE)=>ah.l64189 F aP bu (ah.l125 F aP bu cX) n ez hO jV gC iD gD iE H
 | _,_,_,_,_,_,_=>none
theorem ah.lh64189_inv {F:Nat} {aP:Int→Int→Sl→Int→Int→Hp→OA} {bu:Int→Int→Sl→Int→Int→Hp→OA} {ks:List Nat} {n:Nat} {tm:Tm} {H:Hp} {r:AV×Hp} (h:ah.lh64189 F aP bu ks n tm H = some r):∃ cX:Nat,∃ ez:Int,∃ hO:Nat,∃ jV:Nat,∃ gC:Int,∃ iD:Int,∃ gD:Int,∃ iE:Int,ks = [cX]∧tm 3 = (.int .i64 ez)∧tm 4 = (.ptr hO jV)∧tm 5 = (.int .i64 gC)∧tm 6 = (.int .i64 iD)∧tm 7 = (.int .i64 gD)∧tm 9 = (.int .i64 iE)∧ah.l64189 F aP bu (ah.l125 F aP bu cX) n ez hO jV gC iD gD iE H = some r:=by
 unfold ah.lh64189 at h
 split at h
 ·exact ⟨_,_,_,_,_,_,_,_,rfl,by assumption,by assumption,by assumption,by assumption,by assumption,by assumption,h⟩
 ·cases h
def ah.lh1027029 (F:Nat) (aP:Int→Int→Sl→Int→Int→Hp→OA) (bu:Int→Int→Sl→Int→Int→Hp→OA) (ks:List Nat) (n:Nat) (tm:Tm) (H:Hp):OA:=match ks,tm 3,tm 4,tm 5,tm 6,tm 7,tm 9,tm 10 with
 | [mU,cX],(.int .i64 dA),(.ptr df dB),(.int .i64 fQ),(.int .i64 ew),(.int .i64 dC),(.int .i64 ey),(.int .i64 eN)=>ah.l1027029 F aP bu (ah.l125 F aP bu cX) (ah.l64189 F aP bu (ah.l125 F aP bu cX) mU) n dA df dB fQ ew dC ey eN H
 | _,_,_,_,_,_,_,_=>none
theorem ah.lh1027029_inv {F:Nat} {aP:Int→Int→Sl→Int→Int→Hp→OA} {bu:Int→Int→Sl→Int→Int→Hp→OA} {ks:List Nat} {n:Nat} {tm:Tm} {H:Hp} {r:AV×Hp} (h:ah.lh1027029 F aP bu ks n tm H = some r):∃ mU:Nat,∃ cX:Nat,∃ dA:Int,∃ df:Nat,∃ dB:Nat,∃ fQ:Int,∃ ew:Int,∃ dC:Int,∃ ey:Int,∃ eN:Int,ks = [mU,cX]∧tm 3 = (.int .i64 dA)∧tm 4 = (.ptr df dB)∧tm 5 = (.int .i64 fQ)∧tm 6 = (.int .i64 ew)∧tm 7 = (.int .i64 dC)∧tm 9 = (.int .i64 ey)∧tm 10 = (.int .i64 eN)∧ah.l1027029 F aP bu (ah.l125 F aP bu cX) (ah.l64189 F aP bu (ah.l125 F aP bu cX) mU) n dA df dB fQ ew dC ey eN H = some r:=by
 unfold ah.lh1027029 at h
 split at h
 ·exact ⟨_,_,_,_,_,_,_,_,_,_,rfl,by assumption,by assumption,by assumption,by assumption,by assumption,by assumption,by assumption,h⟩
 ·cases h
def ah.lh (F:Nat) (aP:Int→Int→Sl→Int→Int→Hp→OA) (bu:Int→Int→Sl→Int→Int→Hp→OA) (p:Nat) (ks:List Nat) (n:Nat) (tm:Tm) (H:Hp):OA:=bif p.beq 1027029 then ah.lh1027029 F aP bu ks n tm H else (bif p.beq 64189 then ah.lh64189 F aP bu ks n tm H else (bif p.beq 4010 then ah.lh4010 F aP bu ks n tm H else (bif p.beq 125 then ah.lh125 F aP bu ks n tm H else (none))))
def ah.pn:Nat→List Nat:=fun i=>(([(21,[29])]:List (Nat×List Nat)).lookup i).getD []
def ah.tb:Nat→List (List Nat):=fun i=>(([(21,[[],[0],[],[],[2,3],[],[2,3,4,5],[],[],[],[7,8,9],[],[],[],[7,8,9,10,11,12,13],[7,8,9,10,11,12,13,14],[],[],[],[7,8,9,10,11,12,13,14,16,17,18],[],[],[],[7,8,9,10,11,12,13,14,16,17,18,19,20,21,22],[7,8,9,10,11,12,13,14,16,17,18,19,20,21,22,23],[7,8,9,10,11,12,13,14,15,16,17,18,19,20,21,22,23,24],[],[7,8,9,10,11,12,13,14,15,16,17,18,19,20,21,22,23,24,25,26],[0,1,2,3,4,5,6,7,8,9,10,11,12,13,14,15,16,17,18,19,20,21,22,23,24,25,26,27],[0,1,2,3,4,5,6,7,8,9,10,11,12,13,14,15,16,17,18,19,20,21,22,23,24,25,26,27,28]])]:List (Nat×List (List Nat))).lookup i).getD []
def ah.mk (g:Int→Int→Sl→Hp→OA) (args:List AV) (H:Hp):OA:=match args with
 | [(.agg [(.int .i64 aa),(.int .i64 ab),(.sl ax)])]=>g aa ab ax H
 | _=>none
def ah.cs (F:Nat) (aP:Int→Int→Sl→Int→Int→Hp→OA) (bu:Int→Int→Sl→Int→Int→Hp→OA):List (FuncId×(List AV→Hp→OA)):=[(53,a_.mk aP),(54,aY.mk bu)]
theorem ah.loops (F:Nat) (aP:Int→Int→Sl→Int→Int→Hp→OA) (bu:Int→Int→Sl→Int→Int→Hp→OA):LoopsOk tabs (mkOrc (ah.cs F aP bu)) ah.pn (ah.lh F aP bu) F [] 1 ah.code (fun tm H=>aresults tabs.ty H tm Try.f29.results.toList fun v=>some (v,H)) (fun _ _ _=>none) (fun tm H=>aresults tabs.ty H tm Try.f29.results.toList fun v=>some (v,H)):=by
 refine LoopsOk.seq ?_ ?_
 ·exact loops_none (by kernel_rfl)
 ·refine LoopsOk.seq ?_ ?_
  ·exact loops_none (by kernel_rfl)
  ·refine LoopsOk.seq ?_ ?_
   ·exact loops_none (by kernel_rfl)
   ·refine LoopsOk.seq ?_ ?_
    ·exact loops_none (by kernel_rfl)
    ·refine LoopsOk.seq ?_ ?_
     ·refine LoopsOk.seq ?_ ?_
      ·exact loops_none (by kernel_rfl)
      ·refine LoopsOk.block ?_
       refine LoopsOk.loop (fun tm H=>?_) (fun k125 tm H r h0=>?_) (fun k125=>?_)
       ·refine none_of fun r h0=>?_
        obtain ⟨cT,da,kN,gV,hP,gW,hks,e3,e4,e5,e6,e7,h⟩:=ah.lh125_inv (show ah.lh125 F aP bu [] 0 tm H = some r from h0)
        cases h
       ·obtain ⟨cT,da,kN,gV,hP,gW,hks,e3,e4,e5,e6,e7,h⟩:=ah.lh125_inv (show ah.lh125 F aP bu [] (k125 + 1) tm H = some r from h0)
        have q0:(Tm.put tm 3 (.int .i64 cT)) = tm:=by exact Tm.put_same e3
        have q1:(Tm.put (Tm.put tm 3 (.int .i64 cT)) 4 (.ptr da kN)) = tm:=by rw [q0]; exact Tm.put_same e4
        have q2:(Tm.put (Tm.put (Tm.put tm 3 (.int .i64 cT)) 4 (.ptr da kN)) 5 (.int .i64 gV)) = tm:=by rw [q1]; exact Tm.put_same e5
        have q3:(Tm.put (Tm.put (Tm.put (Tm.put tm 3 (.int .i64 cT)) 4 (.ptr da kN)) 5 (.int .i64 gV)) 6 (.int .i64 hP)) = tm:=by rw [q2]; exact Tm.put_same e6
        have q4:(Tm.put (Tm.put (Tm.put (Tm.put (Tm.put tm 3 (.int .i64 cT)) 4 (.ptr da kN)) 5 (.int .i64 gV)) 6 (.int .i64 hP)) 7 (.int .i64 gW)) = tm:=by rw [q3]; exact Tm.put_same e7
        rw [← q4]
        exact Eq.trans (by kernel_rfl) h
       ·refine LoopsOk.seq ?_ ?_
        ·exact loops_none (by kernel_rfl)
        ·refine LoopsOk.seq ?_ ?_
         ·refine LoopsOk.block ?_
          refine LoopsOk.seq ?_ ?_
          ·exact loops_none (by kernel_rfl)
          ·refine LoopsOk.seq ?_ ?_
           ·refine LoopsOk.block ?_
            refine LoopsOk.loop (fun tm H=>?_) (fun k4010 tm H r h0=>?_) (fun k4010=>?_)
            ·refine none_of fun r h0=>?_
             obtain ⟨cX,dV,fj,iF,fk,fR,fm,eO,hks,e3,e4,e5,e6,e7,e8,h⟩:=ah.lh4010_inv (show ah.lh4010 F aP bu [k125] 0 tm H = some r from h0)
             cases h
            ·obtain ⟨cX,dV,fj,iF,fk,fR,fm,eO,hks,e3,e4,e5,e6,e7,e8,h⟩:=ah.lh4010_inv (show ah.lh4010 F aP bu [k125] (k4010 + 1) tm H = some r from h0)
             obtain rfl:cX = k125:=by simpa [eq_comm] using hks
             have q0:(Tm.put tm 3 (.int .i64 dV)) = tm:=by exact Tm.put_same e3
             have q1:(Tm.put (Tm.put tm 3 (.int .i64 dV)) 4 (.ptr fj iF)) = tm:=by rw [q0]; exact Tm.put_same e4
             have q2:(Tm.put (Tm.put (Tm.put tm 3 (.int .i64 dV)) 4 (.ptr fj iF)) 5 (.int .i64 fk)) = tm:=by rw [q1]; exact Tm.put_same e5
             have q3:(Tm.put (Tm.put (Tm.put (Tm.put tm 3 (.int .i64 dV)) 4 (.ptr fj iF)) 5 (.int .i64 fk)) 6 (.int .i64 fR)) = tm:=by rw [q2]; exact Tm.put_same e6
             have q4:(Tm.put (Tm.put (Tm.put (Tm.put (Tm.put tm 3 (.int .i64 dV)) 4 (.ptr fj iF)) 5 (.int .i64 fk)) 6 (.int .i64 fR)) 7 (.int .i64 fm)) = tm:=by rw [q3]; exact Tm.put_same e7
             have q5:(Tm.put (Tm.put (Tm.put (Tm.put (Tm.put (Tm.put tm 3 (.int .i64 dV)) 4 (.ptr fj iF)) 5 (.int .i64 fk)) 6 (.int .i64 fR)) 7 (.int .i64 fm)) 8 (.int .i64 eO)) = tm:=by rw [q4]; exact Tm.put_same e8
             rw [← q5]
             exact Eq.trans (by kernel_rfl) h
            ·exact loops_none (by kernel_rfl)
           ·refine LoopsOk.seq ?_ ?_
            ·exact loops_none (by kernel_rfl)
            ·refine LoopsOk.seq ?_ ?_
             ·exact loops_none (by kernel_rfl)
             ·refine LoopsOk.seq ?_ ?_
              ·refine LoopsOk.seq ?_ ?_
               ·exact loops_none (by kernel_rfl)
               ·refine LoopsOk.block ?_
                refine LoopsOk.loop (fun tm H=>?_) (fun k64189 tm H r h0=>?_) (fun k64189=>?_)
                ·refine none_of fun r h0=>?_
                 obtain ⟨cX,ez,hO,jV,gC,iD,gD,iE,hks,e3,e4,e5,e6,e7,e9,h⟩:=ah.lh64189_inv (show ah.lh64189 F aP bu [k125] 0 tm H = some r from h0)
                 cases h
                ·obtain ⟨cX,ez,hO,jV,gC,iD,gD,iE,hks,e3,e4,e5,e6,e7,e9,h⟩:=ah.lh64189_inv (show ah.lh64189 F aP bu [k125] (k64189 + 1) tm H = some r from h0)
                 obtain rfl:cX = k125:=by simpa [eq_comm] using hks
                 have q0:(Tm.put tm 3 (.int .i64 ez)) = tm:=by exact Tm.put_same e3
                 have q1:(Tm.put (Tm.put tm 3 (.int .i64 ez)) 4 (.ptr hO jV)) = tm:=by rw [q0]; exact Tm.put_same e4
                 have q2:(Tm.put (Tm.put (Tm.put tm 3 (.int .i64 ez)) 4 (.ptr hO jV)) 5 (.int .i64 gC)) = tm:=by rw [q1]; exact Tm.put_same e5
                 have q3:(Tm.put (Tm.put (Tm.put (Tm.put tm 3 (.int .i64 ez)) 4 (.ptr hO jV)) 5 (.int .i64 gC)) 6 (.int .i64 iD)) = tm:=by rw [q2]; exact Tm.put_same e6
                 have q4:(Tm.put (Tm.put (Tm.put (Tm.put (Tm.put tm 3 (.int .i64 ez)) 4 (.ptr hO jV)) 5 (.int .i64 gC)) 6 (.int .i64 iD)) 7 (.int .i64 gD)) = tm:=by rw [q3]; exact Tm.put_same e7
                 have q5:(Tm.put (Tm.put (Tm.put (Tm.put (Tm.put (Tm.put tm 3 (.int .i64 ez)) 4 (.ptr hO jV)) 5 (.int .i64 gC)) 6 (.int .i64 iD)) 7 (.int .i64 gD)) 9 (.int .i64 iE)) = tm:=by rw [q4]; exact Tm.put_same e9
                 rw [← q5]
                 exact Eq.trans (by kernel_rfl) h
                ·refine LoopsOk.seq ?_ ?_
                 ·exact loops_none (by kernel_rfl)
                 ·refine LoopsOk.seq ?_ ?_
                  ·refine LoopsOk.block ?_
                   refine LoopsOk.seq ?_ ?_
                   ·exact loops_none (by kernel_rfl)
                   ·refine LoopsOk.block ?_
                    refine LoopsOk.loop (fun tm H=>?_) (fun k1027029 tm H r h0=>?_) (fun k1027029=>?_)
                    ·refine none_of fun r h0=>?_
                     obtain ⟨mU,cX,dA,df,dB,fQ,ew,dC,ey,eN,hks,e3,e4,e5,e6,e7,e9,e10,h⟩:=ah.lh1027029_inv (show ah.lh1027029 F aP bu [k64189,k125] 0 tm H = some r from h0)
                     cases h
                    ·obtain ⟨mU,cX,dA,df,dB,fQ,ew,dC,ey,eN,hks,e3,e4,e5,e6,e7,e9,e10,h⟩:=ah.lh1027029_inv (show ah.lh1027029 F aP bu [k64189,k125] (k1027029 + 1) tm H = some r from h0)
                     obtain ⟨rfl,rfl⟩:mU = k64189∧cX = k125:=by simpa [eq_comm] using hks
                     have q0:(Tm.put tm 3 (.int .i64 dA)) = tm:=by exact Tm.put_same e3
                     have q1:(Tm.put (Tm.put tm 3 (.int .i64 dA)) 4 (.ptr df dB)) = tm:=by rw [q0]; exact Tm.put_same e4
                     have q2:(Tm.put (Tm.put (Tm.put tm 3 (.int .i64 dA)) 4 (.ptr df dB)) 5 (.int .i64 fQ)) = tm:=by rw [q1]; exact Tm.put_same e5
                     have q3:(Tm.put (Tm.put (Tm.put (Tm.put tm 3 (.int .i64 dA)) 4 (.ptr df dB)) 5 (.int .i64 fQ)) 6 (.int .i64 ew)) = tm:=by rw [q2]; exact Tm.put_same e6
                     have q4:(Tm.put (Tm.put (Tm.put (Tm.put (Tm.put tm 3 (.int .i64 dA)) 4 (.ptr df dB)) 5 (.int .i64 fQ)) 6 (.int .i64 ew)) 7 (.int .i64 dC)) = tm:=by rw [q3]; exact Tm.put_same e7
                     have q5:(Tm.put (Tm.put (Tm.put (Tm.put (Tm.put (Tm.put tm 3 (.int .i64 dA)) 4 (.ptr df dB)) 5 (.int .i64 fQ)) 6 (.int .i64 ew)) 7 (.int .i64 dC)) 9 (.int .i64 ey)) = tm:=by rw [q4]; exact Tm.put_same e9
                     have q6:(Tm.put (Tm.put (Tm.put (Tm.put (Tm.put (Tm.put (Tm.put tm 3 (.int .i64 dA)) 4 (.ptr df dB)) 5 (.int .i64 fQ)) 6 (.int .i64 ew)) 7 (.int .i64 dC)) 9 (.int .i64 ey)) 10 (.int .i64 eN)) = tm:=by rw [q5]; exact Tm.put_same e10
                     rw [← q6]
                     exact Eq.trans (by kernel_rfl) h
                    ·exact loops_none (by kernel_rfl)
                  ·exact loops_none (by kernel_rfl)
              ·exact loops_none (by kernel_rfl)
         ·exact loops_none (by kernel_rfl)
     ·exact loops_none (by kernel_rfl)
theorem ah.eqX (F:Nat) (aP:Int→Int→Sl→Int→Int→Hp→OA) (bu:Int→Int→Sl→Int→Int→Hp→OA) (aa:Int) (ab:Int) (ax:Sl) (H:Hp):aCode tabs (mkOrc (ah.cs F aP bu)) ah.pn (ah.lh F aP bu) F [] 1 ah.code (argTm [(.agg [(.int .i64 aa),(.int .i64 ab),(.sl ax)])]) H (fun tm H=>aresults tabs.ty H tm Try.f29.results.toList fun v=>some (v,H)) (fun _ _ _=>none) (fun tm H=>aresults tabs.ty H tm Try.f29.results.toList fun v=>some (v,H)) = ah.twX F aP bu aa ab ax H:=by kernel_rfl
theorem ah.cs_ok (F:Nat):∀ p ∈ ah.cs F (a_.tw F) (aY.tw F),∀ args H v H',p.2 args H = some (v,H')→Go.AE.T Try.prog p.1 args H v H':=by
 intro p hp
 simp only [ah.cs,List.mem_cons,List.not_mem_nil,or_false] at hp
 rcases hp with rfl | rfl
 ·exact fun args H v H' h=>a_.mk_T h
 ·exact fun args H v H' h=>aY.mk_T h
theorem ah.ok:codeOk ah.pn Try.f29.ntmps ah.tb ah.code = true:=by kernel_rfl
theorem ah.T {F:Nat} {aa:Int} {ab:Int} {ax:Sl} {H:Hp} {v:AV} {H':Hp} (h:ah.tw F aa ab ax H = some (v,H')):Go.AE.T Try.prog 29 [(.agg [(.int .i64 aa),(.int .i64 ab),(.sl ax)])] H v H':=
 Go.AE.T.of (Y:=tabs) (C:=mkOrc (ah.cs F (a_.tw F) (aY.tw F))) (PN:=ah.pn) (LH:=ah.lh F (a_.tw F) (aY.tw F)) (F:=F) (TB:=ah.tb) (fn:=Try.f29) (code:=ah.code) mixed tabs_ok (mkOrc_ok (ah.cs_ok F)) Try.func29 (by kernel_rfl) (by kernel_rfl) ah.ok (Nat.le_of_ble_eq_true (by kernel_rfl)) (ah.loops F (a_.tw F) (aY.tw F)) (Eq.trans (ah.eqX F (a_.tw F) (aY.tw F) aa ab ax H) h)
theorem ah.mk_T {F:Nat} {args:List AV} {H:Hp} {v:AV} {H':Hp} (h:ah.mk (ah.tw F) args H = some (v,H')):Go.AE.T Try.prog 29 args H v H':=by
 unfold ah.mk at h
 split at h
 ·exact ah.T h
 ·cases h
def cf.twX (F:Nat) (aa:Int) (H:Hp):OA:=some ((.int .i64 (if (IntKind.i64.wrap (0 - aa)) > aa then (IntKind.i64.wrap (0 - aa)) else aa)),H)
def cf.tw (F:Nat) (aa:Int) (H:Hp):OA:=cf.twX F aa H
def cf.code:Go.Code:=(Try.f28.body).getD .skip
def cf.lh (F:Nat) (p:Nat) (ks:List Nat) (n:Nat) (tm:Tm) (H:Hp):OA:=none
def cf.pn:Nat→List Nat:=fun i=>(([]:List (Nat×List Nat)).lookup i).getD []
def cf.tb:Nat→List (List Nat):=fun i=>(([]:List (Nat×List (List Nat))).lookup i).getD []
def cf.mk (g:Int→Hp→OA) (args:List AV) (H:Hp):OA:=match args with
 | [(.int .i64 aa)]=>g aa H
 | _=>none
def cf.cs (F:Nat):List (FuncId×(List AV→Hp→OA)):=[]
theorem cf.loops (F:Nat):LoopsOk tabs (mkOrc (cf.cs F)) cf.pn (cf.lh F) F [] 1 cf.code (fun tm H=>aresults tabs.ty H tm Try.f28.results.toList fun v=>some (v,H)) (fun _ _ _=>none) (fun tm H=>aresults tabs.ty H tm Try.f28.results.toList fun v=>some (v,H)):=by
 exact loops_none (by kernel_rfl)
theorem cf.eqX (F:Nat) (aa:Int) (H:Hp):aCode tabs (mkOrc (cf.cs F)) cf.pn (cf.lh F) F [] 1 cf.code (argTm [(.int .i64 aa)]) H (fun tm H=>aresults tabs.ty H tm Try.f28.results.toList fun v=>some (v,H)) (fun _ _ _=>none) (fun tm H=>aresults tabs.ty H tm Try.f28.results.toList fun v=>some (v,H)) = cf.twX F aa H:=by kernel_rfl
theorem cf.cs_ok (F:Nat):∀ p ∈ cf.cs F,∀ args H v H',p.2 args H = some (v,H')→Go.AE.T Try.prog p.1 args H v H':=by
 intro p hp
 exact absurd (show p ∈ [] from hp) List.not_mem_nil
theorem cf.ok:codeOk cf.pn Try.f28.ntmps cf.tb cf.code = true:=by kernel_rfl
theorem cf.T {F:Nat} {aa:Int} {H:Hp} {v:AV} {H':Hp} (h:cf.tw F aa H = some (v,H')):Go.AE.T Try.prog 28 [(.int .i64 aa)] H v H':=
 Go.AE.T.of (Y:=tabs) (C:=mkOrc (cf.cs F)) (PN:=cf.pn) (LH:=cf.lh F) (F:=F) (TB:=cf.tb) (fn:=Try.f28) (code:=cf.code) mixed tabs_ok (mkOrc_ok (cf.cs_ok F)) Try.func28 (by kernel_rfl) (by kernel_rfl) cf.ok (Nat.le_of_ble_eq_true (by kernel_rfl)) (cf.loops F) (Eq.trans (cf.eqX F aa H) h)
theorem cf.mk_T {F:Nat} {args:List AV} {H:Hp} {v:AV} {H':Hp} (h:cf.mk (cf.tw F) args H = some (v,H')):Go.AE.T Try.prog 28 args H v H':=by
 unfold cf.mk at h
 split at h
 ·exact cf.T h
 ·cases h
def bX.twX (F:Nat) (lp:Sl→Int→Hp→OA) (ff:Sl→Int→Hp→OA) (lq:Sl→Int→Int→Hp→OA) (lr:Int→Int→Sl→Hp→OA) (lu:Int→Hp→OA) (aa:Sl) (ab:Int) (H:Hp):OA:=(Hp.new H [(.sl aa),(.int .i64 ab)]).bind fun H3=>(Hp.ldSl H3 H.length 0).bind fun s4=>(Hp.ldI H3 .i64 H.length (0 + 1)).bind fun n5=>(lp s4 n5 H3).bind fun r6=>((r6.1).asB).bind fun b7=>(bif (!b7) then (some ((.tup [(.int .i64 0),(.int .i64 1)]),r6.2)) else ((Hp.ldSl r6.2 H.length 0).bind fun s8=>(Hp.ldI r6.2 .i64 H.length (0 + 1)).bind fun n9=>(ff s8 n9 r6.2).bind fun r10=>((r10.1).asI .i64).bind fun n11=>(Hp.ldI r10.2 .i64 H.length 1).bind fun n12=>(bif ((IntKind.i64.wrap (n11 + n12)) == 0) then (some ((.tup [(.int .i64 0),(.int .i64 5)]),r10.2)) else ((Hp.ldI r10.2 .i64 H.length 1).bind fun n13=>(bif (decide ((IntKind.i64.wrap (n11 + n13)) > 1)) then (some ((.tup [(.int .i64 0),(.int .i64 0)]),r10.2)) else ((bif (n11 == 0) then (some ((.tup [(.int .i64 1),(.int .i64 0)]),r10.2)) else ((Hp.ldSl r10.2 H.length 0).bind fun s14=>(Hp.ldI r10.2 .i64 H.length (0 + 1)).bind fun n15=>(lq s14 n15 0 r10.2).bind fun r16=>((r16.1).asAgg 3).bind fun l17=>(l17[0]?).bind fun v18=>((v18).asI .i64).bind fun n19=>(l17[1]?).bind fun v20=>((v20).asI .i64).bind fun n21=>(l17[2]?).bind fun v22=>((v22).asSl).bind fun s23=>(lr n19 n21 s23 r16.2).bind fun r24=>((r24.1).asI .i64).bind fun n25=>(lu n25 r24.2).bind fun r26=>((r26.1).asI .i64).bind fun n27=>some ((.tup [(.int .i64 n27),(.int .i64 0)]),r26.2)))))))))
def bX.tw (F:Nat) (aa:Sl) (ab:Int) (H:Hp):OA:=bX.twX F (bU.tw F) (aL.tw F) (ai.tw F) (ah.tw F) (cf.tw F) aa ab H
def bX.code:Go.Code:=(Try.f8.body).getD .skip
def bX.lh (F:Nat) (lp:Sl→Int→Hp→OA) (ff:Sl→Int→Hp→OA) (lq:Sl→Int→Int→Hp→OA) (lr:Int→Int→Sl→Hp→OA) (lu:Int→Hp→OA) (p:Nat) (ks:List Nat) (n:Nat) (tm:Tm) (H:Hp):OA:=none
def bX.pn:Nat→List Nat:=fun i=>(([]:List (Nat×List Nat)).lookup i).getD []
def bX.tb:Nat→List (List Nat):=fun i=>(([]:List (Nat×List (List Nat))).lookup i).getD []
def bX.mk (g:Sl→Int→Hp→OA) (args:List AV) (H:Hp):OA:=match args with
 | [(.agg [(.sl aa),(.int .i64 ab)])]=>g aa ab H
 | _=>none
def bX.cs (F:Nat) (lp:Sl→Int→Hp→OA) (ff:Sl→Int→Hp→OA) (lq:Sl→Int→Int→Hp→OA) (lr:Int→Int→Sl→Hp→OA) (lu:Int→Hp→OA):List (FuncId×(List AV→Hp→OA)):=[(26,bU.mk lp),(27,aL.mk ff),(30,ai.mk lq),(29,ah.mk lr),(28,cf.mk lu)]
theorem bX.loops (F:Nat) (lp:Sl→Int→Hp→OA) (ff:Sl→Int→Hp→OA) (lq:Sl→Int→Int→Hp→OA) (lr:Int→Int→Sl→Hp→OA) (lu:Int→Hp→OA):LoopsOk tabs (mkOrc (bX.cs F lp ff lq lr lu)) bX.pn (bX.lh F lp ff lq lr lu) F [] 1 bX.code (fun tm H=>aresults tabs.ty H tm Try.f8.results.toList fun v=>some (v,H)) (fun _ _ _=>none) (fun tm H=>aresults tabs.ty H tm Try.f8.results.toList fun v=>some (v,H)):=by
 exact loops_none (by kernel_rfl)
theorem bX.eqX (F:Nat) (lp:Sl→Int→Hp→OA) (ff:Sl→Int→Hp→OA) (lq:Sl→Int→Int→Hp→OA) (lr:Int→Int→Sl→Hp→OA) (lu:Int→Hp→OA) (aa:Sl) (ab:Int) (H:Hp):aCode tabs (mkOrc (bX.cs F lp ff lq lr lu)) bX.pn (bX.lh F lp ff lq lr lu) F [] 1 bX.code (argTm [(.agg [(.sl aa),(.int .i64 ab)])]) H (fun tm H=>aresults tabs.ty H tm Try.f8.results.toList fun v=>some (v,H)) (fun _ _ _=>none) (fun tm H=>aresults tabs.ty H tm Try.f8.results.toList fun v=>some (v,H)) = bX.twX F lp ff lq lr lu aa ab H:=by kernel_rfl
theorem bX.cs_ok (F:Nat):∀ p ∈ bX.cs F (bU.tw F) (aL.tw F) (ai.tw F) (ah.tw F) (cf.tw F),∀ args H v H',p.2 args H = some (v,H')→Go.AE.T Try.prog p.1 args H v H':=by
 intro p hp
 simp only [bX.cs,List.mem_cons,List.not_mem_nil,or_false] at hp
 rcases hp with rfl | rfl | rfl | rfl | rfl
 ·exact fun args H v H' h=>bU.mk_T h
 ·exact fun args H v H' h=>aL.mk_T h
 ·exact fun args H v H' h=>ai.mk_T h
 ·exact fun args H v H' h=>ah.mk_T h
 ·exact fun args H v H' h=>cf.mk_T h
theorem bX.ok:codeOk bX.pn Try.f8.ntmps bX.tb bX.code = true:=by kernel_rfl
theorem bX.T {F:Nat} {aa:Sl} {ab:Int} {H:Hp} {v:AV} {H':Hp} (h:bX.tw F aa ab H = some (v,H')):Go.AE.T Try.prog 8 [(.agg [(.sl aa),(.int .i64 ab)])] H v H':=
 Go.AE.T.of (Y:=tabs) (C:=mkOrc (bX.cs F (bU.tw F) (aL.tw F) (ai.tw F) (ah.tw F) (cf.tw F))) (PN:=bX.pn) (LH:=bX.lh F (bU.tw F) (aL.tw F) (ai.tw F) (ah.tw F) (cf.tw F)) (F:=F) (TB:=bX.tb) (fn:=Try.f8) (code:=bX.code) mixed tabs_ok (mkOrc_ok (bX.cs_ok F)) Try.func8 (by kernel_rfl) (by kernel_rfl) bX.ok (Nat.le_of_ble_eq_true (by kernel_rfl)) (bX.loops F (bU.tw F) (aL.tw F) (ai.tw F) (ah.tw F) (cf.tw F)) (Eq.trans (bX.eqX F (bU.tw F) (aL.tw F) (ai.tw F) (ah.tw F) (cf.tw F) aa ab H) h)
theorem bX.mk_T {F:Nat} {args:List AV} {H:Hp} {v:AV} {H':Hp} (h:bX.mk (bX.tw F) args H = some (v,H')):Go.AE.T Try.prog 8 args H v H':=by
 unfold bX.mk at h
 split at h
 ·exact bX.T h
 ·cases h
def bx.twX (F:Nat) (aa:Sl) (H:Hp):OA:=some ((.int .i64 (aa.n:Int)),H)
def bx.tw (F:Nat) (aa:Sl) (H:Hp):OA:=bx.twX F aa H
def bx.code:Go.Code:=(Try.f62.body).getD .skip
def bx.lh (F:Nat) (p:Nat) (ks:List Nat) (n:Nat) (tm:Tm) (H:Hp):OA:=none
def bx.pn:Nat→List Nat:=fun i=>(([]:List (Nat×List Nat)).lookup i).getD []
def bx.tb:Nat→List (List Nat):=fun i=>(([]:List (Nat×List (List Nat))).lookup i).getD []
def bx.mk (g:Sl→Hp→OA) (args:List AV) (H:Hp):OA:=match args with
 | [(.sl aa)]=>g aa H
 | _=>none
def bx.cs (F:Nat):List (FuncId×(List AV→Hp→OA)):=[]
theorem bx.loops (F:Nat):LoopsOk tabs (mkOrc (bx.cs F)) bx.pn (bx.lh F) F [] 1 bx.code (fun tm H=>aresults tabs.ty H tm Try.f62.results.toList fun v=>some (v,H)) (fun _ _ _=>none) (fun tm H=>aresults tabs.ty H tm Try.f62.results.toList fun v=>some (v,H)):=by
 exact loops_none (by kernel_rfl)
theorem bx.eqX (F:Nat) (aa:Sl) (H:Hp):aCode tabs (mkOrc (bx.cs F)) bx.pn (bx.lh F) F [] 1 bx.code (argTm [(.sl aa)]) H (fun tm H=>aresults tabs.ty H tm Try.f62.results.toList fun v=>some (v,H)) (fun _ _ _=>none) (fun tm H=>aresults tabs.ty H tm Try.f62.results.toList fun v=>some (v,H)) = bx.twX F aa H:=by kernel_rfl
theorem bx.cs_ok (F:Nat):∀ p ∈ bx.cs F,∀ args H v H',p.2 args H = some (v,H')→Go.AE.T Try.prog p.1 args H v H':=by
 intro p hp
 exact absurd (show p ∈ [] from hp) List.not_mem_nil
theorem bx.ok:codeOk bx.pn Try.f62.ntmps bx.tb bx.code = true:=by kernel_rfl
theorem bx.T {F:Nat} {aa:Sl} {H:Hp} {v:AV} {H':Hp} (h:bx.tw F aa H = some (v,H')):Go.AE.T Try.prog 62 [(.sl aa)] H v H':=
 Go.AE.T.of (Y:=tabs) (C:=mkOrc (bx.cs F)) (PN:=bx.pn) (LH:=bx.lh F) (F:=F) (TB:=bx.tb) (fn:=Try.f62) (code:=bx.code) mixed tabs_ok (mkOrc_ok (bx.cs_ok F)) Try.func62 (by kernel_rfl) (by kernel_rfl) bx.ok (Nat.le_of_ble_eq_true (by kernel_rfl)) (bx.loops F) (Eq.trans (bx.eqX F aa H) h)
theorem bx.mk_T {F:Nat} {args:List AV} {H:Hp} {v:AV} {H':Hp} (h:bx.mk (bx.tw F) args H = some (v,H')):Go.AE.T Try.prog 62 args H v H':=by
 unfold bx.mk at h
 split at h
 ·exact bx.T h
 ·cases h
def bD.twX (F:Nat) (aa:Int) (ak:Int) (bF:Int) (H:Hp):OA:=(bif (decide (ak ≤ aa)) then (some ((.bool (decide (aa ≤ bF))),H)) else (some ((.bool false),H)))
def bD.tw (F:Nat) (aa:Int) (ak:Int) (bF:Int) (H:Hp):OA:=bD.twX F aa ak bF H
def bD.code:Go.Code:=(Try.f63.body).getD .skip
def bD.lh (F:Nat) (p:Nat) (ks:List Nat) (n:Nat) (tm:Tm) (H:Hp):OA:=none
def bD.pn:Nat→List Nat:=fun i=>(([]:List (Nat×List Nat)).lookup i).getD []
def bD.tb:Nat→List (List Nat):=fun i=>(([]:List (Nat×List (List Nat))).lookup i).getD []
def bD.mk (g:Int→Int→Int→Hp→OA) (args:List AV) (H:Hp):OA:=match args with
 | [(.int .i64 aa),(.int .i64 ak),(.int .i64 bF)]=>g aa ak bF H
 | _=>none
def bD.cs (F:Nat):List (FuncId×(List AV→Hp→OA)):=[]
theorem bD.loops (F:Nat):LoopsOk tabs (mkOrc (bD.cs F)) bD.pn (bD.lh F) F [] 1 bD.code (fun tm H=>aresults tabs.ty H tm Try.f63.results.toList fun v=>some (v,H)) (fun _ _ _=>none) (fun tm H=>aresults tabs.ty H tm Try.f63.results.toList fun v=>some (v,H)):=by
 exact loops_none (by kernel_rfl)
theorem bD.eqX (F:Nat) (aa:Int) (ak:Int) (bF:Int) (H:Hp):aCode tabs (mkOrc (bD.cs F)) bD.pn (bD.lh F) F [] 1 bD.code (argTm [(.int .i64 aa),(.int .i64 ak),(.int .i64 bF)]) H (fun tm H=>aresults tabs.ty H tm Try.f63.results.toList fun v=>some (v,H)) (fun _ _ _=>none) (fun tm H=>aresults tabs.ty H tm Try.f63.results.toList fun v=>some (v,H)) = bD.twX F aa ak bF H:=by kernel_rfl
theorem bD.cs_ok (F:Nat):∀ p ∈ bD.cs F,∀ args H v H',p.2 args H = some (v,H')→Go.AE.T Try.prog p.1 args H v H':=by
 intro p hp
 exact absurd (show p ∈ [] from hp) List.not_mem_nil
theorem bD.ok:codeOk bD.pn Try.f63.ntmps bD.tb bD.code = true:=by kernel_rfl
theorem bD.T {F:Nat} {aa:Int} {ak:Int} {bF:Int} {H:Hp} {v:AV} {H':Hp} (h:bD.tw F aa ak bF H = some (v,H')):Go.AE.T Try.prog 63 [(.int .i64 aa),(.int .i64 ak),(.int .i64 bF)] H v H':=
 Go.AE.T.of (Y:=tabs) (C:=mkOrc (bD.cs F)) (PN:=bD.pn) (LH:=bD.lh F) (F:=F) (TB:=bD.tb) (fn:=Try.f63) (code:=bD.code) mixed tabs_ok (mkOrc_ok (bD.cs_ok F)) Try.func63 (by kernel_rfl) (by kernel_rfl) bD.ok (Nat.le_of_ble_eq_true (by kernel_rfl)) (bD.loops F) (Eq.trans (bD.eqX F aa ak bF H) h)
theorem bD.mk_T {F:Nat} {args:List AV} {H:Hp} {v:AV} {H':Hp} (h:bD.mk (bD.tw F) args H = some (v,H')):Go.AE.T Try.prog 63 args H v H':=by
 unfold bD.mk at h
 split at h
 ·exact bD.T h
 ·cases h
def cg.twX (F:Nat) (aa:Int) (ab:Int) (ax:Int) (aM:Int) (aJ:Int) (H:Hp):OA:=(Hp.new H [(.int .i64 aa),(.int .i64 ab),(.int .i64 ax),(.int .i64 aM),(.int .i64 aJ)]).bind fun H6=>(Hp.ldI H6 .i64 H.length 4).bind fun n7=>(bif (n7 != 1) then ((Hp.ldI H6 .i64 H.length 4).bind fun n8=>some ((.bool (n8 != (-1))),H6)) else (some ((.bool false),H6)))
def cg.tw (F:Nat) (aa:Int) (ab:Int) (ax:Int) (aM:Int) (aJ:Int) (H:Hp):OA:=cg.twX F aa ab ax aM aJ H
def cg.code:Go.Code:=(Try.f65.body).getD .skip
def cg.lh (F:Nat) (p:Nat) (ks:List Nat) (n:Nat) (tm:Tm) (H:Hp):OA:=none
def cg.pn:Nat→List Nat:=fun i=>(([]:List (Nat×List Nat)).lookup i).getD []
def cg.tb:Nat→List (List Nat):=fun i=>(([]:List (Nat×List (List Nat))).lookup i).getD []
def cg.mk (g:Int→Int→Int→Int→Int→Hp→OA) (args:List AV) (H:Hp):OA:=match args with
 | [(.agg [(.int .i64 aa),(.int .i64 ab),(.int .i64 ax),(.int .i64 aM),(.int .i64 aJ)])]=>g aa ab ax aM aJ H
 | _=>none
def cg.cs (F:Nat):List (FuncId×(List AV→Hp→OA)):=[]
theorem cg.loops (F:Nat):LoopsOk tabs (mkOrc (cg.cs F)) cg.pn (cg.lh F) F [] 1 cg.code (fun tm H=>aresults tabs.ty H tm Try.f65.results.toList fun v=>some (v,H)) (fun _ _ _=>none) (fun tm H=>aresults tabs.ty H tm Try.f65.results.toList fun v=>some (v,H)):=by
 exact loops_none (by kernel_rfl)
theorem cg.eqX (F:Nat) (aa:Int) (ab:Int) (ax:Int) (aM:Int) (aJ:Int) (H:Hp):aCode tabs (mkOrc (cg.cs F)) cg.pn (cg.lh F) F [] 1 cg.code (argTm [(.agg [(.int .i64 aa),(.int .i64 ab),(.int .i64 ax),(.int .i64 aM),(.int .i64 aJ)])]) H (fun tm H=>aresults tabs.ty H tm Try.f65.results.toList fun v=>some (v,H)) (fun _ _ _=>none) (fun tm H=>aresults tabs.ty H tm Try.f65.results.toList fun v=>some (v,H)) = cg.twX F aa ab ax aM aJ H:=by kernel_rfl
theorem cg.cs_ok (F:Nat):∀ p ∈ cg.cs F,∀ args H v H',p.2 args H = some (v,H')→Go.AE.T Try.prog p.1 args H v H':=by
 intro p hp
 exact absurd (show p ∈ [] from hp) List.not_mem_nil
theorem cg.ok:codeOk cg.pn Try.f65.ntmps cg.tb cg.code = true:=by kernel_rfl
theorem cg.T {F:Nat} {aa:Int} {ab:Int} {ax:Int} {aM:Int} {aJ:Int} {H:Hp} {v:AV} {H':Hp} (h:cg.tw F aa ab ax aM aJ H = some (v,H')):Go.AE.T Try.prog 65 [(.agg [(.int .i64 aa),(.int .i64 ab),(.int .i64 ax),(.int .i64 aM),(.int .i64 aJ)])] H v H':=
 Go.AE.T.of (Y:=tabs) (C:=mkOrc (cg.cs F)) (PN:=cg.pn) (LH:=cg.lh F) (F:=F) (TB:=cg.tb) (fn:=Try.f65) (code:=cg.code) mixed tabs_ok (mkOrc_ok (cg.cs_ok F)) Try.func65 (by kernel_rfl) (by kernel_rfl) cg.ok (Nat.le_of_ble_eq_true (by kernel_rfl)) (cg.loops F) (Eq.trans (cg.eqX F aa ab ax aM aJ H) h)
theorem cg.mk_T {F:Nat} {args:List AV} {H:Hp} {v:AV} {H':Hp} (h:cg.mk (cg.tw F) args H = some (v,H')):Go.AE.T Try.prog 65 args H v H':=by
 unfold cg.mk at h
 split at h
 ·exact cg.T h
 ·cases h
def bd.l13 (F:Nat) (fS:Int→Int→Int→Int→Int→Hp→OA) :Nat→Sl→Int→Int→Hp→OA
 | 0,_,_,_,_=>none
 | lj + 1,kk,hQ,fT,H6=>(bif (decide (fT < hQ)) then ((Sl.idx kk fT 5).bind fun p15=>(Hp.ldI H6 .i64 p15.1 p15.2).bind fun n16=>(Hp.ldI H6 .i64 p15.1 (p15.2 + 1)).bind fun n17=>(Hp.ldI H6 .i64 p15.1 (p15.2 + 2)).bind fun n18=>(Hp.ldI H6 .i64 p15.1 (p15.2 + 3)).bind fun n19=>(Hp.ldI H6 .i64 p15.1 (p15.2 + 4)).bind fun n20=>(fS n16 n17 n18 n19 n20 H6).bind fun r21=>((r21.1).asB).bind fun b22=>(bif b22 then (some ((.int .i64 fT),r21.2)) else (bd.l13 F fS lj kk hQ (IntKind.i64.wrap (fT + 1)) r21.2))) else (some ((.int .i64 (-1)),H6)))
termination_by structural n=>n
def bd.twX (F:Nat) (fS:Int→Int→Int→Int→Int→Hp→OA) (aa:Sl) (H:Hp):OA:=bd.l13 F fS F aa (aa.n:Int) 0 H
def bd.tw (F:Nat) (aa:Sl) (H:Hp):OA:=bd.twX F (cg.tw F) aa H
def bd.code:Go.Code:=(Try.f99.body).getD .skip
def bd.lh13 (F:Nat) (fS:Int→Int→Int→Int→Int→Hp→OA) (ks:List Nat) (n:Nat) (tm:Tm) (H:Hp):OA:=match ks,tm 0,tm 1,tm 7,tm 8 with
 | [],(.sl kk),(.fn 65 []),(.int .i64 hQ),(.int .i64 fT)=>bd.l13 F fS n kk hQ fT H
 | _,_,_,_,_=>none
theorem bd.lh13_inv {F:Nat} {fS:Int→Int→Int→Int→Int→Hp→OA} {ks:List Nat} {n:Nat} {tm:Tm} {H:Hp} {r:AV×Hp} (h:bd.lh13 F fS ks n tm H = some r):∃ kk:Sl,∃ hQ:Int,∃ fT:Int,ks = []∧tm 0 = (.sl kk)∧tm 1 = (.fn 65 [])∧tm 7 = (.int .i64 hQ)∧tm 8 = (.int .i64 fT)∧bd.l13 F fS n kk hQ fT H = some r:=by
 unfold bd.lh13 at h
 split at h
 ·exact ⟨_,_,_,rfl,by assumption,by assumption,by assumption,by assumption,h⟩
 ·cases h
def bd.lh (F:Nat) (fS:Int→Int→Int→Int→Int→Hp→OA) (p:Nat) (ks:List Nat) (n:Nat) (tm:Tm) (H:Hp):OA:=bif p.beq 13 then bd.lh13 F fS ks n tm H else (none)
def bd.pn:Nat→List Nat:=fun i=>(([]:List (Nat×List Nat)).lookup i).getD []
def bd.tb:Nat→List (List Nat):=fun i=>(([]:List (Nat×List (List Nat))).lookup i).getD []
def bd.mk (g:Sl→Hp→OA) (args:List AV) (H:Hp):OA:=match args with
 | [(.sl aa),(.fn 65 [])]=>g aa H
 | _=>none
def bd.cs (F:Nat) (fS:Int→Int→Int→Int→Int→Hp→OA):List (FuncId×(List AV→Hp→OA)):=[(65,cg.mk fS)]
theorem bd.loops (F:Nat) (fS:Int→Int→Int→Int→Int→Hp→OA):LoopsOk tabs (mkOrc (bd.cs F fS)) bd.pn (bd.lh F fS) F [] 1 bd.code (fun tm H=>aresults tabs.ty H tm Try.f99.results.toList fun v=>some (v,H)) (fun _ _ _=>none) (fun tm H=>aresults tabs.ty H tm Try.f99.results.toList fun v=>some (v,H)):=by
 refine LoopsOk.seq ?_ ?_
 ·exact loops_none (by kernel_rfl)
 ·refine LoopsOk.seq ?_ ?_
  ·refine LoopsOk.seq ?_ ?_
   ·exact loops_none (by kernel_rfl)
   ·refine LoopsOk.block ?_
    refine LoopsOk.loop (fun tm H=>?_) (fun k13 tm H r h0=>?_) (fun k13=>?_)
    ·refine none_of fun r h0=>?_
     obtain ⟨kk,hQ,fT,hks,e0,e1,e7,e8,h⟩:=bd.lh13_inv (show bd.lh13 F fS [] 0 tm H = some r from h0)
     cases h
    ·obtain ⟨kk,hQ,fT,hks,e0,e1,e7,e8,h⟩:=bd.lh13_inv (show bd.lh13 F fS [] (k13 + 1) tm H = some r from h0)
     have q0:(Tm.put tm 0 (.sl kk)) = tm:=by exact Tm.put_same e0
     have q1:(Tm.put (Tm.put tm 0 (.sl kk)) 1 (.fn 65 [])) = tm:=by rw [q0]; exact Tm.put_same e1
     have q2:(Tm.put (Tm.put (Tm.put tm 0 (.sl kk)) 1 (.fn 65 [])) 7 (.int .i64 hQ)) = tm:=by rw [q1]; exact Tm.put_same e7
     have q3:(Tm.put (Tm.put (Tm.put (Tm.put tm 0 (.sl kk)) 1 (.fn 65 [])) 7 (.int .i64 hQ)) 8 (.int .i64 fT)) = tm:=by rw [q2]; exact Tm.put_same e8
     rw [← q3]
     exact Eq.trans (by kernel_rfl) h
    ·exact loops_none (by kernel_rfl)
  ·exact loops_none (by kernel_rfl)
theorem bd.eqX (F:Nat) (fS:Int→Int→Int→Int→Int→Hp→OA) (aa:Sl) (H:Hp):aCode tabs (mkOrc (bd.cs F fS)) bd.pn (bd.lh F fS) F [] 1 bd.code (argTm [(.sl aa),(.fn 65 [])]) H (fun tm H=>aresults tabs.ty H tm Try.f99.results.toList fun v=>some (v,H)) (fun _ _ _=>none) (fun tm H=>aresults tabs.ty H tm Try.f99.results.toList fun v=>some (v,H)) = bd.twX F fS aa H:=by kernel_rfl
theorem bd.cs_ok (F:Nat):∀ p ∈ bd.cs F (cg.tw F),∀ args H v H',p.2 args H = some (v,H')→Go.AE.T Try.prog p.1 args H v H':=by
 intro p hp
 simp only [bd.cs,List.mem_cons,List.not_mem_nil,or_false] at hp
 subst hp
 exact fun args H v H' h=>cg.mk_T h
theorem bd.ok:codeOk bd.pn Try.f99.ntmps bd.tb bd.code = true:=by kernel_rfl
theorem bd.T {F:Nat} {aa:Sl} {H:Hp} {v:AV} {H':Hp} (h:bd.tw F aa H = some (v,H')):Go.AE.T Try.prog 99 [(.sl aa),(.fn 65 [])] H v H':=
 Go.AE.T.of (Y:=tabs) (C:=mkOrc (bd.cs F (cg.tw F))) (PN:=bd.pn) (LH:=bd.lh F (cg.tw F)) (F:=F) (TB:=bd.tb) (fn:=Try.f99) (code:=bd.code) mixed tabs_ok (mkOrc_ok (bd.cs_ok F)) Try.func99 (by kernel_rfl) (by kernel_rfl) bd.ok (Nat.le_of_ble_eq_true (by kernel_rfl)) (bd.loops F (cg.tw F)) (Eq.trans (bd.eqX F (cg.tw F) aa H) h)
theorem bd.mk_T {F:Nat} {args:List AV} {H:Hp} {v:AV} {H':Hp} (h:bd.mk (bd.tw F) args H = some (v,H')):Go.AE.T Try.prog 99 args H v H':=by
 unfold bd.mk at h
 split at h
 ·exact bd.T h
 ·cases h
def bY.twX (F:Nat) (lv:Sl→Hp→OA) (aa:Sl) (H:Hp):OA:=(lv aa H).bind fun r2=>((r2.1).asI .i64).bind fun n3=>some ((.bool (decide (n3 ≥ 0))),r2.2)
def bY.tw (F:Nat) (aa:Sl) (H:Hp):OA:=bY.twX F (bd.tw F) aa H
def bY.code:Go.Code:=(Try.f64.body).getD .skip
def bY.lh (F:Nat) (lv:Sl→Hp→OA) (p:Nat) (ks:List Nat) (n:Nat) (tm:Tm) (H:Hp):OA:=none
def bY.pn:Nat→List Nat:=fun i=>(([]:List (Nat×List Nat)).lookup i).getD []
def bY.tb:Nat→List (List Nat):=fun i=>(([]:List (Nat×List (List Nat))).lookup i).getD []
def bY.mk (g:Sl→Hp→OA) (args:List AV) (H:Hp):OA:=match args with
 | [(.sl aa),(.fn 65 [])]=>g aa H
 | _=>none
def bY.cs (F:Nat) (lv:Sl→Hp→OA):List (FuncId×(List AV→Hp→OA)):=[(99,bd.mk lv)]
theorem bY.loops (F:Nat) (lv:Sl→Hp→OA):LoopsOk tabs (mkOrc (bY.cs F lv)) bY.pn (bY.lh F lv) F [] 1 bY.code (fun tm H=>aresults tabs.ty H tm Try.f64.results.toList fun v=>some (v,H)) (fun _ _ _=>none) (fun tm H=>aresults tabs.ty H tm Try.f64.results.toList fun v=>some (v,H)):=by
 exact loops_none (by kernel_rfl)
theorem bY.eqX (F:Nat) (lv:Sl→Hp→OA) (aa:Sl) (H:Hp):aCode tabs (mkOrc (bY.cs F lv)) bY.pn (bY.lh F lv) F [] 1 bY.code (argTm [(.sl aa),(.fn 65 [])]) H (fun tm H=>aresults tabs.ty H tm Try.f64.results.toList fun v=>some (v,H)) (fun _ _ _=>none) (fun tm H=>aresults tabs.ty H tm Try.f64.results.toList fun v=>some (v,H)) = bY.twX F lv aa H:=by kernel_rfl
theorem bY.cs_ok (F:Nat):∀ p ∈ bY.cs F (bd.tw F),∀ args H v H',p.2 args H = some (v,H')→Go.AE.T Try.prog p.1 args H v H':=by
 intro p hp
 simp only [bY.cs,List.mem_cons,List.not_mem_nil,or_false] at hp
 subst hp
 exact fun args H v H' h=>bd.mk_T h
theorem bY.ok:codeOk bY.pn Try.f64.ntmps bY.tb bY.code = true:=by kernel_rfl
theorem bY.T {F:Nat} {aa:Sl} {H:Hp} {v:AV} {H':Hp} (h:bY.tw F aa H = some (v,H')):Go.AE.T Try.prog 64 [(.sl aa),(.fn 65 [])] H v H':=
 Go.AE.T.of (Y:=tabs) (C:=mkOrc (bY.cs F (bd.tw F))) (PN:=bY.pn) (LH:=bY.lh F (bd.tw F)) (F:=F) (TB:=bY.tb) (fn:=Try.f64) (code:=bY.code) mixed tabs_ok (mkOrc_ok (bY.cs_ok F)) Try.func64 (by kernel_rfl) (by kernel_rfl) bY.ok (Nat.le_of_ble_eq_true (by kernel_rfl)) (bY.loops F (bd.tw F)) (Eq.trans (bY.eqX F (bd.tw F) aa H) h)
theorem bY.mk_T {F:Nat} {args:List AV} {H:Hp} {v:AV} {H':Hp} (h:bY.mk (bY.tw F) args H = some (v,H')):Go.AE.T Try.prog 64 args H v H':=by
 unfold bY.mk at h
 split at h
 ·exact bY.T h
 ·cases h
def bits_Mul64.twX (F:Nat) (aa:Int) (ak:Int) (H:Hp):OA:=some ((.tup [(.int .u64 (IntKind.u64.wrap ((IntKind.u64.wrap ((IntKind.u64.wrap ((Int.fdiv aa (2 ^ (min (32:Int).toNat (IntKind.u64).bits))) * (Int.fdiv ak (2 ^ (min (32:Int).toNat (IntKind.u64).bits))))) + (Int.fdiv (IntKind.u64.wrap ((IntKind.u64.wrap ((Int.fdiv aa (2 ^ (min (32:Int).toNat (IntKind.u64).bits))) * (Go.bits .and .u64 ak 4294967295))) + (Int.fdiv (IntKind.u64.wrap ((Go.bits .and .u64 aa 4294967295) * (Go.bits .and .u64 ak 4294967295))) (2 ^ (min (32:Int).toNat (IntKind.u64).bits))))) (2 ^ (min (32:Int).toNat (IntKind.u64).bits))))) + (Int.fdiv (IntKind.u64.wrap ((Go.bits .and .u64 (IntKind.u64.wrap ((IntKind.u64.wrap ((Int.fdiv aa (2 ^ (min (32:Int).toNat (IntKind.u64).bits))) * (Go.bits .and .u64 ak 4294967295))) + (Int.fdiv (IntKind.u64.wrap ((Go.bits .and .u64 aa 4294967295) * (Go.bits .and .u64 ak 4294967295))) (2 ^ (min (32:Int).toNat (IntKind.u64).bits))))) 4294967295) + (IntKind.u64.wrap ((Go.bits .and .u64 aa 4294967295) * (Int.fdiv ak (2 ^ (min (32:Int).toNat (IntKind.u64).bits))))))) (2 ^ (min (32:Int).toNat (IntKind.u64).bits)))))),(.int .u64 (IntKind.u64.wrap (aa * ak)))]),H)
def bits_Mul64.tw (F:Nat) (aa:Int) (ak:Int) (H:Hp):OA:=bits_Mul64.twX F aa ak H
def bits_Mul64.code:Go.Code:=(Try.f139.body).getD .skip
def bits_Mul64.lh (F:Nat) (p:Nat) (ks:List Nat) (n:Nat) (tm:Tm) (H:Hp):OA:=none
def bits_Mul64.pn:Nat→List Nat:=fun i=>(([]:List (Nat×List Nat)).lookup i).getD []
def bits_Mul64.tb:Nat→List (List Nat):=fun i=>(([]:List (Nat×List (List Nat))).lookup i).getD []
def bits_Mul64.mk (g:Int→Int→Hp→OA) (args:List AV) (H:Hp):OA:=match args with
 | [(.int .u64 aa),(.int .u64 ak)]=>g aa ak H
 | _=>none
def bits_Mul64.cs (F:Nat):List (FuncId×(List AV→Hp→OA)):=[]
theorem bits_Mul64.loops (F:Nat):LoopsOk tabs (mkOrc (bits_Mul64.cs F)) bits_Mul64.pn (bits_Mul64.lh F) F [] 1 bits_Mul64.code (fun tm H=>aresults tabs.ty H tm Try.f139.results.toList fun v=>some (v,H)) (fun _ _ _=>none) (fun tm H=>aresults tabs.ty H tm Try.f139.results.toList fun v=>some (v,H)):=by
 exact loops_none (by kernel_rfl)
theorem bits_Mul64.eqX (F:Nat) (aa:Int) (ak:Int) (H:Hp):aCode tabs (mkOrc (bits_Mul64.cs F)) bits_Mul64.pn (bits_Mul64.lh F) F [] 1 bits_Mul64.code (argTm [(.int .u64 aa),(.int .u64 ak)]) H (fun tm H=>aresults tabs.ty H tm Try.f139.results.toList fun v=>some (v,H)) (fun _ _ _=>none) (fun tm H=>aresults tabs.ty H tm Try.f139.results.toList fun v=>some (v,H)) = bits_Mul64.twX F aa ak H:=by kernel_rfl
theorem bits_Mul64.cs_ok (F:Nat):∀ p ∈ bits_Mul64.cs F,∀ args H v H',p.2 args H = some (v,H')→Go.AE.T Try.prog p.1 args H v H':=by
 intro p hp
 exact absurd (show p ∈ [] from hp) List.not_mem_nil
theorem bits_Mul64.ok:codeOk bits_Mul64.pn Try.f139.ntmps bits_Mul64.tb bits_Mul64.code = true:=by kernel_rfl
theorem bits_Mul64.T {F:Nat} {aa:Int} {ak:Int} {H:Hp} {v:AV} {H':Hp} (h:bits_Mul64.tw F aa ak H = some (v,H')):Go.AE.T Try.prog 139 [(.int .u64 aa),(.int .u64 ak)] H v H':=
 Go.AE.T.of (Y:=tabs) (C:=mkOrc (bits_Mul64.cs F)) (PN:=bits_Mul64.pn) (LH:=bits_Mul64.lh F) (F:=F) (TB:=bits_Mul64.tb) (fn:=Try.f139) (code:=bits_Mul64.code) mixed tabs_ok (mkOrc_ok (bits_Mul64.cs_ok F)) Try.func139 (by kernel_rfl) (by kernel_rfl) bits_Mul64.ok (Nat.le_of_ble_eq_true (by kernel_rfl)) (bits_Mul64.loops F) (Eq.trans (bits_Mul64.eqX F aa ak H) h)
theorem bits_Mul64.mk_T {F:Nat} {args:List AV} {H:Hp} {v:AV} {H':Hp} (h:bits_Mul64.mk (bits_Mul64.tw F) args H = some (v,H')):Go.AE.T Try.prog 139 args H v H':=by
 unfold bits_Mul64.mk at h
 split at h
 ·exact bits_Mul64.T h
 ·cases h
def bits_Mul.twX (F:Nat) (g_bits_Mul64:Int→Int→Hp→OA) (aa:Int) (ak:Int) (H:Hp):OA:=(g_bits_Mul64 aa ak H).bind fun r3=>((r3.1).asTup 2).bind fun l4=>(l4[0]?).bind fun v5=>((v5).asI .u64).bind fun n6=>(l4[1]?).bind fun v7=>((v7).asI .u64).bind fun n8=>some ((.tup [(.int .u64 n6),(.int .u64 n8)]),r3.2)
def bits_Mul.tw (F:Nat) (aa:Int) (ak:Int) (H:Hp):OA:=bits_Mul.twX F (bits_Mul64.tw F) aa ak H
def bits_Mul.code:Go.Code:=(Try.f112.body).getD .skip
def bits_Mul.lh (F:Nat) (g_bits_Mul64:Int→Int→Hp→OA) (p:Nat) (ks:List Nat) (n:Nat) (tm:Tm) (H:Hp):OA:=none
def bits_Mul.pn:Nat→List Nat:=fun i=>(([]:List (Nat×List Nat)).lookup i).getD []
def bits_Mul.tb:Nat→List (List Nat):=fun i=>(([]:List (Nat×List (List Nat))).lookup i).getD []
def bits_Mul.mk (g:Int→Int→Hp→OA) (args:List AV) (H:Hp):OA:=match args with
 | [(.int .u64 aa),(.int .u64 ak)]=>g aa ak H
 | _=>none
def bits_Mul.cs (F:Nat) (g_bits_Mul64:Int→Int→Hp→OA):List (FuncId×(List AV→Hp→OA)):=[(139,bits_Mul64.mk g_bits_Mul64)]
theorem bits_Mul.loops (F:Nat) (g_bits_Mul64:Int→Int→Hp→OA):LoopsOk tabs (mkOrc (bits_Mul.cs F g_bits_Mul64)) bits_Mul.pn (bits_Mul.lh F g_bits_Mul64) F [] 1 bits_Mul.code (fun tm H=>aresults tabs.ty H tm Try.f112.results.toList fun v=>some (v,H)) (fun _ _ _=>none) (fun tm H=>aresults tabs.ty H tm Try.f112.results.toList fun v=>some (v,H)):=by
 exact loops_none (by kernel_rfl)
theorem bits_Mul.eqX (F:Nat) (g_bits_Mul64:Int→Int→Hp→OA) (aa:Int) (ak:Int) (H:Hp):aCode tabs (mkOrc (bits_Mul.cs F g_bits_Mul64)) bits_Mul.pn (bits_Mul.lh F g_bits_Mul64) F [] 1 bits_Mul.code (argTm [(.int .u64 aa),(.int .u64 ak)]) H (fun tm H=>aresults tabs.ty H tm Try.f112.results.toList fun v=>some (v,H)) (fun _ _ _=>none) (fun tm H=>aresults tabs.ty H tm Try.f112.results.toList fun v=>some (v,H)) = bits_Mul.twX F g_bits_Mul64 aa ak H:=by kernel_rfl
theorem bits_Mul.cs_ok (F:Nat):∀ p ∈ bits_Mul.cs F (bits_Mul64.tw F),∀ args H v H',p.2 args H = some (v,H')→Go.AE.T Try.prog p.1 args H v H':=by
 intro p hp
 simp only [bits_Mul.cs,List.mem_cons,List.not_mem_nil,or_false] at hp
 subst hp
 exact fun args H v H' h=>bits_Mul64.mk_T h
theorem bits_Mul.ok:codeOk bits_Mul.pn Try.f112.ntmps bits_Mul.tb bits_Mul.code = true:=by kernel_rfl
theorem bits_Mul.T {F:Nat} {aa:Int} {ak:Int} {H:Hp} {v:AV} {H':Hp} (h:bits_Mul.tw F aa ak H = some (v,H')):Go.AE.T Try.prog 112 [(.int .u64 aa),(.int .u64 ak)] H v H':=
 Go.AE.T.of (Y:=tabs) (C:=mkOrc (bits_Mul.cs F (bits_Mul64.tw F))) (PN:=bits_Mul.pn) (LH:=bits_Mul.lh F (bits_Mul64.tw F)) (F:=F) (TB:=bits_Mul.tb) (fn:=Try.f112) (code:=bits_Mul.code) mixed tabs_ok (mkOrc_ok (bits_Mul.cs_ok F)) Try.func112 (by kernel_rfl) (by kernel_rfl) bits_Mul.ok (Nat.le_of_ble_eq_true (by kernel_rfl)) (bits_Mul.loops F (bits_Mul64.tw F)) (Eq.trans (bits_Mul.eqX F (bits_Mul64.tw F) aa ak H) h)
theorem bits_Mul.mk_T {F:Nat} {args:List AV} {H:Hp} {v:AV} {H':Hp} (h:bits_Mul.mk (bits_Mul.tw F) args H = some (v,H')):Go.AE.T Try.prog 112 args H v H':=by
 unfold bits_Mul.mk at h
 split at h
 ·exact bits_Mul.T h
 ·cases h
def aT.l254 (F:Nat) (g_bits_Mul:Int→Int→Hp→OA) :Nat→Sl→Int→Hp→OA
 | 0,_,_,_=>none
 | Ih + 1,cK,cP,H33=>(bif (decide (cP < (cK.n:Int))) then ((Sl.cut cK 2 cP (cK.n:Int)).bind fun s37=>(Sl.cut cK 2 0 cP).bind fun s38=>(Hp.cpy H33 2 s37 s38).bind fun c39=>aT.l254 F g_bits_Mul Ih cK (IntKind.i64.wrap (cP + (c39.1:Int))) c39.2) else (some ((.sl cK),H33)))
termination_by structural n=>n
def aT.j1 (F:Nat) (g_bits_Mul:Int→Int→Hp→OA) (Ii:Sl) (jC:Int) (H21:Hp):OA:=(Hp.mk H21 [.int .i64 0,.int .i64 0] 16 (IntKind.i64.wrap jC) (IntKind.i64.wrap jC)).bind fun m22=>(Hp.cpy m22.2 2 m22.1 Ii).bind fun c23=>aT.l254 F g_bits_Mul F m22.1 (c23.1:Int) c23.2
def aT.j2 (F:Nat) (g_bits_Mul:Int→Int→Hp→OA) (uq:Sl) (kl:Int) (H7:Hp):OA:=(g_bits_Mul (IntKind.u64.wrap (uq.n:Int)) (IntKind.u64.wrap kl) H7).bind fun r8=>((r8.1).asTup 2).bind fun l9=>(l9[0]?).bind fun v10=>((v10).asI .u64).bind fun n11=>(l9[1]?).bind fun v12=>((v12).asI .u64).bind fun n13=>(bif (decide (n11 > 0)) then (none) else ((bif (decide (n13 > 9223372036854775807)) then (none) else (aT.j1 F g_bits_Mul uq n13 r8.2))))
def aT.twX (F:Nat) (g_bits_Mul:Int→Int→Hp→OA) (aa:Sl) (ak:Int) (H:Hp):OA:=(bif (decide (ak < 0)) then (none) else (aT.j2 F g_bits_Mul aa ak H))
def aT.tw (F:Nat) (aa:Sl) (ak:Int) (H:Hp):OA:=aT.twX F (bits_Mul.tw F) aa ak H
def aT.code:Go.Code:=(Try.f100.body).getD .skip
def aT.lh254 (F:Nat) (g_bits_Mul:Int→Int→Hp→OA) (ks:List Nat) (n:Nat) (tm:Tm) (H:Hp):OA:=match ks,tm 7,tm 8 with
 | [],(.sl cK),(.int .i64 cP)=>aT.l254 F g_bits_Mul n cK cP H
 | _,_,_=>none
theorem aT.lh254_inv {F:Nat} {g_bits_Mul:Int→Int→Hp→OA} {ks:List Nat} {n:Nat} {tm:Tm} {H:Hp} {r:AV×Hp} (h:aT.lh254 F g_bits_Mul ks n tm H = some r):∃ cK:Sl,∃ cP:Int,ks = []∧tm 7 = (.sl cK)∧tm 8 = (.int .i64 cP)∧aT.l254 F g_bits_Mul n cK cP H = some r:=by
 unfold aT.lh254 at h
 split at h
 ·exact ⟨_,_,rfl,by assumption,by assumption,h⟩
 ·cases h
def aT.lh (F:Nat) (g_bits_Mul:Int→Int→Hp→OA) (p:Nat) (ks:List Nat) (n:Nat) (tm:Tm) (H:Hp):OA:=bif p.beq 254 then aT.lh254 F g_bits_Mul ks n tm H else (none)
def aT.pn:Nat→List Nat:=fun i=>(([(9,[7])]:List (Nat×List Nat)).lookup i).getD []
def aT.tb:Nat→List (List Nat):=fun i=>(([(9,[[],[],[],[1,2],[],[],[4,5],[1,2,3,4,5,6],[0,1,2,3,4,5,6,7],[0,1,2,3,4,5,6,7,8]])]:List (Nat×List (List Nat))).lookup i).getD []
def aT.mk (g:Sl→Int→Hp→OA) (args:List AV) (H:Hp):OA:=match args with
 | [(.sl aa),(.int .i64 ak)]=>g aa ak H
 | _=>none
def aT.cs (F:Nat) (g_bits_Mul:Int→Int→Hp→OA):List (FuncId×(List AV→Hp→OA)):=[(112,bits_Mul.mk g_bits_Mul)]
theorem aT.loops (F:Nat) (g_bits_Mul:Int→Int→Hp→OA):LoopsOk tabs (mkOrc (aT.cs F g_bits_Mul)) aT.pn (aT.lh F g_bits_Mul) F [] 1 aT.code (fun tm H=>aresults tabs.ty H tm Try.f100.results.toList fun v=>some (v,H)) (fun _ _ _=>none) (fun tm H=>aresults tabs.ty H tm Try.f100.results.toList fun v=>some (v,H)):=by
 refine LoopsOk.seq ?_ ?_
 ·exact loops_none (by kernel_rfl)
 ·refine LoopsOk.seq ?_ ?_
  ·exact loops_none (by kernel_rfl)
  ·refine LoopsOk.seq ?_ ?_
   ·exact loops_none (by kernel_rfl)
   ·refine LoopsOk.seq ?_ ?_
    ·exact loops_none (by kernel_rfl)
    ·refine LoopsOk.seq ?_ ?_
     ·exact loops_none (by kernel_rfl)
     ·refine LoopsOk.seq ?_ ?_
      ·exact loops_none (by kernel_rfl)
      ·refine LoopsOk.seq ?_ ?_
       ·refine LoopsOk.block ?_
        refine LoopsOk.loop (fun tm H=>?_) (fun k254 tm H r h0=>?_) (fun k254=>?_)
        ·refine none_of fun r h0=>?_
         obtain ⟨cK,cP,hks,e7,e8,h⟩:=aT.lh254_inv (show aT.lh254 F g_bits_Mul [] 0 tm H = some r from h0)
         cases h
        ·obtain ⟨cK,cP,hks,e7,e8,h⟩:=aT.lh254_inv (show aT.lh254 F g_bits_Mul [] (k254 + 1) tm H = some r from h0)
         have q0:(Tm.put tm 7 (.sl cK)) = tm:=by exact Tm.put_same e7
         have q1:(Tm.put (Tm.put tm 7 (.sl cK)) 8 (.int .i64 cP)) = tm:=by rw [q0]; exact Tm.put_same e8
         rw [← q1]
         exact Eq.trans (by kernel_rfl) h
        ·exact loops_none (by kernel_rfl)
       ·exact loops_none (by kernel_rfl)
theorem aT.eqX (F:Nat) (g_bits_Mul:Int→Int→Hp→OA) (aa:Sl) (ak:Int) (H:Hp):aCode tabs (mkOrc (aT.cs F g_bits_Mul)) aT.pn (aT.lh F g_bits_Mul) F [] 1 aT.code (argTm [(.sl aa),(.int .i64 ak)]) H (fun tm H=>aresults tabs.ty H tm Try.f100.results.toList fun v=>some (v,H)) (fun _ _ _=>none) (fun tm H=>aresults tabs.ty H tm Try.f100.results.toList fun v=>some (v,H)) = aT.twX F g_bits_Mul aa ak H:=by kernel_rfl
theorem aT.cs_ok (F:Nat):∀ p ∈ aT.cs F (bits_Mul.tw F),∀ args H v H',p.2 args H = some (v,H')→Go.AE.T Try.prog p.1 args H v H':=by
 intro p hp
 simp only [aT.cs,List.mem_cons,List.not_mem_nil,or_false] at hp
 subst hp
 exact fun args H v H' h=>bits_Mul.mk_T h
theorem aT.ok:codeOk aT.pn Try.f100.ntmps aT.tb aT.code = true:=by kernel_rfl
theorem aT.T {F:Nat} {aa:Sl} {ak:Int} {H:Hp} {v:AV} {H':Hp} (h:aT.tw F aa ak H = some (v,H')):Go.AE.T Try.prog 100 [(.sl aa),(.int .i64 ak)] H v H':=
 Go.AE.T.of (Y:=tabs) (C:=mkOrc (aT.cs F (bits_Mul.tw F))) (PN:=aT.pn) (LH:=aT.lh F (bits_Mul.tw F)) (F:=F) (TB:=aT.tb) (fn:=Try.f100) (code:=aT.code) mixed tabs_ok (mkOrc_ok (aT.cs_ok F)) Try.func100 (by kernel_rfl) (by kernel_rfl) aT.ok (Nat.le_of_ble_eq_true (by kernel_rfl)) (aT.loops F (bits_Mul.tw F)) (Eq.trans (aT.eqX F (bits_Mul.tw F) aa ak H) h)
theorem aT.mk_T {F:Nat} {args:List AV} {H:Hp} {v:AV} {H':Hp} (h:aT.mk (aT.tw F) args H = some (v,H')):Go.AE.T Try.prog 100 args H v H':=by
 unfold aT.mk at h
 split at h
 ·exact aT.T h
 ·cases h
def bA.twX (F:Nat) (aa:Int) (ab:Int) (ax:Int) (aM:Int) (aJ:Int) (H:Hp):OA:=(Hp.new H [(.int .i64 aa),(.int .i64 ab),(.int .i64 ax),(.int .i64 aM),(.int .i64 aJ)]).bind fun H6=>(Hp.new H6 [.int .i64 0,.int .i64 0,.int .i64 0,.int .i64 0]).bind fun H7=>(Hp.ldI H7 .i64 H.length 0).bind fun n8=>(Hp.ldI H7 .i64 H.length 1).bind fun n9=>(Hp.ldI H7 .i64 H.length 2).bind fun n10=>(Hp.ldI H7 .i64 H.length 3).bind fun n11=>(Hp.st H7 H6.length 0 (.int .i64 n8)).bind fun H12=>(Hp.st H12 H6.length (0 + 1) (.int .i64 n9)).bind fun H13=>(Hp.st H13 H6.length (0 + 1 + 1) (.int .i64 n10)).bind fun H14=>(Hp.st H14 H6.length (0 + 1 + 1 + 1) (.int .i64 n11)).bind fun H15=>(Hp.ldI H15 .i64 H6.length 0).bind fun n16=>(Hp.ldI H15 .i64 H6.length (0 + 1)).bind fun n17=>(Hp.ldI H15 .i64 H6.length (0 + 2)).bind fun n18=>(Hp.ldI H15 .i64 H6.length (0 + 3)).bind fun n19=>some ((.agg [(.int .i64 n16),(.int .i64 n17),(.int .i64 n18),(.int .i64 n19)]),H15)
def bA.tw (F:Nat) (aa:Int) (ab:Int) (ax:Int) (aM:Int) (aJ:Int) (H:Hp):OA:=bA.twX F aa ab ax aM aJ H
def bA.code:Go.Code:=(Try.f101.body).getD .skip
def bA.lh (F:Nat) (p:Nat) (ks:List Nat) (n:Nat) (tm:Tm) (H:Hp):OA:=none
def bA.pn:Nat→List Nat:=fun i=>(([]:List (Nat×List Nat)).lookup i).getD []
def bA.tb:Nat→List (List Nat):=fun i=>(([]:List (Nat×List (List Nat))).lookup i).getD []
def bA.mk (g:Int→Int→Int→Int→Int→Hp→OA) (args:List AV) (H:Hp):OA:=match args with
 | [(.agg [(.int .i64 aa),(.int .i64 ab),(.int .i64 ax),(.int .i64 aM),(.int .i64 aJ)])]=>g aa ab ax aM aJ H
 | _=>none
def bA.cs (F:Nat):List (FuncId×(List AV→Hp→OA)):=[]
theorem bA.loops (F:Nat):LoopsOk tabs (mkOrc (bA.cs F)) bA.pn (bA.lh F) F [] 1 bA.code (fun tm H=>aresults tabs.ty H tm Try.f101.results.toList fun v=>some (v,H)) (fun _ _ _=>none) (fun tm H=>aresults tabs.ty H tm Try.f101.results.toList fun v=>some (v,H)):=by
 exact loops_none (by kernel_rfl)
theorem bA.eqX (F:Nat) (aa:Int) (ab:Int) (ax:Int) (aM:Int) (aJ:Int) (H:Hp):aCode tabs (mkOrc (bA.cs F)) bA.pn (bA.lh F) F [] 1 bA.code (argTm [(.agg [(.int .i64 aa),(.int .i64 ab),(.int .i64 ax),(.int .i64 aM),(.int .i64 aJ)])]) H (fun tm H=>aresults tabs.ty H tm Try.f101.results.toList fun v=>some (v,H)) (fun _ _ _=>none) (fun tm H=>aresults tabs.ty H tm Try.f101.results.toList fun v=>some (v,H)) = bA.twX F aa ab ax aM aJ H:=by kernel_rfl
theorem bA.cs_ok (F:Nat):∀ p ∈ bA.cs F,∀ args H v H',p.2 args H = some (v,H')→Go.AE.T Try.prog p.1 args H v H':=by
 intro p hp
 exact absurd (show p ∈ [] from hp) List.not_mem_nil
theorem bA.ok:codeOk bA.pn Try.f101.ntmps bA.tb bA.code = true:=by kernel_rfl
theorem bA.T {F:Nat} {aa:Int} {ab:Int} {ax:Int} {aM:Int} {aJ:Int} {H:Hp} {v:AV} {H':Hp} (h:bA.tw F aa ab ax aM aJ H = some (v,H')):Go.AE.T Try.prog 101 [(.agg [(.int .i64 aa),(.int .i64 ab),(.int .i64 ax),(.int .i64 aM),(.int .i64 aJ)])] H v H':=
 Go.AE.T.of (Y:=tabs) (C:=mkOrc (bA.cs F)) (PN:=bA.pn) (LH:=bA.lh F) (F:=F) (TB:=bA.tb) (fn:=Try.f101) (code:=bA.code) mixed tabs_ok (mkOrc_ok (bA.cs_ok F)) Try.func101 (by kernel_rfl) (by kernel_rfl) bA.ok (Nat.le_of_ble_eq_true (by kernel_rfl)) (bA.loops F) (Eq.trans (bA.eqX F aa ab ax aM aJ H) h)
theorem bA.mk_T {F:Nat} {args:List AV} {H:Hp} {v:AV} {H':Hp} (h:bA.mk (bA.tw F) args H = some (v,H')):Go.AE.T Try.prog 101 args H v H':=by
 unfold bA.mk at h
 split at h
 ·exact bA.T h
 ·cases h
def bB.twX (F:Nat) (aa:Int) (ab:Int) (ax:Int) (aM:Int) (aJ:Int) (bw:Int) (H:Hp):OA:=(Hp.new H [(.int .i64 aa),(.int .i64 ab),(.int .i64 ax),(.int .i64 aM),(.int .i64 aJ)]).bind fun H7=>(bif (bw == 0) then (some ((.bool true),H7)) else ((Hp.ldI H7 .i64 H.length 4).bind fun n8=>some ((.bool (bw == (IntKind.i64.wrap (2 + n8)))),H7)))
def bB.tw (F:Nat) (aa:Int) (ab:Int) (ax:Int) (aM:Int) (aJ:Int) (bw:Int) (H:Hp):OA:=bB.twX F aa ab ax aM aJ bw H
def bB.code:Go.Code:=(Try.f102.body).getD .skip
def bB.lh (F:Nat) (p:Nat) (ks:List Nat) (n:Nat) (tm:Tm) (H:Hp):OA:=none
def bB.pn:Nat→List Nat:=fun i=>(([]:List (Nat×List Nat)).lookup i).getD []
def bB.tb:Nat→List (List Nat):=fun i=>(([]:List (Nat×List (List Nat))).lookup i).getD []
def bB.mk (g:Int→Int→Int→Int→Int→Int→Hp→OA) (args:List AV) (H:Hp):OA:=match args with
 | [(.agg [(.int .i64 aa),(.int .i64 ab),(.int .i64 ax),(.int .i64 aM),(.int .i64 aJ)]),(.int .i64 bw)]=>g aa ab ax aM aJ bw H
 | _=>none
def bB.cs (F:Nat):List (FuncId×(List AV→Hp→OA)):=[]
theorem bB.loops (F:Nat):LoopsOk tabs (mkOrc (bB.cs F)) bB.pn (bB.lh F) F [] 1 bB.code (fun tm H=>aresults tabs.ty H tm Try.f102.results.toList fun v=>some (v,H)) (fun _ _ _=>none) (fun tm H=>aresults tabs.ty H tm Try.f102.results.toList fun v=>some (v,H)):=by
 exact loops_none (by kernel_rfl)
theorem bB.eqX (F:Nat) (aa:Int) (ab:Int) (ax:Int) (aM:Int) (aJ:Int) (bw:Int) (H:Hp):aCode tabs (mkOrc (bB.cs F)) bB.pn (bB.lh F) F [] 1 bB.code (argTm [(.agg [(.int .i64 aa),(.int .i64 ab),(.int .i64 ax),(.int .i64 aM),(.int .i64 aJ)]),(.int .i64 bw)]) H (fun tm H=>aresults tabs.ty H tm Try.f102.results.toList fun v=>some (v,H)) (fun _ _ _=>none) (fun tm H=>aresults tabs.ty H tm Try.f102.results.toList fun v=>some (v,H)) = bB.twX F aa ab ax aM aJ bw H:=by kernel_rfl
theorem bB.cs_ok (F:Nat):∀ p ∈ bB.cs F,∀ args H v H',p.2 args H = some (v,H')→Go.AE.T Try.prog p.1 args H v H':=by
 intro p hp
 exact absurd (show p ∈ [] from hp) List.not_mem_nil
theorem bB.ok:codeOk bB.pn Try.f102.ntmps bB.tb bB.code = true:=by kernel_rfl
theorem bB.T {F:Nat} {aa:Int} {ab:Int} {ax:Int} {aM:Int} {aJ:Int} {bw:Int} {H:Hp} {v:AV} {H':Hp} (h:bB.tw F aa ab ax aM aJ bw H = some (v,H')):Go.AE.T Try.prog 102 [(.agg [(.int .i64 aa),(.int .i64 ab),(.int .i64 ax),(.int .i64 aM),(.int .i64 aJ)]),(.int .i64 bw)] H v H':=
 Go.AE.T.of (Y:=tabs) (C:=mkOrc (bB.cs F)) (PN:=bB.pn) (LH:=bB.lh F) (F:=F) (TB:=bB.tb) (fn:=Try.f102) (code:=bB.code) mixed tabs_ok (mkOrc_ok (bB.cs_ok F)) Try.func102 (by kernel_rfl) (by kernel_rfl) bB.ok (Nat.le_of_ble_eq_true (by kernel_rfl)) (bB.loops F) (Eq.trans (bB.eqX F aa ab ax aM aJ bw H) h)
theorem bB.mk_T {F:Nat} {args:List AV} {H:Hp} {v:AV} {H':Hp} (h:bB.mk (bB.tw F) args H = some (v,H')):Go.AE.T Try.prog 102 args H v H':=by
 unfold bB.mk at h
 split at h
 ·exact bB.T h
 ·cases h
def co.twX (F:Nat) (aa:Sl) (H:Hp):OA:=some ((.int .i64 (aa.n:Int)),H)
def co.tw (F:Nat) (aa:Sl) (H:Hp):OA:=co.twX F aa H
def co.code:Go.Code:=(Try.f131.body).getD .skip
def co.lh (F:Nat) (p:Nat) (ks:List Nat) (n:Nat) (tm:Tm) (H:Hp):OA:=none
def co.pn:Nat→List Nat:=fun i=>(([]:List (Nat×List Nat)).lookup i).getD []
def co.tb:Nat→List (List Nat):=fun i=>(([]:List (Nat×List (List Nat))).lookup i).getD []
def co.mk (g:Sl→Hp→OA) (args:List AV) (H:Hp):OA:=match args with
 | [(.sl aa)]=>g aa H
 | _=>none
def co.cs (F:Nat):List (FuncId×(List AV→Hp→OA)):=[]
theorem co.loops (F:Nat):LoopsOk tabs (mkOrc (co.cs F)) co.pn (co.lh F) F [] 1 co.code (fun tm H=>aresults tabs.ty H tm Try.f131.results.toList fun v=>some (v,H)) (fun _ _ _=>none) (fun tm H=>aresults tabs.ty H tm Try.f131.results.toList fun v=>some (v,H)):=by
 exact loops_none (by kernel_rfl)
theorem co.eqX (F:Nat) (aa:Sl) (H:Hp):aCode tabs (mkOrc (co.cs F)) co.pn (co.lh F) F [] 1 co.code (argTm [(.sl aa)]) H (fun tm H=>aresults tabs.ty H tm Try.f131.results.toList fun v=>some (v,H)) (fun _ _ _=>none) (fun tm H=>aresults tabs.ty H tm Try.f131.results.toList fun v=>some (v,H)) = co.twX F aa H:=by kernel_rfl
theorem co.cs_ok (F:Nat):∀ p ∈ co.cs F,∀ args H v H',p.2 args H = some (v,H')→Go.AE.T Try.prog p.1 args H v H':=by
 intro p hp
 exact absurd (show p ∈ [] from hp) List.not_mem_nil
theorem co.ok:codeOk co.pn Try.f131.ntmps co.tb co.code = true:=by kernel_rfl
theorem co.T {F:Nat} {aa:Sl} {H:Hp} {v:AV} {H':Hp} (h:co.tw F aa H = some (v,H')):Go.AE.T Try.prog 131 [(.sl aa)] H v H':=
 Go.AE.T.of (Y:=tabs) (C:=mkOrc (co.cs F)) (PN:=co.pn) (LH:=co.lh F) (F:=F) (TB:=co.tb) (fn:=Try.f131) (code:=co.code) mixed tabs_ok (mkOrc_ok (co.cs_ok F)) Try.func131 (by kernel_rfl) (by kernel_rfl) co.ok (Nat.le_of_ble_eq_true (by kernel_rfl)) (co.loops F) (Eq.trans (co.eqX F aa H) h)
theorem co.mk_T {F:Nat} {args:List AV} {H:Hp} {v:AV} {H':Hp} (h:co.mk (co.tw F) args H = some (v,H')):Go.AE.T Try.prog 131 args H v H':=by
 unfold co.mk at h
 split at h
 ·exact co.T h
 ·cases h
def bT.twX (F:Nat) (lw:Sl→Hp→OA) (fo:Int→Int→Int→Hp→OA) (aa:Sl) (ak:Int) (H:Hp):OA:=(lw aa H).bind fun r3=>((r3.1).asI .i64).bind fun n4=>(fo ak 0 (IntKind.i64.wrap (n4 - 1)) r3.2).bind fun r5=>((r5.1).asB).bind fun b6=>some ((.bool b6),r5.2)
def bT.tw (F:Nat) (aa:Sl) (ak:Int) (H:Hp):OA:=bT.twX F (co.tw F) (bD.tw F) aa ak H
def bT.code:Go.Code:=(Try.f103.body).getD .skip
def bT.lh (F:Nat) (lw:Sl→Hp→OA) (fo:Int→Int→Int→Hp→OA) (p:Nat) (ks:List Nat) (n:Nat) (tm:Tm) (H:Hp):OA:=none
def bT.pn:Nat→List Nat:=fun i=>(([]:List (Nat×List Nat)).lookup i).getD []
def bT.tb:Nat→List (List Nat):=fun i=>(([]:List (Nat×List (List Nat))).lookup i).getD []
def bT.mk (g:Sl→Int→Hp→OA) (args:List AV) (H:Hp):OA:=match args with
 | [(.sl aa),(.int .i64 ak)]=>g aa ak H
 | _=>none
def bT.cs (F:Nat) (lw:Sl→Hp→OA) (fo:Int→Int→Int→Hp→OA):List (FuncId×(List AV→Hp→OA)):=[(131,co.mk lw),(63,bD.mk fo)]
theorem bT.loops (F:Nat) (lw:Sl→Hp→OA) (fo:Int→Int→Int→Hp→OA):LoopsOk tabs (mkOrc (bT.cs F lw fo)) bT.pn (bT.lh F lw fo) F [] 1 bT.code (fun tm H=>aresults tabs.ty H tm Try.f103.results.toList fun v=>some (v,H)) (fun _ _ _=>none) (fun tm H=>aresults tabs.ty H tm Try.f103.results.toList fun v=>some (v,H)):=by
 exact loops_none (by kernel_rfl)
theorem bT.eqX (F:Nat) (lw:Sl→Hp→OA) (fo:Int→Int→Int→Hp→OA) (aa:Sl) (ak:Int) (H:Hp):aCode tabs (mkOrc (bT.cs F lw fo)) bT.pn (bT.lh F lw fo) F [] 1 bT.code (argTm [(.sl aa),(.int .i64 ak)]) H (fun tm H=>aresults tabs.ty H tm Try.f103.results.toList fun v=>some (v,H)) (fun _ _ _=>none) (fun tm H=>aresults tabs.ty H tm Try.f103.results.toList fun v=>some (v,H)) = bT.twX F lw fo aa ak H:=by kernel_rfl
theorem bT.cs_ok (F:Nat):∀ p ∈ bT.cs F (co.tw F) (bD.tw F),∀ args H v H',p.2 args H = some (v,H')→Go.AE.T Try.prog p.1 args H v H':=by
 intro p hp
 simp only [bT.cs,List.mem_cons,List.not_mem_nil,or_false] at hp
 rcases hp with rfl | rfl
 ·exact fun args H v H' h=>co.mk_T h
 ·exact fun args H v H' h=>bD.mk_T h
theorem bT.ok:codeOk bT.pn Try.f103.ntmps bT.tb bT.code = true:=by kernel_rfl
theorem bT.T {F:Nat} {aa:Sl} {ak:Int} {H:Hp} {v:AV} {H':Hp} (h:bT.tw F aa ak H = some (v,H')):Go.AE.T Try.prog 103 [(.sl aa),(.int .i64 ak)] H v H':=
 Go.AE.T.of (Y:=tabs) (C:=mkOrc (bT.cs F (co.tw F) (bD.tw F))) (PN:=bT.pn) (LH:=bT.lh F (co.tw F) (bD.tw F)) (F:=F) (TB:=bT.tb) (fn:=Try.f103) (code:=bT.code) mixed tabs_ok (mkOrc_ok (bT.cs_ok F)) Try.func103 (by kernel_rfl) (by kernel_rfl) bT.ok (Nat.le_of_ble_eq_true (by kernel_rfl)) (bT.loops F (co.tw F) (bD.tw F)) (Eq.trans (bT.eqX F (co.tw F) (bD.tw F) aa ak H) h)
theorem bT.mk_T {F:Nat} {args:List AV} {H:Hp} {v:AV} {H':Hp} (h:bT.mk (bT.tw F) args H = some (v,H')):Go.AE.T Try.prog 103 args H v H':=by
 unfold bT.mk at h
 split at h
 ·exact bT.T h
 ·cases h
def aI.l3931 (F:Nat) (cU:Sl→Int→Hp→OA) (cG:Int→Int→Int→Int→Int→Hp→OA) (cH:Int→Int→Int→Int→Int→Int→Hp→OA) (cV:Sl→Int→Hp→OA) (C61_:Nat→Nat→Nat→Nat→Sl→Int→Int→Hp→OA):Nat→Nat→Nat→Nat→Nat→Sl→Int→Int→Nat→Nat→Int→Int→Int→Int→Int→Int→Hp→OA
 | 0,_,_,_,_,_,_,_,_,_,_,_,_,_,_,_,_=>none
 | NA + 1,cO,cY,dg,dD,jD,fp,fU,eA,gX,dE,dG,dH,dI,dJ,cR,H233=>(bif (decide (cR < 4)) then ((if 0 ≤ cR∧cR < (4:Int) then (([(.int .i64 dG),(.int .i64 dH),(.int .i64 dI),(.int .i64 dJ)]:List AV)[(cR:Int).toNat * 1]?).bind fun v283=>((v283).asI .i64).bind fun n284=>(Hp.ldSl H233 dg dD).bind fun s285=>(Hp.ldI H233 .i64 eA gX).bind fun n286=>(Hp.ldI H233 .i64 eA (gX + 1)).bind fun n287=>(Hp.ldI H233 .i64 eA (gX + 2)).bind fun n288=>(Hp.ldI H233 .i64 eA (gX + 3)).bind fun n289=>(Hp.ldI H233 .i64 eA (gX + 4)).bind fun n290=>(cH n286 n287 n288 n289 n290 cR H233).bind fun r291=>((r291.1).asB).bind fun b292=>(bif b292 then ((Hp.ldSl r291.2 dg (dD + 1)).bind fun s293=>(cV s293 n284 r291.2).bind fun r294=>((r294.1).asB).bind fun b295=>(bif (!b295) then ((Hp.ldSl r294.2 dg dD).bind fun s296=>(Hp.ldSl r294.2 dg (dD + 1)).bind fun s297=>(Hp.st r294.2 cO cY (.sl s296)).bind fun H298=>(Hp.st H298 cO (cY + 1) (.sl s297)).bind fun H299=>(Hp.ldSl H299 cO cY).bind fun s300=>(Hp.ldSl H299 cO (cY + 1)).bind fun s301=>some ((.tup [(.agg [(.sl s300),(.sl s301)]),(.bool false)]),H299)) else ((Sl.idx s293 n284 2).bind fun p302=>(Hp.ldI r294.2 .i64 p302.1 p302.2).bind fun n303=>(bif (decide (n303 ≥ 0)) then ((Hp.ldSl r294.2 dg dD).bind fun s304=>(Hp.ldSl r294.2 dg (dD + 1)).bind fun s305=>(Hp.st r294.2 cO cY (.sl s304)).bind fun H306=>(Hp.st H306 cO (cY + 1) (.sl s305)).bind fun H307=>(Hp.ldSl H307 cO cY).bind fun s308=>(Hp.ldSl H307 cO (cY + 1)).bind fun s309=>some ((.tup [(.agg [(.sl s308),(.sl s309)]),(.bool false)]),H307)) else ((Sl.idx s293 n284 2).bind fun p310=>(Hp.st r294.2 p310.1 p310.2 (.int .i64 dE)).bind fun H311=>(Hp.st H311 p310.1 (p310.2 + 1) (.int .i64 cR)).bind fun H312=>aI.l3931 F cU cG cH cV C61_ NA cO cY dg dD jD fp fU eA gX dE dG dH dI dJ (IntKind.i64.wrap (cR + 1)) H312))))) else ((cV s285 n284 r291.2).bind fun r313=>((r313.1).asB).bind fun b314=>(bif (!b314) then ((Hp.ldSl r313.2 dg dD).bind fun s315=>(Hp.ldSl r313.2 dg (dD + 1)).bind fun s316=>(Hp.st r313.2 cO cY (.sl s315)).bind fun H317=>(Hp.st H317 cO (cY + 1) (.sl s316)).bind fun H318=>(Hp.ldSl H318 cO cY).bind fun s319=>(Hp.ldSl H318 cO (cY + 1)).bind fun s320=>some ((.tup [(.agg [(.sl s319),(.sl s320)]),(.bool false)]),H318)) else ((Sl.idx s285 n284 2).bind fun p321=>(Hp.ldI r313.2 .i64 p321.1 p321.2).bind fun n322=>(bif (decide (n322 ≥ 0)) then ((Hp.ldSl r313.2 dg dD).bind fun s323=>(Hp.ldSl r313.2 dg (dD + 1)).bind fun s324=>(Hp.st r313.2 cO cY (.sl s323)).bind fun H325=>(Hp.st H325 cO (cY + 1) (.sl s324)).bind fun H326=>(Hp.ldSl H326 cO cY).bind fun s327=>(Hp.ldSl H326 cO (cY + 1)).bind fun s328=>some ((.tup [(.agg [(.sl s327),(.sl s328)]),(.bool false)]),H326)) else ((Sl.idx s285 n284 2).bind fun p329=>(Hp.st r313.2 p329.1 p329.2 (.int .i64 dE)).bind fun H330=>(Hp.st H330 p329.1 (p329.2 + 1) (.int .i64 cR)).bind fun H331=>aI.l3931 F cU cG cH cV C61_ NA cO cY dg dD jD fp fU eA gX dE dG dH dI dJ (IntKind.i64.wrap (cR + 1)) H331)))))) else none)) else (C61_ cO cY dg dD jD fp (IntKind.i64.wrap (fU + 1)) H233))
termination_by structural n=>n
def aI.l61 (F:Nat) (cU:Sl→Int→Hp→OA) (cG:Int→Int→Int→Int→Int→Hp→OA) (cH:Int→Int→Int→Int→Int→Int→Hp→OA) (cV:Sl→Int→Hp→OA) :Nat→Nat→Nat→Nat→Nat→Sl→Int→Int→Hp→OA
 | 0,_,_,_,_,_,_,_,_=>none
 | bP + 1,fV,ja,cJ,jW,kO,hT,fW,H29=>(bif (decide (fW < hT)) then ((Sl.idx kO fW 5).bind fun p184=>(Hp.ldI H29 .i64 p184.1 p184.2).bind fun n185=>(Hp.ldI H29 .i64 p184.1 (p184.2 + 1)).bind fun n186=>(Hp.ldI H29 .i64 p184.1 (p184.2 + 2)).bind fun n187=>(Hp.ldI H29 .i64 p184.1 (p184.2 + 3)).bind fun n188=>(Hp.ldI H29 .i64 p184.1 (p184.2 + 4)).bind fun n189=>(Hp.new H29 [.int .i64 0,.int .i64 0,.int .i64 0,.int .i64 0,.int .i64 0]).bind fun H190=>(Hp.st H190 H29.length 0 (.int .i64 n185)).bind fun H191=>(Hp.st H191 H29.length (0 + 1) (.int .i64 n186)).bind fun H192=>(Hp.st H192 H29.length (0 + 1 + 1) (.int .i64 n187)).bind fun H193=>(Hp.st H193 H29.length (0 + 1 + 1 + 1) (.int .i64 n188)).bind fun H194=>(Hp.st H194 H29.length (0 + 1 + 1 + 1 + 1) (.int .i64 n189)).bind fun H195=>(Hp.ldI H195 .i64 H29.length 0).bind fun n196=>(Hp.ldI H195 .i64 H29.length (0 + 1)).bind fun n197=>(Hp.ldI H195 .i64 H29.length (0 + 2)).bind fun n198=>(Hp.ldI H195 .i64 H29.length (0 + 3)).bind fun n199=>(Hp.ldI H195 .i64 H29.length (0 + 4)).bind fun n200=>(cG n196 n197 n198 n199 n200 H195).bind fun r201=>((r201.1).asAgg 4).bind fun l202=>(l202[0]?).bind fun v203=>((v203).asI .i64).bind fun n204=>(l202[1]?).bind fun v205=>((v205).asI .i64).bind fun n206=>(l202[2]?).bind fun v207=>((v207).asI .i64).bind fun n208=>(l202[3]?).bind fun v209=>((v209).asI .i64).bind fun n210=>aI.l3931 F cU cG cH cV (aI.l61 F cU cG cH cV bP) F fV ja cJ jW kO hT fW H29.length 0 fW n204 n206 n208 n210 0 r201.2) else ((Hp.ldSl H29 cJ jW).bind fun s332=>(Hp.ldSl H29 cJ (jW + 1)).bind fun s333=>(Hp.st H29 fV ja (.sl s332)).bind fun H334=>(Hp.st H334 fV (ja + 1) (.sl s333)).bind fun H335=>(Hp.ldSl H335 fV ja).bind fun s336=>(Hp.ldSl H335 fV (ja + 1)).bind fun s337=>some ((.tup [(.agg [(.sl s336),(.sl s337)]),(.bool true)]),H335)))
termination_by structural n=>n
def aI.twX (F:Nat) (cU:Sl→Int→Hp→OA) (cG:Int→Int→Int→Int→Int→Hp→OA) (cH:Int→Int→Int→Int→Int→Int→Hp→OA) (cV:Sl→Int→Hp→OA) (aa:Sl) (ab:Int) (H:Hp):OA:=(Hp.new H [(.sl aa),(.int .i64 ab)]).bind fun H3=>(Hp.new H3 [.sl ⟨none,0,.ex 0⟩,.sl ⟨none,0,.ex 0⟩]).bind fun H4=>(Hp.ldSl H4 H.length 0).bind fun s5=>(Hp.new H4 [(.int .i64 (-1)),(.int .i64 0)]).bind fun H6=>(cU (⟨some (H4.length,0),1,.ex 1⟩:Sl) (IntKind.i64.wrap (2 * (s5.n:Int))) H6).bind fun r7=>((r7.1).asSl).bind fun s8=>(Hp.new r7.2 [(.int .i64 (-1)),(.int .i64 0)]).bind fun H9=>(cU (⟨some (r7.2.length,0),1,.ex 1⟩:Sl) (IntKind.i64.wrap (2 * (s5.n:Int))) H9).bind fun r10=>((r10.1).asSl).bind fun s11=>(Hp.new r10.2 [.sl ⟨none,0,.ex 0⟩,.sl ⟨none,0,.ex 0⟩]).bind fun H12=>(Hp.st H12 r10.2.length 0 (.sl s8)).bind fun H13=>(Hp.st H13 r10.2.length (0 + 1) (.sl s11)).bind fun H14=>(Hp.ldSl H14 H.length 0).bind fun s15=>aI.l61 F cU cG cH cV F H3.length 0 r10.2.length 0 s15 (s15.n:Int) 0 H14
def aI.tw (F:Nat) (aa:Sl) (ab:Int) (H:Hp):OA:=aI.twX F (aT.tw F) (bA.tw F) (bB.tw F) (bT.tw F) aa ab H
def aI.code:Go.Code:=(Try.f66.body).getD .skip
def aI.lh61 (F:Nat) (cU:Sl→Int→Hp→OA) (cG:Int→Int→Int→Int→Int→Hp→OA) (cH:Int→Int→Int→Int→Int→Int→Hp→OA) (cV:Sl→Int→Hp→OA) (ks:List Nat) (n:Nat) (tm:Tm) (H:Hp):OA:=match ks,tm 2,tm 5,tm 25,tm 26,tm 27 with
 | [],(.ptr fV ja),(.ptr cJ jW),(.sl kO),(.int .i64 hT),(.int .i64 fW)=>aI.l61 F cU cG cH cV n fV ja cJ jW kO hT fW H
 | _,_,_,_,_,_=>none
theorem aI.lh61_inv {F:Nat} {cU:Sl→Int→Hp→OA} {cG:Int→Int→Int→Int→Int→Hp→OA} {cH:Int→Int→Int→Int→Int→Int→Hp→OA} {cV:Sl→Int→Hp→OA} {ks:List Nat} {n:Nat} {tm:Tm} {H:Hp} {r:AV×Hp} (h:aI.lh61 F cU cG cH cV ks n tm H = some r):∃ fV:Nat,∃ ja:Nat,∃ cJ:Nat,∃ jW:Nat,∃ kO:Sl,∃ hT:Int,∃ fW:Int,ks = []∧tm 2 = (.ptr fV ja)∧tm 5 = (.ptr cJ jW)∧tm 25 = (.sl kO)∧tm 26 = (.int .i64 hT)∧tm 27 = (.int .i64 fW)∧aI.l61 F cU cG cH cV n fV ja cJ jW kO hT fW H = some r:=by
 unfold aI.lh61 at h
 split at h
 ·exact ⟨_,_,_,_,_,_,_,rfl,by assumption,by assumption,by assumption,by assumption,by assumption,h⟩
 ·cases h
def aI.lh3931 (F:Nat) (cU:Sl→Int→Hp→OA) (cG:Int→Int→Int→Int→Int→Hp→OA) (cH:Int→Int→Int→Int→Int→Int→Hp→OA) (cV:Sl→Int→Hp→OA) (ks:List Nat) (n:Nat) (tm:Tm) (H:Hp):OA:=match ks,tm 2,tm 5,tm 6,tm 7,tm 25,tm 26,tm 27,tm 33,tm 34 with
 | [bP],(.ptr cO cY),(.ptr dg dD),(.int .i64 dE),(.ptr eA gX),(.sl jD),(.int .i64 fp),(.int .i64 fU),(.agg [(.int .i64 dG),(.int .i64 dH),(.int .i64 dI),(.int .i64 dJ)]),(.int .i64 cR)=>aI.l3931 F cU cG cH cV (aI.l61 F cU cG cH cV bP) n cO cY dg dD jD fp fU eA gX dE dG dH dI dJ cR H
 | _,_,_,_,_,_,_,_,_,_=>none
theorem aI.lh3931_inv {F:Nat} {cU:Sl→Int→Hp→OA} {cG:Int→Int→Int→Int→Int→Hp→OA} {cH:Int→Int→Int→Int→Int→Int→Hp→OA} {cV:Sl→Int→Hp→OA} {ks:List Nat} {n:Nat} {tm:Tm} {H:Hp} {r:AV×Hp} (h:aI.lh3931 F cU cG cH cV ks n tm H = some r):∃ bP:Nat,∃ cO:Nat,∃ cY:Nat,∃ dg:Nat,∃ dD:Nat,∃ dE:Int,∃ eA:Nat,∃ gX:Nat,∃ jD:Sl,∃ fp:Int,∃ fU:Int,∃ dG:Int,∃ dH:Int,∃ dI:Int,∃ dJ:Int,∃ cR:Int,ks = [bP]∧tm 2 = (.ptr cO cY)∧tm 5 = (.ptr dg dD)∧tm 6 = (.int .i64 dE)∧tm 7 = (.ptr eA gX)∧tm 25 = (.sl jD)∧tm 26 = (.int .i64 fp)∧tm 27 = (.int .i64 fU)∧tm 33 = (.agg [(.int .i64 dG),(.int .i64 dH),(.int .i64 dI),(.int .i64 dJ)])∧tm 34 = (.int .i64 cR)∧aI.l3931 F cU cG cH cV (aI.l61 F cU cG cH cV bP) n cO cY dg dD jD fp fU eA gX dE dG dH dI dJ cR H = some r:=by
 unfold aI.lh3931 at h
 split at h
 ·exact ⟨_,_,_,_,_,_,_,_,_,_,_,_,_,_,_,_,rfl,by assumption,by assumption,by assumption,by assumption,by assumption,by assumption,by assumption,by assumption,by assumption,h⟩
 ·cases h
def aI.lh (F:Nat) (cU:Sl→Int→Hp→OA) (cG:Int→Int→Int→Int→Int→Hp→OA) (cH:Int→Int→Int→Int→Int→Int→Hp→OA) (cV:Sl→Int→Hp→OA) (p:Nat) (ks:List Nat) (n:Nat) (tm:Tm) (H:Hp):OA:=bif p.beq 3931 then aI.lh3931 F cU cG cH cV ks n tm H else (bif p.beq 61 then aI.lh61 F cU cG cH cV ks n tm H else (none))
def aI.pn:Nat→List Nat:=fun i=>(([]:List (Nat×List Nat)).lookup i).getD []
def aI.tb:Nat→List (List Nat):=fun i=>(([]:List (Nat×List (List Nat))).lookup i).getD []
def aI.mk (g:Sl→Int→Hp→OA) (args:List AV) (H:Hp):OA:=match args with
 | [(.agg [(.sl aa),(.int .i64 ab)])]=>g aa ab H
 | _=>none
def aI.cs (F:Nat) (cU:Sl→Int→Hp→OA) (cG:Int→Int→Int→Int→Int→Hp→OA) (cH:Int→Int→Int→Int→Int→Int→Hp→OA) (cV:Sl→Int→Hp→OA):List (FuncId×(List AV→Hp→OA)):=[(100,aT.mk cU),(101,bA.mk cG),(102,bB.mk cH),(103,bT.mk cV)]
theorem aI.loops (F:Nat) (cU:Sl→Int→Hp→OA) (cG:Int→Int→Int→Int→Int→Hp→OA) (cH:Int→Int→Int→Int→Int→Int→Hp→OA) (cV:Sl→Int→Hp→OA):LoopsOk tabs (mkOrc (aI.cs F cU cG cH cV)) aI.pn (aI.lh F cU cG cH cV) F [] 1 aI.code (fun tm H=>aresults tabs.ty H tm Try.f66.results.toList fun v=>some (v,H)) (fun _ _ _=>none) (fun tm H=>aresults tabs.ty H tm Try.f66.results.toList fun v=>some (v,H)):=by
 refine LoopsOk.seq ?_ ?_
 ·exact loops_none (by kernel_rfl)
 ·refine LoopsOk.seq ?_ ?_
  ·exact loops_none (by kernel_rfl)
  ·refine LoopsOk.seq ?_ ?_
   ·exact loops_none (by kernel_rfl)
   ·refine LoopsOk.seq ?_ ?_
    ·refine LoopsOk.seq ?_ ?_
     ·exact loops_none (by kernel_rfl)
     ·refine LoopsOk.block ?_
      refine LoopsOk.loop (fun tm H=>?_) (fun k61 tm H r h0=>?_) (fun k61=>?_)
      ·refine none_of fun r h0=>?_
       obtain ⟨fV,ja,cJ,jW,kO,hT,fW,hks,e2,e5,e25,e26,e27,h⟩:=aI.lh61_inv (show aI.lh61 F cU cG cH cV [] 0 tm H = some r from h0)
       cases h
      ·obtain ⟨fV,ja,cJ,jW,kO,hT,fW,hks,e2,e5,e25,e26,e27,h⟩:=aI.lh61_inv (show aI.lh61 F cU cG cH cV [] (k61 + 1) tm H = some r from h0)
       have q0:(Tm.put tm 2 (.ptr fV ja)) = tm:=by exact Tm.put_same e2
       have q1:(Tm.put (Tm.put tm 2 (.ptr fV ja)) 5 (.ptr cJ jW)) = tm:=by rw [q0]; exact Tm.put_same e5
       have q2:(Tm.put (Tm.put (Tm.put tm 2 (.ptr fV ja)) 5 (.ptr cJ jW)) 25 (.sl kO)) = tm:=by rw [q1]; exact Tm.put_same e25
       have q3:(Tm.put (Tm.put (Tm.put (Tm.put tm 2 (.ptr fV ja)) 5 (.ptr cJ jW)) 25 (.sl kO)) 26 (.int .i64 hT)) = tm:=by rw [q2]; exact Tm.put_same e26
       have q4:(Tm.put (Tm.put (Tm.put (Tm.put (Tm.put tm 2 (.ptr fV ja)) 5 (.ptr cJ jW)) 25 (.sl kO)) 26 (.int .i64 hT)) 27 (.int .i64 fW)) = tm:=by rw [q3]; exact Tm.put_same e27
       rw [← q4]
       exact Eq.trans (by kernel_rfl) h
      ·refine LoopsOk.seq ?_ ?_
       ·exact loops_none (by kernel_rfl)
       ·refine LoopsOk.seq ?_ ?_
        ·exact loops_none (by kernel_rfl)
        ·refine LoopsOk.seq ?_ ?_
         ·refine LoopsOk.block ?_
          refine LoopsOk.seq ?_ ?_
          ·exact loops_none (by kernel_rfl)
          ·refine LoopsOk.seq ?_ ?_
           ·exact loops_none (by kernel_rfl)
           ·refine LoopsOk.block ?_
            refine LoopsOk.loop (fun tm H=>?_) (fun k3931 tm H r h0=>?_) (fun k3931=>?_)
            ·refine none_of fun r h0=>?_
             obtain ⟨bP,cO,cY,dg,dD,dE,eA,gX,jD,fp,fU,dG,dH,dI,dJ,cR,hks,e2,e5,e6,e7,e25,e26,e27,e33,e34,h⟩:=aI.lh3931_inv (show aI.lh3931 F cU cG cH cV [k61] 0 tm H = some r from h0)
             cases h
            ·obtain ⟨bP,cO,cY,dg,dD,dE,eA,gX,jD,fp,fU,dG,dH,dI,dJ,cR,hks,e2,e5,e6,e7,e25,e26,e27,e33,e34,h⟩:=aI.lh3931_inv (show aI.lh3931 F cU cG cH cV [k61] (k3931 + 1) tm H = some r from h0)
             obtain rfl:bP = k61:=by simpa [eq_comm] using hks
             have q0:(Tm.put tm 2 (.ptr cO cY)) = tm:=by exact Tm.put_same e2
             have q1:(Tm.put (Tm.put tm 2 (.ptr cO cY)) 5 (.ptr dg dD)) = tm:=by rw [q0]; exact Tm.put_same e5
             have q2:(Tm.put (Tm.put (Tm.put tm 2 (.ptr cO cY)) 5 (.ptr dg dD)) 6 (.int .i64 dE)) = tm:=by rw [q1]; exact Tm.put_same e6
             have q3:(Tm.put (Tm.put (Tm.put (Tm.put tm 2 (.ptr cO cY)) 5 (.ptr dg dD)) 6 (.int .i64 dE)) 7 (.ptr eA gX)) = tm:=by rw [q2]; exact Tm.put_same e7
             have q4:(Tm.put (Tm.put (Tm.put (Tm.put (Tm.put tm 2 (.ptr cO cY)) 5 (.ptr dg dD)) 6 (.int .i64 dE)) 7 (.ptr eA gX)) 25 (.sl jD)) = tm:=by rw [q3]; exact Tm.put_same e25
             have q5:(Tm.put (Tm.put (Tm.put (Tm.put (Tm.put (Tm.put tm 2 (.ptr cO cY)) 5 (.ptr dg dD)) 6 (.int .i64 dE)) 7 (.ptr eA gX)) 25 (.sl jD)) 26 (.int .i64 fp)) = tm:=by rw [q4]; exact Tm.put_same e26
             have q6:(Tm.put (Tm.put (Tm.put (Tm.put (Tm.put (Tm.put (Tm.put tm 2 (.ptr cO cY)) 5 (.ptr dg dD)) 6 (.int .i64 dE)) 7 (.ptr eA gX)) 25 (.sl jD)) 26 (.int .i64 fp)) 27 (.int .i64 fU)) = tm:=by rw [q5]; exact Tm.put_same e27
             have q7:(Tm.put (Tm.put (Tm.put (Tm.put (Tm.put (Tm.put (Tm.put (Tm.put tm 2 (.ptr cO cY)) 5 (.ptr dg dD)) 6 (.int .i64 dE)) 7 (.ptr eA gX)) 25 (.sl jD)) 26 (.int .i64 fp)) 27 (.int .i64 fU)) 33 (.agg [(.int .i64 dG),(.int .i64 dH),(.int .i64 dI),(.int .i64 dJ)])) = tm:=by rw [q6]; exact Tm.put_same e33
             have q8:(Tm.put (Tm.put (Tm.put (Tm.put (Tm.put (Tm.put (Tm.put (Tm.put (Tm.put tm 2 (.ptr cO cY)) 5 (.ptr dg dD)) 6 (.int .i64 dE)) 7 (.ptr eA gX)) 25 (.sl jD)) 26 (.int .i64 fp)) 27 (.int .i64 fU)) 33 (.agg [(.int .i64 dG),(.int .i64 dH),(.int .i64 dI),(.int .i64 dJ)])) 34 (.int .i64 cR)) = tm:=by rw [q7]; exact Tm.put_same e34
             rw [← q8]
             exact Eq.trans (by kernel_rfl) h
            ·exact loops_none (by kernel_rfl)
         ·exact loops_none (by kernel_rfl)
    ·exact loops_none (by kernel_rfl)
theorem aI.eqX (F:Nat) (cU:Sl→Int→Hp→OA) (cG:Int→Int→Int→Int→Int→Hp→OA) (cH:Int→Int→Int→Int→Int→Int→Hp→OA) (cV:Sl→Int→Hp→OA) (aa:Sl) (ab:Int) (H:Hp):aCode tabs (mkOrc (aI.cs F cU cG cH cV)) aI.pn (aI.lh F cU cG cH cV) F [] 1 aI.code (argTm [(.agg [(.sl aa),(.int .i64 ab)])]) H (fun tm H=>aresults tabs.ty H tm Try.f66.results.toList fun v=>some (v,H)) (fun _ _ _=>none) (fun tm H=>aresults tabs.ty H tm Try.f66.results.toList fun v=>some (v,H)) = aI.twX F cU cG cH cV aa ab H:=by kernel_rfl
theorem aI.cs_ok (F:Nat):∀ p ∈ aI.cs F (aT.tw F) (bA.tw F) (bB.tw F) (bT.tw F),∀ args H v H',p.2 args H = some (v,H')→Go.AE.T Try.prog p.1 args H v H':=by
 intro p hp
 simp only [aI.cs,List.mem_cons,List.not_mem_nil,or_false] at hp
 rcases hp with rfl | rfl | rfl | rfl
 ·exact fun args H v H' h=>aT.mk_T h
 ·exact fun args H v H' h=>bA.mk_T h
 ·exact fun args H v H' h=>bB.mk_T h
 ·exact fun args H v H' h=>bT.mk_T h
theorem aI.ok:codeOk aI.pn Try.f66.ntmps aI.tb aI.code = true:=by kernel_rfl
theorem aI.T {F:Nat} {aa:Sl} {ab:Int} {H:Hp} {v:AV} {H':Hp} (h:aI.tw F aa ab H = some (v,H')):Go.AE.T Try.prog 66 [(.agg [(.sl aa),(.int .i64 ab)])] H v H':=
 Go.AE.T.of (Y:=tabs) (C:=mkOrc (aI.cs F (aT.tw F) (bA.tw F) (bB.tw F) (bT.tw F))) (PN:=aI.pn) (LH:=aI.lh F (aT.tw F) (bA.tw F) (bB.tw F) (bT.tw F)) (F:=F) (TB:=aI.tb) (fn:=Try.f66) (code:=aI.code) mixed tabs_ok (mkOrc_ok (aI.cs_ok F)) Try.func66 (by kernel_rfl) (by kernel_rfl) aI.ok (Nat.le_of_ble_eq_true (by kernel_rfl)) (aI.loops F (aT.tw F) (bA.tw F) (bB.tw F) (bT.tw F)) (Eq.trans (aI.eqX F (aT.tw F) (bA.tw F) (bB.tw F) (bT.tw F) aa ab H) h)
theorem aI.mk_T {F:Nat} {args:List AV} {H:Hp} {v:AV} {H':Hp} (h:aI.mk (aI.tw F) args H = some (v,H')):Go.AE.T Try.prog 66 args H v H':=by
 unfold aI.mk at h
 split at h
 ·exact aI.T h
 ·cases h
def bL.twX (F:Nat) (cG:Int→Int→Int→Int→Int→Hp→OA) (cH:Int→Int→Int→Int→Int→Int→Hp→OA) (aa:Sl) (ab:Int) (au:Sl) (aB:Sl) (aV:Int) (fX:Int) (H:Hp):OA:=(Hp.new H [(.sl aa),(.int .i64 ab)]).bind fun H7=>(Hp.new H7 [(.sl au),(.sl aB)]).bind fun H8=>(Hp.new H8 [(.int .i64 aV),(.int .i64 fX)]).bind fun H9=>(Hp.new H9 [.int .i64 0,.int .i64 0]).bind fun H10=>(Hp.ldSl H10 H.length 0).bind fun s11=>(Hp.ldI H10 .i64 H8.length 0).bind fun n12=>(Sl.idx s11 n12 5).bind fun p13=>(Hp.ldI H10 .i64 p13.1 p13.2).bind fun n14=>(Hp.ldI H10 .i64 p13.1 (p13.2 + 1)).bind fun n15=>(Hp.ldI H10 .i64 p13.1 (p13.2 + 2)).bind fun n16=>(Hp.ldI H10 .i64 p13.1 (p13.2 + 3)).bind fun n17=>(Hp.ldI H10 .i64 p13.1 (p13.2 + 4)).bind fun n18=>(Hp.new H10 [.int .i64 0,.int .i64 0,.int .i64 0,.int .i64 0,.int .i64 0]).bind fun H19=>(Hp.st H19 H10.length 0 (.int .i64 n14)).bind fun H20=>(Hp.st H20 H10.length (0 + 1) (.int .i64 n15)).bind fun H21=>(Hp.st H21 H10.length (0 + 1 + 1) (.int .i64 n16)).bind fun H22=>(Hp.st H22 H10.length (0 + 1 + 1 + 1) (.int .i64 n17)).bind fun H23=>(Hp.st H23 H10.length (0 + 1 + 1 + 1 + 1) (.int .i64 n18)).bind fun H24=>(Hp.ldI H24 .i64 H10.length 0).bind fun n25=>(Hp.ldI H24 .i64 H10.length (0 + 1)).bind fun n26=>(Hp.ldI H24 .i64 H10.length (0 + 2)).bind fun n27=>(Hp.ldI H24 .i64 H10.length (0 + 3)).bind fun n28=>(Hp.ldI H24 .i64 H10.length (0 + 4)).bind fun n29=>(cG n25 n26 n27 n28 n29 H24).bind fun r30=>((r30.1).asAgg 4).bind fun l31=>(l31[0]?).bind fun v32=>((v32).asI .i64).bind fun n33=>(l31[1]?).bind fun v34=>((v34).asI .i64).bind fun n35=>(l31[2]?).bind fun v36=>((v36).asI .i64).bind fun n37=>(l31[3]?).bind fun v38=>((v38).asI .i64).bind fun n39=>(if Cons H24 r30.2 then ((Hp.ldI r30.2 .i64 H8.length 1).bind fun n40=>(if 0 ≤ n40∧n40 < (4:Int) then (([(.int .i64 n33),(.int .i64 n35),(.int .i64 n37),(.int .i64 n39)]:List AV)[(n40:Int).toNat * 1]?).bind fun v41=>((v41).asI .i64).bind fun n42=>(Hp.ldI r30.2 .i64 H10.length 0).bind fun n43=>(Hp.ldI r30.2 .i64 H10.length (0 + 1)).bind fun n44=>(Hp.ldI r30.2 .i64 H10.length (0 + 2)).bind fun n45=>(Hp.ldI r30.2 .i64 H10.length (0 + 3)).bind fun n46=>(Hp.ldI r30.2 .i64 H10.length (0 + 4)).bind fun n47=>(Hp.ldI r30.2 .i64 H8.length 1).bind fun n48=>(cH n43 n44 n45 n46 n47 n48 r30.2).bind fun r49=>((r49.1).asB).bind fun b50=>(bif b50 then ((Hp.ldSl r49.2 H7.length 0).bind fun s51=>(Sl.idx s51 n42 2).bind fun p52=>(Hp.ldI r49.2 .i64 p52.1 p52.2).bind fun n53=>(Hp.ldI r49.2 .i64 p52.1 (p52.2 + 1)).bind fun n54=>(Hp.st r49.2 H9.length 0 (.int .i64 n53)).bind fun H55=>(Hp.st H55 H9.length (0 + 1) (.int .i64 n54)).bind fun H56=>(Hp.ldI H56 .i64 H9.length 0).bind fun n57=>(Hp.ldI H56 .i64 H9.length (0 + 1)).bind fun n58=>some ((.agg [(.int .i64 n57),(.int .i64 n58)]),H56)) else ((Hp.ldSl r49.2 H7.length 1).bind fun s59=>(Sl.idx s59 n42 2).bind fun p60=>(Hp.ldI r49.2 .i64 p60.1 p60.2).bind fun n61=>(Hp.ldI r49.2 .i64 p60.1 (p60.2 + 1)).bind fun n62=>(Hp.st r49.2 H9.length 0 (.int .i64 n61)).bind fun H63=>(Hp.st H63 H9.length (0 + 1) (.int .i64 n62)).bind fun H64=>(Hp.ldI H64 .i64 H9.length 0).bind fun n65=>(Hp.ldI H64 .i64 H9.length (0 + 1)).bind fun n66=>some ((.agg [(.int .i64 n65),(.int .i64 n66)]),H64))) else none)) else none)
def bL.tw (F:Nat) (aa:Sl) (ab:Int) (au:Sl) (aB:Sl) (aV:Int) (fX:Int) (H:Hp):OA:=bL.twX F (bA.tw F) (bB.tw F) aa ab au aB aV fX H
def bL.code:Go.Code:=(Try.f104.body).getD .skip
def bL.lh (F:Nat) (cG:Int→Int→Int→Int→Int→Hp→OA) (cH:Int→Int→Int→Int→Int→Int→Hp→OA) (p:Nat) (ks:List Nat) (n:Nat) (tm:Tm) (H:Hp):OA:=none
def bL.pn:Nat→List Nat:=fun i=>(([(2,[])]:List (Nat×List Nat)).lookup i).getD []
def bL.tb:Nat→List (List Nat):=fun i=>(([(2,[[],[0],[],[2],[0,1,2,3],[0,1,2,3,4]])]:List (Nat×List (List Nat))).lookup i).getD []
def bL.mk (g:Sl→Int→Sl→Sl→Int→Int→Hp→OA) (args:List AV) (H:Hp):OA:=match args with
 | [(.agg [(.sl aa),(.int .i64 ab)]),(.agg [(.sl au),(.sl aB)]),(.agg [(.int .i64 aV),(.int .i64 fX)])]=>g aa ab au aB aV fX H
 | _=>none
def bL.cs (F:Nat) (cG:Int→Int→Int→Int→Int→Hp→OA) (cH:Int→Int→Int→Int→Int→Int→Hp→OA):List (FuncId×(List AV→Hp→OA)):=[(101,bA.mk cG),(102,bB.mk cH)]
theorem bL.loops (F:Nat) (cG:Int→Int→Int→Int→Int→Hp→OA) (cH:Int→Int→Int→Int→Int→Int→Hp→OA):LoopsOk tabs (mkOrc (bL.cs F cG cH)) bL.pn (bL.lh F cG cH) F [] 1 bL.code (fun tm H=>aresults tabs.ty H tm Try.f104.results.toList fun v=>some (v,H)) (fun _ _ _=>none) (fun tm H=>aresults tabs.ty H tm Try.f104.results.toList fun v=>some (v,H)):=by
 exact loops_none (by kernel_rfl)
theorem bL.eqX (F:Nat) (cG:Int→Int→Int→Int→Int→Hp→OA) (cH:Int→Int→Int→Int→Int→Int→Hp→OA) (aa:Sl) (ab:Int) (au:Sl) (aB:Sl) (aV:Int) (fX:Int) (H:Hp):aCode tabs (mkOrc (bL.cs F cG cH)) bL.pn (bL.lh F cG cH) F [] 1 bL.code (argTm [(.agg [(.sl aa),(.int .i64 ab)]),(.agg [(.sl au),(.sl aB)]),(.agg [(.int .i64 aV),(.int .i64 fX)])]) H (fun tm H=>aresults tabs.ty H tm Try.f104.results.toList fun v=>some (v,H)) (fun _ _ _=>none) (fun tm H=>aresults tabs.ty H tm Try.f104.results.toList fun v=>some (v,H)) = bL.twX F cG cH aa ab au aB aV fX H:=by kernel_rfl
theorem bL.cs_ok (F:Nat):∀ p ∈ bL.cs F (bA.tw F) (bB.tw F),∀ args H v H',p.2 args H = some (v,H')→Go.AE.T Try.prog p.1 args H v H':=by
 intro p hp
 simp only [bL.cs,List.mem_cons,List.not_mem_nil,or_false] at hp
 rcases hp with rfl | rfl
 ·exact fun args H v H' h=>bA.mk_T h
 ·exact fun args H v H' h=>bB.mk_T h
theorem bL.ok:codeOk bL.pn Try.f104.ntmps bL.tb bL.code = true:=by kernel_rfl
theorem bL.T {F:Nat} {aa:Sl} {ab:Int} {au:Sl} {aB:Sl} {aV:Int} {fX:Int} {H:Hp} {v:AV} {H':Hp} (h:bL.tw F aa ab au aB aV fX H = some (v,H')):Go.AE.T Try.prog 104 [(.agg [(.sl aa),(.int .i64 ab)]),(.agg [(.sl au),(.sl aB)]),(.agg [(.int .i64 aV),(.int .i64 fX)])] H v H':=
 Go.AE.T.of (Y:=tabs) (C:=mkOrc (bL.cs F (bA.tw F) (bB.tw F))) (PN:=bL.pn) (LH:=bL.lh F (bA.tw F) (bB.tw F)) (F:=F) (TB:=bL.tb) (fn:=Try.f104) (code:=bL.code) mixed tabs_ok (mkOrc_ok (bL.cs_ok F)) Try.func104 (by kernel_rfl) (by kernel_rfl) bL.ok (Nat.le_of_ble_eq_true (by kernel_rfl)) (bL.loops F (bA.tw F) (bB.tw F)) (Eq.trans (bL.eqX F (bA.tw F) (bB.tw F) aa ab au aB aV fX H) h)
theorem bL.mk_T {F:Nat} {args:List AV} {H:Hp} {v:AV} {H':Hp} (h:bL.mk (bL.tw F) args H = some (v,H')):Go.AE.T Try.prog 104 args H v H':=by
 unfold bL.mk at h
 split at h
 ·exact bL.T h
 ·cases h
def aq.j4 (F:Nat) (cN:Sl→Int→Sl→Sl→Int→Int→Hp→OA) (C61_:Nat→Nat→Nat→Nat→Sl→Sl→Int→Int→Hp→OA) (Az:Nat) (acB:Nat) (AA:Nat) (acC:Nat) (acD:Sl) (acE:Sl) (rJ:Int) (rK:Int) (H248:Hp):OA:=C61_ Az acB AA acC acD acE rJ (IntKind.i64.wrap (rK + 1)) H248
def aq.j5 (F:Nat) (cN:Sl→Int→Sl→Sl→Int→Int→Hp→OA) (C61_:Nat→Nat→Nat→Nat→Sl→Sl→Int→Int→Hp→OA) (AB:Nat) (acF:Nat) (qy:Nat) (acG:Nat) (nY:Sl) (acH:Sl) (rL:Int) (rM:Int) (H228:Hp):OA:=aq.j4 F cN C61_ AB acF qy acG nY acH rL rM H228
def aq.j6 (F:Nat) (cN:Sl→Int→Sl→Sl→Int→Int→Hp→OA) (C61_:Nat→Nat→Nat→Nat→Sl→Sl→Int→Int→Hp→OA) (ur:Nat) (NB:Nat) (ut:Nat) (NC:Nat) (NE:Sl) (NF:Sl) (NG:Sl) (om:Int) (oo:Int) (H205:Hp):OA:=(bif (decide ((NG.n:Int) > 0)) then ((Hp.new H205 [(.sl NG)]).bind fun H206=>(Sl.row H206 (⟨some (H205.length,0),1,.ex 1⟩:Sl) 1).bind fun xs208=>(Hp.app H206 1 24 NE (⟨some (H205.length,0),1,.ex 1⟩:Sl).n xs208).bind fun a207=>aq.j5 F cN C61_ ur NB ut NC a207.1 NF om oo a207.2) else (aq.j5 F cN C61_ ur NB ut NC NE NF om oo H205))
def aq.l15725 (F:Nat) (cN:Sl→Int→Sl→Sl→Int→Int→Hp→OA) (C61_:Nat→Nat→Nat→Nat→Sl→Sl→Int→Int→Hp→OA):Nat→Nat→Nat→Nat→Nat→Sl→Sl→Int→Int→Sl→Int→Hp→OA
 | 0,_,_,_,_,_,_,_,_,_,_,_=>none
 | acI + 1,eP,hU,fq,iG,jE,jr,hX,iH,km,dK,H164=>(Sl.idx jr dK 1).bind fun p249=>(Hp.ldB H164 p249.1 p249.2).bind fun b250=>(bif (!b250) then ((Sl.idx jr dK 1).bind fun p251=>(Hp.st H164 p251.1 p251.2 (.bool true)).bind fun H252=>(Hp.new H252 [(.int .i64 dK)]).bind fun H253=>(Sl.row H253 (⟨some (H252.length,0),1,.ex 1⟩:Sl) 1).bind fun xs255=>(Hp.app H253 1 8 km (⟨some (H252.length,0),1,.ex 1⟩:Sl).n xs255).bind fun a254=>(Hp.ldSl a254.2 eP hU).bind fun s256=>(Hp.ldI a254.2 .i64 eP (hU + 1)).bind fun n257=>(Hp.ldSl a254.2 fq iG).bind fun s258=>(Hp.ldSl a254.2 fq (iG + 1)).bind fun s259=>(cN s256 n257 s258 s259 (IntKind.i64.wrap (Int.tdiv dK 4)) (Int.tmod (IntKind.i64.wrap (dK + 1)) 4) a254.2).bind fun r260=>((r260.1).asAgg 2).bind fun l261=>(l261[0]?).bind fun v262=>((v262).asI .i64).bind fun n263=>(l261[1]?).bind fun v264=>((v264).asI .i64).bind fun n265=>(Hp.new r260.2 [.int .i64 0,.int .i64 0]).bind fun H266=>(Hp.st H266 r260.2.length 0 (.int .i64 n263)).bind fun H267=>(Hp.st H267 r260.2.length (0 + 1) (.int .i64 n265)).bind fun H268=>(Hp.ldI H268 .i64 r260.2.length 0).bind fun n269=>(Hp.ldI H268 .i64 r260.2.length 1).bind fun n270=>aq.l15725 F cN C61_ acI eP hU fq iG jE jr hX iH a254.1 (IntKind.i64.wrap ((IntKind.i64.wrap (4 * n269)) + n270)) H268) else (aq.j6 F cN C61_ eP hU fq iG jE jr km hX iH H164))
termination_by structural n=>n
def aq.l61 (F:Nat) (cN:Sl→Int→Sl→Sl→Int→Int→Hp→OA) :Nat→Nat→Nat→Nat→Nat→Sl→Sl→Int→Int→Hp→OA
 | 0,_,_,_,_,_,_,_,_,_=>none
 | bP + 1,hY,jX,di,kn,ko,lx,hZ,gY,H22=>(bif (decide (gY < hZ)) then (aq.l15725 F cN (aq.l61 F cN bP) F hY jX di kn ko lx hZ gY (⟨none,0,.ex 0⟩:Sl) gY H22) else (some ((.sl ko),H22)))
termination_by structural n=>n
def aq.twX (F:Nat) (cN:Sl→Int→Sl→Sl→Int→Int→Hp→OA) (aa:Sl) (ab:Int) (au:Sl) (aB:Sl) (H:Hp):OA:=(Hp.new H [(.sl aa),(.int .i64 ab)]).bind fun H5=>(Hp.new H5 [(.sl au),(.sl aB)]).bind fun H6=>(Hp.ldSl H6 H.length 0).bind fun s7=>(Hp.mk H6 [.bool false] 1 (IntKind.i64.wrap (4 * (s7.n:Int))) (IntKind.i64.wrap (4 * (s7.n:Int)))).bind fun m8=>aq.l61 F cN F H.length 0 H5.length 0 (⟨none,0,.ex 0⟩:Sl) m8.1 (m8.1.n:Int) 0 m8.2
def aq.tw (F:Nat) (aa:Sl) (ab:Int) (au:Sl) (aB:Sl) (H:Hp):OA:=aq.twX F (bL.tw F) aa ab au aB H
def aq.code:Go.Code:=(Try.f68.body).getD .skip
def aq.lh61 (F:Nat) (cN:Sl→Int→Sl→Sl→Int→Int→Hp→OA) (ks:List Nat) (n:Nat) (tm:Tm) (H:Hp):OA:=match ks,tm 2,tm 3,tm 5,tm 6,tm 17,tm 18 with
 | [],(.ptr hY jX),(.ptr di kn),(.sl ko),(.sl lx),(.int .i64 hZ),(.int .i64 gY)=>aq.l61 F cN n hY jX di kn ko lx hZ gY H
 | _,_,_,_,_,_,_=>none
theorem aq.lh61_inv {F:Nat} {cN:Sl→Int→Sl→Sl→Int→Int→Hp→OA} {ks:List Nat} {n:Nat} {tm:Tm} {H:Hp} {r:AV×Hp} (h:aq.lh61 F cN ks n tm H = some r):∃ hY:Nat,∃ jX:Nat,∃ di:Nat,∃ kn:Nat,∃ ko:Sl,∃ lx:Sl,∃ hZ:Int,∃ gY:Int,ks = []∧tm 2 = (.ptr hY jX)∧tm 3 = (.ptr di kn)∧tm 5 = (.sl ko)∧tm 6 = (.sl lx)∧tm 17 = (.int .i64 hZ)∧tm 18 = (.int .i64 gY)∧aq.l61 F cN n hY jX di kn ko lx hZ gY H = some r:=by
 unfold aq.lh61 at h
 split at h
 ·exact ⟨_,_,_,_,_,_,_,_,rfl,by assumption,by assumption,by assumption,by assumption,by assumption,by assumption,h⟩
 ·cases h
def aq.lh15725 (F:Nat) (cN:Sl→Int→Sl→Sl→Int→Int→Hp→OA) (ks:List Nat) (n:Nat) (tm:Tm) (H:Hp):OA:=match ks,tm 2,tm 3,tm 5,tm 6,tm 8,tm 9,tm 17,tm 18 with
 | [bP],(.ptr eP hU),(.ptr fq iG),(.sl jE),(.sl jr),(.sl km),(.int .i64 dK),(.int .i64 hX),(.int .i64 iH)=>aq.l15725 F cN (aq.l61 F cN bP) n eP hU fq iG jE jr hX iH km dK H
 | _,_,_,_,_,_,_,_,_=>none
theorem aq.lh15725_inv {F:Nat} {cN:Sl→Int→Sl→Sl→Int→Int→Hp→OA} {ks:List Nat} {n:Nat} {tm:Tm} {H:Hp} {r:AV×Hp} (h:aq.lh15725 F cN ks n tm H = some r):∃ bP:Nat,∃ eP:Nat,∃ hU:Nat,∃ fq:Nat,∃ iG:Nat,∃ jE:Sl,∃ jr:Sl,∃ km:Sl,∃ dK:Int,∃ hX:Int,∃ iH:Int,ks = [bP]∧tm 2 = (.ptr eP hU)∧tm 3 = (.ptr fq iG)∧tm 5 = (.sl jE)∧tm 6 = (.sl jr)∧tm 8 = (.sl km)∧tm 9 = (.int .i64 dK)∧tm 17 = (.int .i64 hX)∧tm 18 = (.int .i64 iH)∧aq.l15725 F cN (aq.l61 F cN bP) n eP hU fq iG jE jr hX iH km dK H = some r:=by
 unfold aq.lh15725 at h
 split at h
 ·exact ⟨_,_,_,_,_,_,_,_,_,_,_,rfl,by assumption,by assumption,by assumption,by assumption,by assumption,by assumption,by assumption,by assumption,h⟩
 ·cases h
def aq.lh (F:Nat) (cN:Sl→Int→Sl→Sl→Int→Int→Hp→OA) (p:Nat) (ks:List Nat) (n:Nat) (tm:Tm) (H:Hp):OA:=bif p.beq 15725 then aq.lh15725 F cN ks n tm H else (bif p.beq 61 then aq.lh61 F cN ks n tm H else (none))
def aq.pn:Nat→List Nat:=fun i=>(([]:List (Nat×List Nat)).lookup i).getD []
def aq.tb:Nat→List (List Nat):=fun i=>(([]:List (Nat×List (List Nat))).lookup i).getD []
def aq.mk (g:Sl→Int→Sl→Sl→Hp→OA) (args:List AV) (H:Hp):OA:=match args with
 | [(.agg [(.sl aa),(.int .i64 ab)]),(.agg [(.sl au),(.sl aB)])]=>g aa ab au aB H
 | _=>none
def aq.cs (F:Nat) (cN:Sl→Int→Sl→Sl→Int→Int→Hp→OA):List (FuncId×(List AV→Hp→OA)):=[(104,bL.mk cN)]
theorem aq.loops (F:Nat) (cN:Sl→Int→Sl→Sl→Int→Int→Hp→OA):LoopsOk tabs (mkOrc (aq.cs F cN)) aq.pn (aq.lh F cN) F [] 1 aq.code (fun tm H=>aresults tabs.ty H tm Try.f68.results.toList fun v=>some (v,H)) (fun _ _ _=>none) (fun tm H=>aresults tabs.ty H tm Try.f68.results.toList fun v=>some (v,H)):=by
 refine LoopsOk.seq ?_ ?_
 ·exact loops_none (by kernel_rfl)
 ·refine LoopsOk.seq ?_ ?_
  ·exact loops_none (by kernel_rfl)
  ·refine LoopsOk.seq ?_ ?_
   ·exact loops_none (by kernel_rfl)
   ·refine LoopsOk.seq ?_ ?_
    ·refine LoopsOk.seq ?_ ?_
     ·exact loops_none (by kernel_rfl)
     ·refine LoopsOk.block ?_
      refine LoopsOk.loop (fun tm H=>?_) (fun k61 tm H r h0=>?_) (fun k61=>?_)
      ·refine none_of fun r h0=>?_
       obtain ⟨hY,jX,di,kn,ko,lx,hZ,gY,hks,e2,e3,e5,e6,e17,e18,h⟩:=aq.lh61_inv (show aq.lh61 F cN [] 0 tm H = some r from h0)
       cases h
      ·obtain ⟨hY,jX,di,kn,ko,lx,hZ,gY,hks,e2,e3,e5,e6,e17,e18,h⟩:=aq.lh61_inv (show aq.lh61 F cN [] (k61 + 1) tm H = some r from h0)
       have q0:(Tm.put tm 2 (.ptr hY jX)) = tm:=by exact Tm.put_same e2
       have q1:(Tm.put (Tm.put tm 2 (.ptr hY jX)) 3 (.ptr di kn)) = tm:=by rw [q0]; exact Tm.put_same e3
       have q2:(Tm.put (Tm.put (Tm.put tm 2 (.ptr hY jX)) 3 (.ptr di kn)) 5 (.sl ko)) = tm:=by rw [q1]; exact Tm.put_same e5
       have q3:(Tm.put (Tm.put (Tm.put (Tm.put tm 2 (.ptr hY jX)) 3 (.ptr di kn)) 5 (.sl ko)) 6 (.sl lx)) = tm:=by rw [q2]; exact Tm.put_same e6
       have q4:(Tm.put (Tm.put (Tm.put (Tm.put (Tm.put tm 2 (.ptr hY jX)) 3 (.ptr di kn)) 5 (.sl ko)) 6 (.sl lx)) 17 (.int .i64 hZ)) = tm:=by rw [q3]; exact Tm.put_same e17
       have q5:(Tm.put (Tm.put (Tm.put (Tm.put (Tm.put (Tm.put tm 2 (.ptr hY jX)) 3 (.ptr di kn)) 5 (.sl ko)) 6 (.sl lx)) 17 (.int .i64 hZ)) 18 (.int .i64 gY)) = tm:=by rw [q4]; exact Tm.put_same e18
       rw [← q5]
       exact Eq.trans (by kernel_rfl) h
      ·refine LoopsOk.seq ?_ ?_
       ·exact loops_none (by kernel_rfl)
       ·refine LoopsOk.seq ?_ ?_
        ·exact loops_none (by kernel_rfl)
        ·refine LoopsOk.seq ?_ ?_
         ·refine LoopsOk.block ?_
          refine LoopsOk.seq ?_ ?_
          ·exact loops_none (by kernel_rfl)
          ·refine LoopsOk.seq ?_ ?_
           ·exact loops_none (by kernel_rfl)
           ·refine LoopsOk.seq ?_ ?_
            ·refine LoopsOk.seq ?_ ?_
             ·exact loops_none (by kernel_rfl)
             ·refine LoopsOk.block ?_
              refine LoopsOk.loop (fun tm H=>?_) (fun k15725 tm H r h0=>?_) (fun k15725=>?_)
              ·refine none_of fun r h0=>?_
               obtain ⟨bP,eP,hU,fq,iG,jE,jr,km,dK,hX,iH,hks,e2,e3,e5,e6,e8,e9,e17,e18,h⟩:=aq.lh15725_inv (show aq.lh15725 F cN [k61] 0 tm H = some r from h0)
               cases h
              ·obtain ⟨bP,eP,hU,fq,iG,jE,jr,km,dK,hX,iH,hks,e2,e3,e5,e6,e8,e9,e17,e18,h⟩:=aq.lh15725_inv (show aq.lh15725 F cN [k61] (k15725 + 1) tm H = some r from h0)
               obtain rfl:bP = k61:=by simpa [eq_comm] using hks
               have q0:(Tm.put tm 2 (.ptr eP hU)) = tm:=by exact Tm.put_same e2
               have q1:(Tm.put (Tm.put tm 2 (.ptr eP hU)) 3 (.ptr fq iG)) = tm:=by rw [q0]; exact Tm.put_same e3
               have q2:(Tm.put (Tm.put (Tm.put tm 2 (.ptr eP hU)) 3 (.ptr fq iG)) 5 (.sl jE)) = tm:=by rw [q1]; exact Tm.put_same e5
               have q3:(Tm.put (Tm.put (Tm.put (Tm.put tm 2 (.ptr eP hU)) 3 (.ptr fq iG)) 5 (.sl jE)) 6 (.sl jr)) = tm:=by rw [q2]; exact Tm.put_same e6
               have q4:(Tm.put (Tm.put (Tm.put (Tm.put (Tm.put tm 2 (.ptr eP hU)) 3 (.ptr fq iG)) 5 (.sl jE)) 6 (.sl jr)) 8 (.sl km)) = tm:=by rw [q3]; exact Tm.put_same e8
               have q5:(Tm.put (Tm.put (Tm.put (Tm.put (Tm.put (Tm.put tm 2 (.ptr eP hU)) 3 (.ptr fq iG)) 5 (.sl jE)) 6 (.sl jr)) 8 (.sl km)) 9 (.int .i64 dK)) = tm:=by rw [q4]; exact Tm.put_same e9
               have q6:(Tm.put (Tm.put (Tm.put (Tm.put (Tm.put (Tm.put (Tm.put tm 2 (.ptr eP hU)) 3 (.ptr fq iG)) 5 (.sl jE)) 6 (.sl jr)) 8 (.sl km)) 9 (.int .i64 dK)) 17 (.int .i64 hX)) = tm:=by rw [q5]; exact Tm.put_same e17
               have q7:(Tm.put (Tm.put (Tm.put (Tm.put (Tm.put (Tm.put (Tm.put (Tm.put tm 2 (.ptr eP hU)) 3 (.ptr fq iG)) 5 (.sl jE)) 6 (.sl jr)) 8 (.sl km)) 9 (.int .i64 dK)) 17 (.int .i64 hX)) 18 (.int .i64 iH)) = tm:=by rw [q6]; exact Tm.put_same e18
               rw [← q7]
               exact Eq.trans (by kernel_rfl) h
              ·exact loops_none (by kernel_rfl)
            ·exact loops_none (by kernel_rfl)
         ·exact loops_none (by kernel_rfl)
    ·exact loops_none (by kernel_rfl)
theorem aq.eqX (F:Nat) (cN:Sl→Int→Sl→Sl→Int→Int→Hp→OA) (aa:Sl) (ab:Int) (au:Sl) (aB:Sl) (H:Hp):aCode tabs (mkOrc (aq.cs F cN)) aq.pn (aq.lh F cN) F [] 1 aq.code (argTm [(.agg [(.sl aa),(.int .i64 ab)]),(.agg [(.sl au),(.sl aB)])]) H (fun tm H=>aresults tabs.ty H tm Try.f68.results.toList fun v=>some (v,H)) (fun _ _ _=>none) (fun tm H=>aresults tabs.ty H tm Try.f68.results.toList fun v=>some (v,H)) = aq.twX F cN aa ab au aB H:=by kernel_rfl
theorem aq.cs_ok (F:Nat):∀ p ∈ aq.cs F (bL.tw F),∀ args H v H',p.2 args H = some (v,H')→Go.AE.T Try.prog p.1 args H v H':=by
 intro p hp
 simp only [aq.cs,List.mem_cons,List.not_mem_nil,or_false] at hp
 subst hp
 exact fun args H v H' h=>bL.mk_T h
theorem aq.ok:codeOk aq.pn Try.f68.ntmps aq.tb aq.code = true:=by kernel_rfl
theorem aq.T {F:Nat} {aa:Sl} {ab:Int} {au:Sl} {aB:Sl} {H:Hp} {v:AV} {H':Hp} (h:aq.tw F aa ab au aB H = some (v,H')):Go.AE.T Try.prog 68 [(.agg [(.sl aa),(.int .i64 ab)]),(.agg [(.sl au),(.sl aB)])] H v H':=
 Go.AE.T.of (Y:=tabs) (C:=mkOrc (aq.cs F (bL.tw F))) (PN:=aq.pn) (LH:=aq.lh F (bL.tw F)) (F:=F) (TB:=aq.tb) (fn:=Try.f68) (code:=aq.code) mixed tabs_ok (mkOrc_ok (aq.cs_ok F)) Try.func68 (by kernel_rfl) (by kernel_rfl) aq.ok (Nat.le_of_ble_eq_true (by kernel_rfl)) (aq.loops F (bL.tw F)) (Eq.trans (aq.eqX F (bL.tw F) aa ab au aB H) h)
theorem aq.mk_T {F:Nat} {args:List AV} {H:Hp} {v:AV} {H':Hp} (h:aq.mk (aq.tw F) args H = some (v,H')):Go.AE.T Try.prog 68 args H v H':=by
 unfold aq.mk at h
 split at h
 ·exact aq.T h
 ·cases h
def cp.twX (F:Nat) (aa:Sl) (H:Hp):OA:=some ((.int .i64 (aa.n:Int)),H)
def cp.tw (F:Nat) (aa:Sl) (H:Hp):OA:=cp.twX F aa H
def cp.code:Go.Code:=(Try.f67.body).getD .skip
def cp.lh (F:Nat) (p:Nat) (ks:List Nat) (n:Nat) (tm:Tm) (H:Hp):OA:=none
def cp.pn:Nat→List Nat:=fun i=>(([]:List (Nat×List Nat)).lookup i).getD []
def cp.tb:Nat→List (List Nat):=fun i=>(([]:List (Nat×List (List Nat))).lookup i).getD []
def cp.mk (g:Sl→Hp→OA) (args:List AV) (H:Hp):OA:=match args with
 | [(.sl aa)]=>g aa H
 | _=>none
def cp.cs (F:Nat):List (FuncId×(List AV→Hp→OA)):=[]
theorem cp.loops (F:Nat):LoopsOk tabs (mkOrc (cp.cs F)) cp.pn (cp.lh F) F [] 1 cp.code (fun tm H=>aresults tabs.ty H tm Try.f67.results.toList fun v=>some (v,H)) (fun _ _ _=>none) (fun tm H=>aresults tabs.ty H tm Try.f67.results.toList fun v=>some (v,H)):=by
 exact loops_none (by kernel_rfl)
theorem cp.eqX (F:Nat) (aa:Sl) (H:Hp):aCode tabs (mkOrc (cp.cs F)) cp.pn (cp.lh F) F [] 1 cp.code (argTm [(.sl aa)]) H (fun tm H=>aresults tabs.ty H tm Try.f67.results.toList fun v=>some (v,H)) (fun _ _ _=>none) (fun tm H=>aresults tabs.ty H tm Try.f67.results.toList fun v=>some (v,H)) = cp.twX F aa H:=by kernel_rfl
theorem cp.cs_ok (F:Nat):∀ p ∈ cp.cs F,∀ args H v H',p.2 args H = some (v,H')→Go.AE.T Try.prog p.1 args H v H':=by
 intro p hp
 exact absurd (show p ∈ [] from hp) List.not_mem_nil
theorem cp.ok:codeOk cp.pn Try.f67.ntmps cp.tb cp.code = true:=by kernel_rfl
theorem cp.T {F:Nat} {aa:Sl} {H:Hp} {v:AV} {H':Hp} (h:cp.tw F aa H = some (v,H')):Go.AE.T Try.prog 67 [(.sl aa)] H v H':=
 Go.AE.T.of (Y:=tabs) (C:=mkOrc (cp.cs F)) (PN:=cp.pn) (LH:=cp.lh F) (F:=F) (TB:=cp.tb) (fn:=Try.f67) (code:=cp.code) mixed tabs_ok (mkOrc_ok (cp.cs_ok F)) Try.func67 (by kernel_rfl) (by kernel_rfl) cp.ok (Nat.le_of_ble_eq_true (by kernel_rfl)) (cp.loops F) (Eq.trans (cp.eqX F aa H) h)
theorem cp.mk_T {F:Nat} {args:List AV} {H:Hp} {v:AV} {H':Hp} (h:cp.mk (cp.tw F) args H = some (v,H')):Go.AE.T Try.prog 67 args H v H':=by
 unfold cp.mk at h
 split at h
 ·exact cp.T h
 ·cases h
def bf.l29 (F:Nat) :Nat→Sl→Int→Int→Hp→OA
 | 0,_,_,_,_=>none
 | cB + 1,kP,h_,fY,H7=>(bif (decide (fY < h_)) then ((Hp.new H7 [(.int .i64 fY)]).bind fun H11=>(Sl.row H11 (⟨some (H7.length,0),1,.ex 1⟩:Sl) 1).bind fun xs13=>(Hp.app H11 1 8 kP (⟨some (H7.length,0),1,.ex 1⟩:Sl).n xs13).bind fun a12=>bf.l29 F cB a12.1 h_ (IntKind.i64.wrap (fY + 1)) a12.2) else (some ((.sl kP),H7)))
termination_by structural n=>n
def bf.twX (F:Nat) (aa:Int) (H:Hp):OA:=bf.l29 F F (⟨none,0,.ex 0⟩:Sl) aa 0 H
def bf.tw (F:Nat) (aa:Int) (H:Hp):OA:=bf.twX F aa H
def bf.code:Go.Code:=(Try.f106.body).getD .skip
def bf.lh29 (F:Nat) (ks:List Nat) (n:Nat) (tm:Tm) (H:Hp):OA:=match ks,tm 3,tm 5,tm 6 with
 | [],(.sl kP),(.int .i64 h_),(.int .i64 fY)=>bf.l29 F n kP h_ fY H
 | _,_,_,_=>none
theorem bf.lh29_inv {F:Nat} {ks:List Nat} {n:Nat} {tm:Tm} {H:Hp} {r:AV×Hp} (h:bf.lh29 F ks n tm H = some r):∃ kP:Sl,∃ h_:Int,∃ fY:Int,ks = []∧tm 3 = (.sl kP)∧tm 5 = (.int .i64 h_)∧tm 6 = (.int .i64 fY)∧bf.l29 F n kP h_ fY H = some r:=by
 unfold bf.lh29 at h
 split at h
 ·exact ⟨_,_,_,rfl,by assumption,by assumption,by assumption,h⟩
 ·cases h
def bf.lh (F:Nat) (p:Nat) (ks:List Nat) (n:Nat) (tm:Tm) (H:Hp):OA:=bif p.beq 29 then bf.lh29 F ks n tm H else (none)
def bf.pn:Nat→List Nat:=fun i=>(([]:List (Nat×List Nat)).lookup i).getD []
def bf.tb:Nat→List (List Nat):=fun i=>(([]:List (Nat×List (List Nat))).lookup i).getD []
def bf.mk (g:Int→Hp→OA) (args:List AV) (H:Hp):OA:=match args with
 | [(.int .i64 aa)]=>g aa H
 | _=>none
def bf.cs (F:Nat):List (FuncId×(List AV→Hp→OA)):=[]
theorem bf.loops (F:Nat):LoopsOk tabs (mkOrc (bf.cs F)) bf.pn (bf.lh F) F [] 1 bf.code (fun tm H=>aresults tabs.ty H tm Try.f106.results.toList fun v=>some (v,H)) (fun _ _ _=>none) (fun tm H=>aresults tabs.ty H tm Try.f106.results.toList fun v=>some (v,H)):=by
 refine LoopsOk.seq ?_ ?_
 ·exact loops_none (by kernel_rfl)
 ·refine LoopsOk.seq ?_ ?_
  ·exact loops_none (by kernel_rfl)
  ·refine LoopsOk.seq ?_ ?_
   ·refine LoopsOk.seq ?_ ?_
    ·exact loops_none (by kernel_rfl)
    ·refine LoopsOk.block ?_
     refine LoopsOk.loop (fun tm H=>?_) (fun k29 tm H r h0=>?_) (fun k29=>?_)
     ·refine none_of fun r h0=>?_
      obtain ⟨kP,h_,fY,hks,e3,e5,e6,h⟩:=bf.lh29_inv (show bf.lh29 F [] 0 tm H = some r from h0)
      cases h
     ·obtain ⟨kP,h_,fY,hks,e3,e5,e6,h⟩:=bf.lh29_inv (show bf.lh29 F [] (k29 + 1) tm H = some r from h0)
      have q0:(Tm.put tm 3 (.sl kP)) = tm:=by exact Tm.put_same e3
      have q1:(Tm.put (Tm.put tm 3 (.sl kP)) 5 (.int .i64 h_)) = tm:=by rw [q0]; exact Tm.put_same e5
      have q2:(Tm.put (Tm.put (Tm.put tm 3 (.sl kP)) 5 (.int .i64 h_)) 6 (.int .i64 fY)) = tm:=by rw [q1]; exact Tm.put_same e6
      rw [← q2]
      exact Eq.trans (by kernel_rfl) h
     ·exact loops_none (by kernel_rfl)
   ·exact loops_none (by kernel_rfl)
theorem bf.eqX (F:Nat) (aa:Int) (H:Hp):aCode tabs (mkOrc (bf.cs F)) bf.pn (bf.lh F) F [] 1 bf.code (argTm [(.int .i64 aa)]) H (fun tm H=>aresults tabs.ty H tm Try.f106.results.toList fun v=>some (v,H)) (fun _ _ _=>none) (fun tm H=>aresults tabs.ty H tm Try.f106.results.toList fun v=>some (v,H)) = bf.twX F aa H:=by kernel_rfl
theorem bf.cs_ok (F:Nat):∀ p ∈ bf.cs F,∀ args H v H',p.2 args H = some (v,H')→Go.AE.T Try.prog p.1 args H v H':=by
 intro p hp
 exact absurd (show p ∈ [] from hp) List.not_mem_nil
theorem bf.ok:codeOk bf.pn Try.f106.ntmps bf.tb bf.code = true:=by kernel_rfl
theorem bf.T {F:Nat} {aa:Int} {H:Hp} {v:AV} {H':Hp} (h:bf.tw F aa H = some (v,H')):Go.AE.T Try.prog 106 [(.int .i64 aa)] H v H':=
 Go.AE.T.of (Y:=tabs) (C:=mkOrc (bf.cs F)) (PN:=bf.pn) (LH:=bf.lh F) (F:=F) (TB:=bf.tb) (fn:=Try.f106) (code:=bf.code) mixed tabs_ok (mkOrc_ok (bf.cs_ok F)) Try.func106 (by kernel_rfl) (by kernel_rfl) bf.ok (Nat.le_of_ble_eq_true (by kernel_rfl)) (bf.loops F) (Eq.trans (bf.eqX F aa H) h)
theorem bf.mk_T {F:Nat} {args:List AV} {H:Hp} {v:AV} {H':Hp} (h:bf.mk (bf.tw F) args H = some (v,H')):Go.AE.T Try.prog 106 args H v H':=by
 unfold bf.mk at h
 split at h
 ·exact bf.T h
 ·cases h
def aQ.j2 (F:Nat) (C7_:Sl→Int→Int→Sl→Int→Int→Hp→OA) (acJ:Sl) (rN:Int) (rO:Int) (acK:Sl) (rP:Int) (rQ:Int) (H50:Hp):OA:=C7_ acJ rN rO acK rP (IntKind.i64.wrap (rQ + 1)) H50
def aQ.l7 (F:Nat) :Nat→Sl→Int→Int→Sl→Int→Int→Hp→OA
 | 0,_,_,_,_,_,_,_=>none
 | At + 1,dq,eQ,ft,kp,gE,eR,H16=>(bif (decide (eR < gE)) then ((Sl.idx kp eR 1).bind fun p34=>(Hp.ldI H16 .i64 p34.1 p34.2).bind fun n35=>(bif (n35 == eQ) then ((Sl.idx dq eR 1).bind fun p36=>(Hp.st H16 p36.1 p36.2 (.int .i64 ft)).bind fun H37=>aQ.j2 F (aQ.l7 F At) dq eQ ft kp gE eR H37) else (aQ.j2 F (aQ.l7 F At) dq eQ ft kp gE eR H16))) else (some ((.tup []),H16)))
termination_by structural n=>n
def aQ.twX (F:Nat) (aa:Sl) (ak:Int) (bF:Int) (H:Hp):OA:=(Sl.idx aa bF 1).bind fun p4=>(Hp.ldI H .i64 p4.1 p4.2).bind fun n5=>(Sl.idx aa ak 1).bind fun p6=>(Hp.ldI H .i64 p6.1 p6.2).bind fun n7=>aQ.l7 F F aa n5 n7 aa (aa.n:Int) 0 H
def aQ.tw (F:Nat) (aa:Sl) (ak:Int) (bF:Int) (H:Hp):OA:=aQ.twX F aa ak bF H
def aQ.code:Go.Code:=(Try.f107.body).getD .skip
def aQ.lh7 (F:Nat) (ks:List Nat) (n:Nat) (tm:Tm) (H:Hp):OA:=match ks,tm 0,tm 6,tm 7,tm 18,tm 19,tm 20 with
 | [],(.sl dq),(.int .i64 eQ),(.int .i64 ft),(.sl kp),(.int .i64 gE),(.int .i64 eR)=>aQ.l7 F n dq eQ ft kp gE eR H
 | _,_,_,_,_,_,_=>none
theorem aQ.lh7_inv {F:Nat} {ks:List Nat} {n:Nat} {tm:Tm} {H:Hp} {r:AV×Hp} (h:aQ.lh7 F ks n tm H = some r):∃ dq:Sl,∃ eQ:Int,∃ ft:Int,∃ kp:Sl,∃ gE:Int,∃ eR:Int,ks = []∧tm 0 = (.sl dq)∧tm 6 = (.int .i64 eQ)∧tm 7 = (.int .i64 ft)∧tm 18 = (.sl kp)∧tm 19 = (.int .i64 gE)∧tm 20 = (.int .i64 eR)∧aQ.l7 F n dq eQ ft kp gE eR H = some r:=by
 unfold aQ.lh7 at h
 split at h
 ·exact ⟨_,_,_,_,_,_,rfl,by assumption,by assumption,by assumption,by assumption,by assumption,by assumption,h⟩
 ·cases h
def aQ.lh (F:Nat) (p:Nat) (ks:List Nat) (n:Nat) (tm:Tm) (H:Hp):OA:=bif p.beq 7 then aQ.lh7 F ks n tm H else (none)
def aQ.pn:Nat→List Nat:=fun i=>(([(0,[])]:List (Nat×List Nat)).lookup i).getD []
def aQ.tb:Nat→List (List Nat):=fun i=>(([(0,[[],[],[0,1],[0,1,2],[],[],[4,5],[4,5,6],[0,1,2,3],[0,1,2,3,4,5,6,7,8]])]:List (Nat×List (List Nat))).lookup i).getD []
def aQ.mk (g:Sl→Int→Int→Hp→OA) (args:List AV) (H:Hp):OA:=match args with
 | [(.sl aa),(.int .i64 ak),(.int .i64 bF)]=>g aa ak bF H
 | _=>none
def aQ.cs (F:Nat):List (FuncId×(List AV→Hp→OA)):=[]
theorem aQ.loops (F:Nat):LoopsOk tabs (mkOrc (aQ.cs F)) aQ.pn (aQ.lh F) F [] 1 aQ.code (fun tm H=>aresults tabs.ty H tm Try.f107.results.toList fun v=>some (v,H)) (fun _ _ _=>none) (fun tm H=>aresults tabs.ty H tm Try.f107.results.toList fun v=>some (v,H)):=by
 refine LoopsOk.seq ?_ ?_
 ·exact loops_none (by kernel_rfl)
 ·refine LoopsOk.seq ?_ ?_
  ·exact loops_none (by kernel_rfl)
  ·refine LoopsOk.block ?_
   refine LoopsOk.loop (fun tm H=>?_) (fun k7 tm H r h0=>?_) (fun k7=>?_)
   ·refine none_of fun r h0=>?_
    obtain ⟨dq,eQ,ft,kp,gE,eR,hks,e0,e6,e7,e18,e19,e20,h⟩:=aQ.lh7_inv (show aQ.lh7 F [] 0 tm H = some r from h0)
    cases h
   ·obtain ⟨dq,eQ,ft,kp,gE,eR,hks,e0,e6,e7,e18,e19,e20,h⟩:=aQ.lh7_inv (show aQ.lh7 F [] (k7 + 1) tm H = some r from h0)
    have q0:(Tm.put tm 0 (.sl dq)) = tm:=by exact Tm.put_same e0
    have q1:(Tm.put (Tm.put tm 0 (.sl dq)) 6 (.int .i64 eQ)) = tm:=by rw [q0]; exact Tm.put_same e6
    have q2:(Tm.put (Tm.put (Tm.put tm 0 (.sl dq)) 6 (.int .i64 eQ)) 7 (.int .i64 ft)) = tm:=by rw [q1]; exact Tm.put_same e7
    have q3:(Tm.put (Tm.put (Tm.put (Tm.put tm 0 (.sl dq)) 6 (.int .i64 eQ)) 7 (.int .i64 ft)) 18 (.sl kp)) = tm:=by rw [q2]; exact Tm.put_same e18
    have q4:(Tm.put (Tm.put (Tm.put (Tm.put (Tm.put tm 0 (.sl dq)) 6 (.int .i64 eQ)) 7 (.int .i64 ft)) 18 (.sl kp)) 19 (.int .i64 gE)) = tm:=by rw [q3]; exact Tm.put_same e19
    have q5:(Tm.put (Tm.put (Tm.put (Tm.put (Tm.put (Tm.put tm 0 (.sl dq)) 6 (.int .i64 eQ)) 7 (.int .i64 ft)) 18 (.sl kp)) 19 (.int .i64 gE)) 20 (.int .i64 eR)) = tm:=by rw [q4]; exact Tm.put_same e20
    rw [← q5]
    exact Eq.trans (by kernel_rfl) h
   ·exact loops_none (by kernel_rfl)
theorem aQ.eqX (F:Nat) (aa:Sl) (ak:Int) (bF:Int) (H:Hp):aCode tabs (mkOrc (aQ.cs F)) aQ.pn (aQ.lh F) F [] 1 aQ.code (argTm [(.sl aa),(.int .i64 ak),(.int .i64 bF)]) H (fun tm H=>aresults tabs.ty H tm Try.f107.results.toList fun v=>some (v,H)) (fun _ _ _=>none) (fun tm H=>aresults tabs.ty H tm Try.f107.results.toList fun v=>some (v,H)) = aQ.twX F aa ak bF H:=by kernel_rfl
theorem aQ.cs_ok (F:Nat):∀ p ∈ aQ.cs F,∀ args H v H',p.2 args H = some (v,H')→Go.AE.T Try.prog p.1 args H v H':=by
 intro p hp
 exact absurd (show p ∈ [] from hp) List.not_mem_nil
theorem aQ.ok:codeOk aQ.pn Try.f107.ntmps aQ.tb aQ.code = true:=by kernel_rfl
theorem aQ.T {F:Nat} {aa:Sl} {ak:Int} {bF:Int} {H:Hp} {v:AV} {H':Hp} (h:aQ.tw F aa ak bF H = some (v,H')):Go.AE.T Try.prog 107 [(.sl aa),(.int .i64 ak),(.int .i64 bF)] H v H':=
 Go.AE.T.of (Y:=tabs) (C:=mkOrc (aQ.cs F)) (PN:=aQ.pn) (LH:=aQ.lh F) (F:=F) (TB:=aQ.tb) (fn:=Try.f107) (code:=aQ.code) mixed tabs_ok (mkOrc_ok (aQ.cs_ok F)) Try.func107 (by kernel_rfl) (by kernel_rfl) aQ.ok (Nat.le_of_ble_eq_true (by kernel_rfl)) (aQ.loops F) (Eq.trans (aQ.eqX F aa ak bF H) h)
theorem aQ.mk_T {F:Nat} {args:List AV} {H:Hp} {v:AV} {H':Hp} (h:aQ.mk (aQ.tw F) args H = some (v,H')):Go.AE.T Try.prog 107 args H v H':=by
 unfold aQ.mk at h
 split at h
 ·exact aQ.T h
 ·cases h
theorem nm_law:Keyed Try.prog 2:=int_keyed Try.underlying2
theorem nm_zero (w:World):(zeroValue 2).run Try.prog w = .ok (.int .i64 0) w:=by kernel_rfl
theorem nm_info:(Try.prog.info? 2).map (fun i=>(i.zero,i.size,i.bytes)) = some (some (.int .i64 0),1,8):=by kernel_rfl
theorem nm_none (a:Option Addr) (cap:Nat) (w:World):Calls Try.prog 108 #[.slice a 0 cap] w fun e w'=>e = .returned (.slice none 0 0)∧Below w.heap.size w w':=by
 have hmm:=@run_makeMap Try.prog
 go_enter Try.func108,Try.ntmps108
 go_wp2
 refine wp_loop_rounds 1 ?_
 rw [rounds_succ]
 go_wp2
 go_ret
 exact ⟨rfl,(Below.refl _ _).alloc (Nat.le_refl _) _⟩
theorem nm_any (b off len cap:Nat) (zs:List Int) (w:World) (hreach:len ≤ 4294967296) (hz:len ≤ zs.length) (hb:b < w.heap.size)
  (hc:∀ j,j < zs.length→w.cell? ⟨b,off + j,none⟩ = some (.int .i64 (zs.getD j 0))) (hwz:∀ n ∈ zs,(Lit.int .i64 n).wf = true) :
  Calls Try.prog 108 #[.slice (some ⟨b,off,none⟩) len cap] w fun e w'=>∃ v,e = .returned v∧w'.ownsRow (w.heap.size + 1) 2 1 v len ((nst zs len).2.map (Value.int .i64))∧Below w.heap.size w w':=by
 have hmm:=@run_makeMap Try.prog
 obtain ⟨i0,hi,hz0,hz1,hz2⟩:=info_parts nm_info
 go_enter Try.func108,Try.ntmps108
 go_wp2
 go_loopw [4,12] (fun v i wr=>∃ (k:Nat) (D:DataW Unit),k ≤ len∧i = .int .i64 k∧wr.ownsMap Try.prog 2 (plainElem Try.prog 2) w.heap.size k D∧ND D (nst zs k).1 ∧
   wr.ownsRow (w.heap.size + 1) 2 1 v k ((nst zs k).2.map (Value.int .i64))∧Below w.heap.size w wr∧w.heap.size + 1 ≤ wr.heap.size)
  (fun _ i _=>len - (intOf i).toNat)
 case atStart=>exact ⟨0,.map [],Nat.zero_le _,rfl,World.ownsMap_made _ _ _ _,ND.nil,World.ownsRow_nil _ _ _ _,(Below.refl _ _).alloc (Nat.le_refl _) _,by simp⟩
 case round=>
  obtain ⟨k,D,hk,rfl,hown,hD,hrow,hnx,hws⟩:=hrel
  obtain ⟨x,hx⟩:∃ x,x = zs.getD k 0:=⟨_,rfl⟩
  have hwx:(Lit.int .i64 x).wf = true:=by rw [hx]; exact wf_gd hwz k
  have hcx:k < len→wr.cell? ⟨b,off + k,none⟩ = some (.int .i64 x):=fun _=>by rw [hx]; exact (hnx.cell (by exact hb)).trans (hc k (by omega))
  have hkey:keyOf Try.prog 2 (.int .i64 x) = some (.int .i64 x):=keyOf_int_mk Try.underlying2 hwx
  have hl1:=nst_len1 zs k
  have hs1:Maps.size D ≤ k:=by rw [hD.size]; exact hl1
  have hht:=hown.tidy nm_law
  have n1:nst zs (k + 1) = (bif (nst zs k).1.contains x then (nst zs k).1 else (nst zs k).1 ++ [x],(nst zs k).2 ++ [(((bif (nst zs k).1.contains x then (nst zs k).1 else (nst zs k).1 ++ [x]).idxOf x:Nat):Int)]):=by rw [hx]; rfl
  clear hx
  go_wp2_with (first
   | (at_lookup; first
     | (refine wpList_lookup_own_ok_int _ rfl _ _ 155 rfl 2 2 .i64 nm_law Try.underlying155 Try.underlying2 (nm_zero _) w.heap.size k _ rfl hown _ _ rfl hkey ?_; intro c hat hwc)
     | (refine wpList_lookup_own_int _ rfl _ _ 155 rfl 2 2 .i64 nm_law Try.underlying155 Try.underlying2 (nm_zero _) w.heap.size (k + 1) _ rfl hown1 _ _ rfl hkey ?_; intro c2 hat2 hwc2)
     | (refine wpList_lookup_own_int _ rfl _ _ 155 rfl 2 2 .i64 nm_law Try.underlying155 Try.underlying2 (nm_zero _) w.heap.size k _ rfl hown _ _ rfl hkey ?_; intro c2 hat2 hwc2))
   | (at_len; refine wpList_len_own _ rfl _ 155 rfl 2 2 Try.underlying155 _ w.heap.size k _ rfl hown ?_)
   | (at_mapUpdate; refine wpList_mapUpdate_own _ rfl _ _ _ 155 rfl 2 2 nm_law Try.underlying155 (plainElem Try.prog 2) w.heap.size k _ rfl hown (by unfold maxLen; omega) _ _ _ rfl rfl hkey _ [] (plainElem_int Try.underlying2 (WalkArith.wf_i64 (by omega))) ?_; intro w1 hown1 hgrow1)
   | (at_builtin; first
     | (refine wpList_append_own _ rfl _ _ 34 rfl (w.heap.size + 1) 2 i0 (.int .i64 0) 1 8 Try.underlying34 hi hz0 hz1 hz2 rfl (by decide) _ _ _ rfl ((hrow.kept hgrow1 (Or.inr (rowNe hrow (Nat.lt_succ_self _)).symm)).alloc _) ⟨w1.heap.size,0,none⟩ 1 1 [.int .i64 c2] rfl rfl (cell_one_new _ _ _) (ints_oneCell .i64 [c2]) (by unfold maxLen; omega) (by omega) (by have:=hgrow1.size; simp at this ⊢; omega) ?_; intro v' w2 hown' hgrow2 hnil2)
     | (refine wpList_append_own _ rfl _ _ 34 rfl (w.heap.size + 1) 2 i0 (.int .i64 0) 1 8 Try.underlying34 hi hz0 hz1 hz2 rfl (by decide) _ _ _ rfl (hrow.alloc _) ⟨wr.heap.size,0,none⟩ 1 1 [.int .i64 c2] rfl rfl (cell_one_new _ _ _) (ints_oneCell .i64 [c2]) (by unfold maxLen; omega) (by omega) (by simp; omega) ?_; intro v' w2 hown' hgrow2 hnil2))
   | go_in)
  ·have hlt:k < len:=by assumption
   have ht:(!Maps.has D (Lit.int .i64 x)) = true:=by assumption
   have hc0:(nst zs k).1.contains x = false:=by rw [← hD.has x]; simpa using ht
   have hr1:=hrow.kept hgrow1 (Or.inr (rowNe hrow (Nat.lt_succ_self _)).symm)
   have s1:=hgrow1.size
   have s2:=hgrow2.size
   simp at s1 s2
   have hD1:=hD.new hht hc0
   rw [hD1.at_ x (by simp) _] at hat2
   have e2:c2 = (((nst zs k).1 ++ [x]).idxOf x:Nat):=by injection hat2 with q; injection q with _ q; exact q.symm
   rw [hc0,cond_false] at n1
   go_roundw
   case rel=>
    refine ⟨k + 1,_,by omega,by go_num,(hown1.alloc _).kept hgrow2 (rowNe hr1 (Nat.lt_succ_self _)),by rw [n1]; exact hD1,?_,?_,by omega⟩
    ·rw [n1,List.map_append,← e2]; exact hown'
    ·exact (((hnx.grown hgrow1 hnx.size (fun j hj=>by cases hj; exact Nat.le_refl _)).alloc (by omega) _).grown hgrow2 (by simp; omega) (fun j hj=>Nat.le_trans (Nat.le_succ _) (hr1.lt j hj).1))
   case measure=>simp [intOf]; omega
  ·have hlt:k < len:=by assumption
   have ht:(!Maps.has D (Lit.int .i64 x)) = false:=by assumption
   have hc1:(nst zs k).1.contains x = true:=by rw [← hD.has x]; simpa using ht
   have s2:=hgrow2.size
   simp at s2
   rw [hD.at_ x hc1 _] at hat2
   have e2:c2 = ((nst zs k).1.idxOf x:Nat):=by injection hat2 with q; injection q with _ q; exact q.symm
   rw [hc1,cond_true] at n1
   go_roundw
   case rel=>
    refine ⟨k + 1,_,by omega,by go_num,((hown.alloc _).kept hgrow2 (rowNe hrow (Nat.lt_succ_self _))).mono (Nat.le_succ _),by rw [n1]; exact hD,?_,?_,by omega⟩
    ·rw [n1,List.map_append,← e2]; exact hown'
    ·exact ((hnx.alloc hnx.size _).grown hgrow2 (by simp; omega) (fun j hj=>Nat.le_trans (Nat.le_succ _) (hrow.lt j hj).1))
   case measure=>simp [intOf]; omega
  ·have:k = len:=by omega
   subst this
   go_ret
   exact ⟨_,rfl,hrow,hnx⟩
theorem nm_ok:NumOk Try.prog 108 2:=⟨nm_none,nm_any⟩
def dv.tw (F:Nat) (aa:Sl) (H:Hp):OA:=numTw aa H
def dv.mk (g:Sl→Hp→OA) (args:List AV) (H:Hp):OA:=match args with
 | [.sl aa]=>g aa H
 | _=>none
theorem dv.T {F:Nat} {aa:Sl} {H:Hp} {v:AV} {H':Hp} (h:dv.tw F aa H = some (v,H')):Go.AE.T Try.prog 108 [.sl aa] H v H':=
 nm_ok.T (enters_of Try.func108 (by kernel_rfl) (by kernel_rfl)) h
theorem dv.mk_T {F:Nat} {args:List AV} {H:Hp} {v:AV} {H':Hp} (h:dv.mk (dv.tw F) args H = some (v,H')):Go.AE.T Try.prog 108 args H v H':=by
 unfold dv.mk at h
 split at h
 ·exact dv.T h
 ·cases h
def aK.l29 (F:Nat) (db:Sl→Hp→OA) (fZ:Int→Hp→OA) (f_:Sl→Int→Int→Hp→OA) (ga:Sl→Hp→OA) :Nat→Nat→Nat→Sl→Sl→Int→Int→Hp→OA
 | 0,_,_,_,_,_,_,_=>none
 | cB + 1,ia,cT,dp,kQ,ib,gb,H26=>(bif (decide (gb < ib)) then ((Sl.idx kQ gb 2).bind fun p40=>(Hp.ldI H26 .i64 p40.1 p40.2).bind fun n41=>(Hp.ldI H26 .i64 p40.1 (p40.2 + 1)).bind fun n42=>(Hp.new H26 [.int .i64 0,.int .i64 0]).bind fun H43=>(Hp.st H43 H26.length 0 (.int .i64 n41)).bind fun H44=>(Hp.st H44 H26.length (0 + 1) (.int .i64 n42)).bind fun H45=>(Hp.ldI H45 .i64 H26.length 0).bind fun n46=>(Hp.ldSl H45 ia (cT + 1)).bind fun s47=>(Sl.idx s47 gb 2).bind fun p48=>(Hp.ldI H45 .i64 p48.1 p48.2).bind fun n49=>(f_ dp n46 n49 H45).bind fun r50=>aK.l29 F db fZ f_ ga cB ia cT dp kQ ib (IntKind.i64.wrap (gb + 1)) r50.2) else ((ga dp H26).bind fun r51=>((r51.1).asSl).bind fun s52=>some ((.sl s52),r51.2)))
termination_by structural n=>n
def aK.twX (F:Nat) (db:Sl→Hp→OA) (fZ:Int→Hp→OA) (f_:Sl→Int→Int→Hp→OA) (ga:Sl→Hp→OA) (aa:Sl) (ab:Int) (au:Sl) (aB:Sl) (H:Hp):OA:=(Hp.new H [(.sl aa),(.int .i64 ab)]).bind fun H5=>(Hp.new H5 [(.sl au),(.sl aB)]).bind fun H6=>(Hp.ldSl H6 H.length 0).bind fun s7=>(db s7 H6).bind fun r8=>((r8.1).asI .i64).bind fun n9=>(fZ n9 r8.2).bind fun r10=>((r10.1).asSl).bind fun s11=>(Hp.ldSl r10.2 H5.length 0).bind fun s12=>aK.l29 F db fZ f_ ga F H5.length 0 s11 s12 (s12.n:Int) 0 r10.2
def aK.tw (F:Nat) (aa:Sl) (ab:Int) (au:Sl) (aB:Sl) (H:Hp):OA:=aK.twX F (bx.tw F) (bf.tw F) (aQ.tw F) (dv.tw F) aa ab au aB H
def aK.code:Go.Code:=(Try.f70.body).getD .skip
def aK.lh29 (F:Nat) (db:Sl→Hp→OA) (fZ:Int→Hp→OA) (f_:Sl→Int→Int→Hp→OA) (ga:Sl→Hp→OA) (ks:List Nat) (n:Nat) (tm:Tm) (H:Hp):OA:=match ks,tm 3,tm 5,tm 13,tm 14,tm 15 with
 | [],(.ptr ia cT),(.sl dp),(.sl kQ),(.int .i64 ib),(.int .i64 gb)=>aK.l29 F db fZ f_ ga n ia cT dp kQ ib gb H
 | _,_,_,_,_,_=>none
theorem aK.lh29_inv {F:Nat} {db:Sl→Hp→OA} {fZ:Int→Hp→OA} {f_:Sl→Int→Int→Hp→OA} {ga:Sl→Hp→OA} {ks:List Nat} {n:Nat} {tm:Tm} {H:Hp} {r:AV×Hp} (h:aK.lh29 F db fZ f_ ga ks n tm H = some r):∃ ia:Nat,∃ cT:Nat,∃ dp:Sl,∃ kQ:Sl,∃ ib:Int,∃ gb:Int,ks = []∧tm 3 = (.ptr ia cT)∧tm 5 = (.sl dp)∧tm 13 = (.sl kQ)∧tm 14 = (.int .i64 ib)∧tm 15 = (.int .i64 gb)∧aK.l29 F db fZ f_ ga n ia cT dp kQ ib gb H = some r:=by
 unfold aK.lh29 at h
 split at h
 ·exact ⟨_,_,_,_,_,_,rfl,by assumption,by assumption,by assumption,by assumption,by assumption,h⟩
 ·cases h
def aK.lh (F:Nat) (db:Sl→Hp→OA) (fZ:Int→Hp→OA) (f_:Sl→Int→Int→Hp→OA) (ga:Sl→Hp→OA) (p:Nat) (ks:List Nat) (n:Nat) (tm:Tm) (H:Hp):OA:=bif p.beq 29 then aK.lh29 F db fZ f_ ga ks n tm H else (none)
def aK.pn:Nat→List Nat:=fun i=>(([(5,[9])]:List (Nat×List Nat)).lookup i).getD []
def aK.tb:Nat→List (List Nat):=fun i=>(([(5,[[],[],[1],[],[3],[],[3,4,5],[3,4,5,6],[3,4,5,6,7],[0,1,2,3,4,5,6,7,8]])]:List (Nat×List (List Nat))).lookup i).getD []
def aK.mk (g:Sl→Int→Sl→Sl→Hp→OA) (args:List AV) (H:Hp):OA:=match args with
 | [(.agg [(.sl aa),(.int .i64 ab)]),(.agg [(.sl au),(.sl aB)])]=>g aa ab au aB H
 | _=>none
def aK.cs (F:Nat) (db:Sl→Hp→OA) (fZ:Int→Hp→OA) (f_:Sl→Int→Int→Hp→OA) (ga:Sl→Hp→OA):List (FuncId×(List AV→Hp→OA)):=[(62,bx.mk db),(106,bf.mk fZ),(107,aQ.mk f_),(108,dv.mk ga)]
theorem aK.loops (F:Nat) (db:Sl→Hp→OA) (fZ:Int→Hp→OA) (f_:Sl→Int→Int→Hp→OA) (ga:Sl→Hp→OA):LoopsOk tabs (mkOrc (aK.cs F db fZ f_ ga)) aK.pn (aK.lh F db fZ f_ ga) F [] 1 aK.code (fun tm H=>aresults tabs.ty H tm Try.f70.results.toList fun v=>some (v,H)) (fun _ _ _=>none) (fun tm H=>aresults tabs.ty H tm Try.f70.results.toList fun v=>some (v,H)):=by
 refine LoopsOk.seq ?_ ?_
 ·exact loops_none (by kernel_rfl)
 ·refine LoopsOk.seq ?_ ?_
  ·exact loops_none (by kernel_rfl)
  ·refine LoopsOk.seq ?_ ?_
   ·refine LoopsOk.seq ?_ ?_
    ·exact loops_none (by kernel_rfl)
    ·refine LoopsOk.block ?_
     refine LoopsOk.loop (fun tm H=>?_) (fun k29 tm H r h0=>?_) (fun k29=>?_)
     ·refine none_of fun r h0=>?_
      obtain ⟨ia,cT,dp,kQ,ib,gb,hks,e3,e5,e13,e14,e15,h⟩:=aK.lh29_inv (show aK.lh29 F db fZ f_ ga [] 0 tm H = some r from h0)
      cases h
     ·obtain ⟨ia,cT,dp,kQ,ib,gb,hks,e3,e5,e13,e14,e15,h⟩:=aK.lh29_inv (show aK.lh29 F db fZ f_ ga [] (k29 + 1) tm H = some r from h0)
      have q0:(Tm.put tm 3 (.ptr ia cT)) = tm:=by exact Tm.put_same e3
      have q1:(Tm.put (Tm.put tm 3 (.ptr ia cT)) 5 (.sl dp)) = tm:=by rw [q0]; exact Tm.put_same e5
      have q2:(Tm.put (Tm.put (Tm.put tm 3 (.ptr ia cT)) 5 (.sl dp)) 13 (.sl kQ)) = tm:=by rw [q1]; exact Tm.put_same e13
      have q3:(Tm.put (Tm.put (Tm.put (Tm.put tm 3 (.ptr ia cT)) 5 (.sl dp)) 13 (.sl kQ)) 14 (.int .i64 ib)) = tm:=by rw [q2]; exact Tm.put_same e14
      have q4:(Tm.put (Tm.put (Tm.put (Tm.put (Tm.put tm 3 (.ptr ia cT)) 5 (.sl dp)) 13 (.sl kQ)) 14 (.int .i64 ib)) 15 (.int .i64 gb)) = tm:=by rw [q3]; exact Tm.put_same e15
      rw [← q4]
      exact Eq.trans (by kernel_rfl) h
     ·exact loops_none (by kernel_rfl)
   ·exact loops_none (by kernel_rfl)
theorem aK.eqX (F:Nat) (db:Sl→Hp→OA) (fZ:Int→Hp→OA) (f_:Sl→Int→Int→Hp→OA) (ga:Sl→Hp→OA) (aa:Sl) (ab:Int) (au:Sl) (aB:Sl) (H:Hp):aCode tabs (mkOrc (aK.cs F db fZ f_ ga)) aK.pn (aK.lh F db fZ f_ ga) F [] 1 aK.code (argTm [(.agg [(.sl aa),(.int .i64 ab)]),(.agg [(.sl au),(.sl aB)])]) H (fun tm H=>aresults tabs.ty H tm Try.f70.results.toList fun v=>some (v,H)) (fun _ _ _=>none) (fun tm H=>aresults tabs.ty H tm Try.f70.results.toList fun v=>some (v,H)) = aK.twX F db fZ f_ ga aa ab au aB H:=by kernel_rfl
theorem aK.cs_ok (F:Nat):∀ p ∈ aK.cs F (bx.tw F) (bf.tw F) (aQ.tw F) (dv.tw F),∀ args H v H',p.2 args H = some (v,H')→Go.AE.T Try.prog p.1 args H v H':=by
 intro p hp
 simp only [aK.cs,List.mem_cons,List.not_mem_nil,or_false] at hp
 rcases hp with rfl | rfl | rfl | rfl
 ·exact fun args H v H' h=>bx.mk_T h
 ·exact fun args H v H' h=>bf.mk_T h
 ·exact fun args H v H' h=>aQ.mk_T h
 ·exact fun args H v H' h=>dv.mk_T h
theorem aK.ok:codeOk aK.pn Try.f70.ntmps aK.tb aK.code = true:=by kernel_rfl
theorem aK.T {F:Nat} {aa:Sl} {ab:Int} {au:Sl} {aB:Sl} {H:Hp} {v:AV} {H':Hp} (h:aK.tw F aa ab au aB H = some (v,H')):Go.AE.T Try.prog 70 [(.agg [(.sl aa),(.int .i64 ab)]),(.agg [(.sl au),(.sl aB)])] H v H':=
 Go.AE.T.of (Y:=tabs) (C:=mkOrc (aK.cs F (bx.tw F) (bf.tw F) (aQ.tw F) (dv.tw F))) (PN:=aK.pn) (LH:=aK.lh F (bx.tw F) (bf.tw F) (aQ.tw F) (dv.tw F)) (F:=F) (TB:=aK.tb) (fn:=Try.f70) (code:=aK.code) mixed tabs_ok (mkOrc_ok (aK.cs_ok F)) Try.func70 (by kernel_rfl) (by kernel_rfl) aK.ok (Nat.le_of_ble_eq_true (by kernel_rfl)) (aK.loops F (bx.tw F) (bf.tw F) (aQ.tw F) (dv.tw F)) (Eq.trans (aK.eqX F (bx.tw F) (bf.tw F) (aQ.tw F) (dv.tw F) aa ab au aB H) h)
theorem aK.mk_T {F:Nat} {args:List AV} {H:Hp} {v:AV} {H':Hp} (h:aK.mk (aK.tw F) args H = some (v,H')):Go.AE.T Try.prog 70 args H v H':=by
 unfold aK.mk at h
 split at h
 ·exact aK.T h
 ·cases h
def aX.l61 (F:Nat) :Nat→Sl→Int→Int→Hp→OA
 | 0,_,_,_,_=>none
 | bP + 1,dq,dd,gZ,H13=>(bif (decide (gZ < (dq.n:Int))) then ((Sl.idx dq gZ 1).bind fun p16=>(Hp.ldI H13 .i64 p16.1 p16.2).bind fun n17=>aX.l61 F bP dq (if n17 > dd then n17 else dd) (IntKind.i64.wrap (gZ + 1)) H13) else (some ((.int .i64 dd),H13)))
termination_by structural n=>n
def aX.j1 (F:Nat) (NH:Sl) (H5:Hp):OA:=(Sl.idx NH 0 1).bind fun p6=>(Hp.ldI H5 .i64 p6.1 p6.2).bind fun n7=>aX.l61 F F NH n7 1 H5
def aX.twX (F:Nat) (aa:Sl) (H:Hp):OA:=(bif (decide ((aa.n:Int) < 1)) then (none) else (aX.j1 F aa H))
def aX.tw (F:Nat) (aa:Sl) (H:Hp):OA:=aX.twX F aa H
def aX.code:Go.Code:=(Try.f105.body).getD .skip
def aX.lh61 (F:Nat) (ks:List Nat) (n:Nat) (tm:Tm) (H:Hp):OA:=match ks,tm 0,tm 3,tm 4 with
 | [],(.sl dq),(.int .i64 dd),(.int .i64 gZ)=>aX.l61 F n dq dd gZ H
 | _,_,_,_=>none
theorem aX.lh61_inv {F:Nat} {ks:List Nat} {n:Nat} {tm:Tm} {H:Hp} {r:AV×Hp} (h:aX.lh61 F ks n tm H = some r):∃ dq:Sl,∃ dd:Int,∃ gZ:Int,ks = []∧tm 0 = (.sl dq)∧tm 3 = (.int .i64 dd)∧tm 4 = (.int .i64 gZ)∧aX.l61 F n dq dd gZ H = some r:=by
 unfold aX.lh61 at h
 split at h
 ·exact ⟨_,_,_,rfl,by assumption,by assumption,by assumption,h⟩
 ·cases h
def aX.lh (F:Nat) (p:Nat) (ks:List Nat) (n:Nat) (tm:Tm) (H:Hp):OA:=bif p.beq 61 then aX.lh61 F ks n tm H else (none)
def aX.pn:Nat→List Nat:=fun i=>(([]:List (Nat×List Nat)).lookup i).getD []
def aX.tb:Nat→List (List Nat):=fun i=>(([]:List (Nat×List (List Nat))).lookup i).getD []
def aX.mk (g:Sl→Hp→OA) (args:List AV) (H:Hp):OA:=match args with
 | [(.sl aa)]=>g aa H
 | _=>none
def aX.cs (F:Nat):List (FuncId×(List AV→Hp→OA)):=[]
theorem aX.loops (F:Nat):LoopsOk tabs (mkOrc (aX.cs F)) aX.pn (aX.lh F) F [] 1 aX.code (fun tm H=>aresults tabs.ty H tm Try.f105.results.toList fun v=>some (v,H)) (fun _ _ _=>none) (fun tm H=>aresults tabs.ty H tm Try.f105.results.toList fun v=>some (v,H)):=by
 refine LoopsOk.seq ?_ ?_
 ·exact loops_none (by kernel_rfl)
 ·refine LoopsOk.seq ?_ ?_
  ·exact loops_none (by kernel_rfl)
  ·refine LoopsOk.seq ?_ ?_
   ·exact loops_none (by kernel_rfl)
   ·refine LoopsOk.seq ?_ ?_
    ·refine LoopsOk.seq ?_ ?_
     ·exact loops_none (by kernel_rfl)
     ·refine LoopsOk.block ?_
      refine LoopsOk.loop (fun tm H=>?_) (fun k61 tm H r h0=>?_) (fun k61=>?_)
      ·refine none_of fun r h0=>?_
       obtain ⟨dq,dd,gZ,hks,e0,e3,e4,h⟩:=aX.lh61_inv (show aX.lh61 F [] 0 tm H = some r from h0)
       cases h
      ·obtain ⟨dq,dd,gZ,hks,e0,e3,e4,h⟩:=aX.lh61_inv (show aX.lh61 F [] (k61 + 1) tm H = some r from h0)
       have q0:(Tm.put tm 0 (.sl dq)) = tm:=by exact Tm.put_same e0
       have q1:(Tm.put (Tm.put tm 0 (.sl dq)) 3 (.int .i64 dd)) = tm:=by rw [q0]; exact Tm.put_same e3
       have q2:(Tm.put (Tm.put (Tm.put tm 0 (.sl dq)) 3 (.int .i64 dd)) 4 (.int .i64 gZ)) = tm:=by rw [q1]; exact Tm.put_same e4
       rw [← q2]
       exact Eq.trans (by kernel_rfl) h
      ·exact loops_none (by kernel_rfl)
    ·exact loops_none (by kernel_rfl)
theorem aX.eqX (F:Nat) (aa:Sl) (H:Hp):aCode tabs (mkOrc (aX.cs F)) aX.pn (aX.lh F) F [] 1 aX.code (argTm [(.sl aa)]) H (fun tm H=>aresults tabs.ty H tm Try.f105.results.toList fun v=>some (v,H)) (fun _ _ _=>none) (fun tm H=>aresults tabs.ty H tm Try.f105.results.toList fun v=>some (v,H)) = aX.twX F aa H:=by kernel_rfl
theorem aX.cs_ok (F:Nat):∀ p ∈ aX.cs F,∀ args H v H',p.2 args H = some (v,H')→Go.AE.T Try.prog p.1 args H v H':=by
 intro p hp
 exact absurd (show p ∈ [] from hp) List.not_mem_nil
theorem aX.ok:codeOk aX.pn Try.f105.ntmps aX.tb aX.code = true:=by kernel_rfl
end
end Go.Proofs.Ytppbogklbhfboaa.AE
