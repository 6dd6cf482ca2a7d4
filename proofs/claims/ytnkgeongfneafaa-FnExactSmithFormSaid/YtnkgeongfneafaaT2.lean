import Derived.Test.YtnkgeongfneafaaT1
import Derived.Test.YtnkgeongfneafaaTab1
set_option linter.unusedVariables false
set_option linter.unusedSimpArgs false
namespace Go.Proofs.Ytnkgeongfneafaa.AE
open Go Go.AE Go.Proofs
set_option linter.unusedVariables false
set_option maxHeartbeats 4000000
set_option maxRecDepth 100000
noncomputable def aI.l15 (F:Nat) (ai:Int→Int→Sl→Int→Int→Hp→OA) (fo:Int→Int→Hp→OA) (cY:Nat→Nat→Int→Int→Int→Hp→OA) (fp:Nat→Nat→Int→Int→Int→Hp→OA) :Nat→Nat→Nat→Int→Nat→Nat→Int→Hp→OA
 | 0,_,_,_,_,_,_,_=>none
 | ub + 1,gF,gG,fC,ik,j_,ib,H61=>(Hp.ldI H61 .i64 ik (j_ + 1)).bind fun n91=>(bif (decide (ib < n91)) then ((Hp.ldB H61 gF (gG + 15)).bind fun b92=>(bif (!b92) then ((Hp.ldI H61 .i64 ik j_).bind fun n93=>(Hp.ldI H61 .i64 ik (j_ + 1)).bind fun n94=>(Hp.ldSl H61 ik (j_ + 2)).bind fun s95=>(ai n93 n94 s95 fC ib H61).bind fun r96=>((r96.1).asP).bind fun p97=>(if Cons H61 r96.2 then ((Hp.ldI r96.2 .i64 p97.1 p97.2).bind fun n98=>(Hp.ldI r96.2 .i64 ik j_).bind fun n99=>(Hp.ldI r96.2 .i64 ik (j_ + 1)).bind fun n100=>(Hp.ldSl r96.2 ik (j_ + 2)).bind fun s101=>(ai n99 n100 s101 fC fC r96.2).bind fun r102=>((r102.1).asP).bind fun p103=>(if Cons r96.2 r102.2 then ((Hp.ldI r102.2 .i64 p103.1 p103.2).bind fun n104=>(fo n98 n104 r102.2).bind fun r105=>((r105.1).asI .i64).bind fun n106=>(bif (n106 != 0) then ((fp gF gG ib fC (IntKind.i64.wrap (0 - n106)) r105.2).bind fun r107=>aI.j3 F ai fo cY fp (aI.l15 F ai fo cY fp ub) gF gG fC ik j_ ib r107.2) else (aI.j3 F ai fo cY fp (aI.l15 F ai fo cY fp ub) gF gG fC ik j_ ib r105.2))) else none)) else none)) else (some ((.tup []),H61)))) else (some ((.tup []),H61)))
termination_by structural n=>n
noncomputable def aI.j4 (F:Nat) (ai:Int→Int→Sl→Int→Int→Hp→OA) (fo:Int→Int→Hp→OA) (cY:Nat→Nat→Int→Int→Int→Hp→OA) (fp:Nat→Nat→Int→Int→Int→Hp→OA) (wI:Nat) (wJ:Nat) (ns:Int) (rd:Nat) (wK:Nat) (H52:Hp):OA:=aI.l15 F ai fo cY fp F wI wJ ns rd wK (IntKind.i64.wrap (ns + 1)) H52
noncomputable def aI.j5 (F:Nat) (ai:Int→Int→Sl→Int→Int→Hp→OA) (fo:Int→Int→Hp→OA) (cY:Nat→Nat→Int→Int→Int→Hp→OA) (fp:Nat→Nat→Int→Int→Int→Hp→OA) (C13_:Nat→Nat→Int→Nat→Nat→Int→Hp→OA) (wL:Nat) (wM:Nat) (pi:Int) (rg:Nat) (nr:Nat) (pj:Int) (H146:Hp):OA:=C13_ wL wM pi rg nr (IntKind.i64.wrap (pj + 1)) H146
noncomputable def aI.l13 (F:Nat) (ai:Int→Int→Sl→Int→Int→Hp→OA) (fo:Int→Int→Hp→OA) (cY:Nat→Nat→Int→Int→Int→Hp→OA) (fp:Nat→Nat→Int→Int→Int→Hp→OA) :Nat→Nat→Nat→Int→Nat→Nat→Int→Hp→OA
 | 0,_,_,_,_,_,_,_=>none
 | hU + 1,cO,eI,cW,eO,jr,fT,H17=>(Hp.ldI H17 .i64 eO jr).bind fun n120=>(bif (decide (fT < n120)) then ((Hp.ldB H17 cO (eI + 15)).bind fun b121=>(bif (!b121) then ((Hp.ldI H17 .i64 eO jr).bind fun n122=>(Hp.ldI H17 .i64 eO (jr + 1)).bind fun n123=>(Hp.ldSl H17 eO (jr + 2)).bind fun s124=>(ai n122 n123 s124 fT cW H17).bind fun r125=>((r125.1).asP).bind fun p126=>(if Cons H17 r125.2 then ((Hp.ldI r125.2 .i64 p126.1 p126.2).bind fun n127=>(Hp.ldI r125.2 .i64 eO jr).bind fun n128=>(Hp.ldI r125.2 .i64 eO (jr + 1)).bind fun n129=>(Hp.ldSl r125.2 eO (jr + 2)).bind fun s130=>(ai n128 n129 s130 cW cW r125.2).bind fun r131=>((r131.1).asP).bind fun p132=>(if Cons r125.2 r131.2 then ((Hp.ldI r131.2 .i64 p132.1 p132.2).bind fun n133=>(fo n127 n133 r131.2).bind fun r134=>((r134.1).asI .i64).bind fun n135=>(bif (n135 != 0) then ((cY cO eI fT cW (IntKind.i64.wrap (0 - n135)) r134.2).bind fun r136=>aI.j5 F ai fo cY fp (aI.l13 F ai fo cY fp hU) cO eI cW eO jr fT r136.2) else (aI.j5 F ai fo cY fp (aI.l13 F ai fo cY fp hU) cO eI cW eO jr fT r134.2))) else none)) else none)) else (aI.j4 F ai fo cY fp cO eI cW eO jr H17))) else (aI.j4 F ai fo cY fp cO eI cW eO jr H17))
termination_by structural n=>n
noncomputable def aI.twX (F:Nat) (ai:Int→Int→Sl→Int→Int→Hp→OA) (fo:Int→Int→Hp→OA) (cY:Nat→Nat→Int→Int→Int→Hp→OA) (fp:Nat→Nat→Int→Int→Int→Hp→OA) (aa:Nat) (ac:Nat) (ae:Int) (H:Hp):OA:=(Hp.ldI H .i64 aa (ac + 6)).bind fun n4=>(Hp.ldI H .i64 aa ((ac + 6) + 1)).bind fun n5=>(Hp.ldSl H aa ((ac + 6) + 2)).bind fun s6=>(Hp.new H [.int .i64 0,.int .i64 0,.sl ⟨none,0,.ex 0⟩]).bind fun H7=>(Hp.st H7 H.length 0 (.int .i64 n4)).bind fun H8=>(Hp.st H8 H.length (0 + 1) (.int .i64 n5)).bind fun H9=>(Hp.st H9 H.length (0 + 1 + 1) (.sl s6)).bind fun H10=>aI.l13 F ai fo cY fp F aa ac ae H.length 0 (IntKind.i64.wrap (ae + 1)) H10
noncomputable def aI.tw (F:Nat) (aa:Nat) (ac:Nat) (ae:Int) (H:Hp):OA:=aI.twX F (aP.tw F) (dv.tw F) (cR.tw F) (dA.tw F) aa ac ae H
noncomputable def aI.code:Go.Code:=(Try.f134.body).getD .skip
noncomputable def aI.lh13 (F:Nat) (ai:Int→Int→Sl→Int→Int→Hp→OA) (fo:Int→Int→Hp→OA) (cY:Nat→Nat→Int→Int→Int→Hp→OA) (fp:Nat→Nat→Int→Int→Int→Hp→OA) (ks:List Nat) (n:Nat) (tm:Tm) (H:Hp):OA:=match ks,tm 0,tm 1,tm 4,tm 5 with
 | [],(.ptr cO eI),(.int .i64 cW),(.ptr eO jr),(.int .i64 fT)=>aI.l13 F ai fo cY fp n cO eI cW eO jr fT H
 | _,_,_,_,_=>none
theorem aI.lh13_inv {F:Nat} {ai:Int→Int→Sl→Int→Int→Hp→OA} {fo:Int→Int→Hp→OA} {cY:Nat→Nat→Int→Int→Int→Hp→OA} {fp:Nat→Nat→Int→Int→Int→Hp→OA} {ks:List Nat} {n:Nat} {tm:Tm} {H:Hp} {r:AV×Hp} (h:aI.lh13 F ai fo cY fp ks n tm H = some r):∃ cO:Nat,∃ eI:Nat,∃ cW:Int,∃ eO:Nat,∃ jr:Nat,∃ fT:Int,ks = []∧tm 0 = (.ptr cO eI)∧tm 1 = (.int .i64 cW)∧tm 4 = (.ptr eO jr)∧tm 5 = (.int .i64 fT)∧aI.l13 F ai fo cY fp n cO eI cW eO jr fT H = some r:=by
 unfold aI.lh13 at h
 split at h
 ·exact ⟨_,_,_,_,_,_,rfl,by assumption,by assumption,by assumption,by assumption,h⟩
 ·cases h
noncomputable def aI.lh15 (F:Nat) (ai:Int→Int→Sl→Int→Int→Hp→OA) (fo:Int→Int→Hp→OA) (cY:Nat→Nat→Int→Int→Int→Hp→OA) (fp:Nat→Nat→Int→Int→Int→Hp→OA) (ks:List Nat) (n:Nat) (tm:Tm) (H:Hp):OA:=match ks,tm 0,tm 1,tm 4,tm 7 with
 | [],(.ptr gF gG),(.int .i64 fC),(.ptr ik j_),(.int .i64 ib)=>aI.l15 F ai fo cY fp n gF gG fC ik j_ ib H
 | _,_,_,_,_=>none
theorem aI.lh15_inv {F:Nat} {ai:Int→Int→Sl→Int→Int→Hp→OA} {fo:Int→Int→Hp→OA} {cY:Nat→Nat→Int→Int→Int→Hp→OA} {fp:Nat→Nat→Int→Int→Int→Hp→OA} {ks:List Nat} {n:Nat} {tm:Tm} {H:Hp} {r:AV×Hp} (h:aI.lh15 F ai fo cY fp ks n tm H = some r):∃ gF:Nat,∃ gG:Nat,∃ fC:Int,∃ ik:Nat,∃ j_:Nat,∃ ib:Int,ks = []∧tm 0 = (.ptr gF gG)∧tm 1 = (.int .i64 fC)∧tm 4 = (.ptr ik j_)∧tm 7 = (.int .i64 ib)∧aI.l15 F ai fo cY fp n gF gG fC ik j_ ib H = some r:=by
 unfold aI.lh15 at h
 split at h
 ·exact ⟨_,_,_,_,_,_,rfl,by assumption,by assumption,by assumption,by assumption,h⟩
 ·cases h
noncomputable def aI.lh (F:Nat) (ai:Int→Int→Sl→Int→Int→Hp→OA) (fo:Int→Int→Hp→OA) (cY:Nat→Nat→Int→Int→Int→Hp→OA) (fp:Nat→Nat→Int→Int→Int→Hp→OA) (p:Nat) (ks:List Nat) (n:Nat) (tm:Tm) (H:Hp):OA:=bif p.beq 15 then aI.lh15 F ai fo cY fp ks n tm H else (bif p.beq 13 then aI.lh13 F ai fo cY fp ks n tm H else (none))
def aI.pn:Nat→List Nat:=fun i=>(([(4,[12]),(10,[12])]:List (Nat×List Nat)).lookup i).getD []
def aI.tb:Nat→List (List Nat):=fun i=>(([(4,[[],[],[],[0,1,2],[0,1,2,3],[0,1,2,3,4],[],[],[],[0,1,2,3,6,7,8],[0,1,2,3,6,7,8,9],[0,1,2,3,6,7,8,9,10],[0,1,2,3,4,5,6,7,8,9,10,11],[0,1,2,3,4,5,6,7,8,9,10,11,12]]),(10,[[],[],[],[0,1,2],[0,1,2,3],[0,1,2,3,4],[],[],[],[0,1,2,3,6,7,8],[0,1,2,3,6,7,8,9],[0,1,2,3,6,7,8,9,10],[0,1,2,3,4,5,6,7,8,9,10,11],[0,1,2,3,4,5,6,7,8,9,10,11,12]])]:List (Nat×List (List Nat))).lookup i).getD []
noncomputable def aI.mk (g:Nat→Nat→Int→Hp→OA) (args:List AV) (H:Hp):OA:=match args with
 | [(.ptr aa ac),(.int .i64 ae)]=>g aa ac ae H
 | _=>none
noncomputable def aI.cs (F:Nat) (ai:Int→Int→Sl→Int→Int→Hp→OA) (fo:Int→Int→Hp→OA) (cY:Nat→Nat→Int→Int→Int→Hp→OA) (fp:Nat→Nat→Int→Int→Int→Hp→OA):List (FuncId×(List AV→Hp→OA)):=[(95,aP.mk ai),(153,dv.mk fo),(137,cR.mk cY),(154,dA.mk fp)]
theorem aI.loops (F:Nat) (ai:Int→Int→Sl→Int→Int→Hp→OA) (fo:Int→Int→Hp→OA) (cY:Nat→Nat→Int→Int→Int→Hp→OA) (fp:Nat→Nat→Int→Int→Int→Hp→OA):LoopsOk tabs (mkOrc (aI.cs F ai fo cY fp)) aI.pn (aI.lh F ai fo cY fp) F [] 1 aI.code (fun tm H=>aresults tabs.ty H tm Try.f134.results.toList fun v=>some (v,H)) (fun _ _ _=>none) (fun tm H=>aresults tabs.ty H tm Try.f134.results.toList fun v=>some (v,H)):=by
 refine LoopsOk.seq ?_ ?_
 ·exact loops_none (by kernel_rfl)
 ·refine LoopsOk.seq ?_ ?_
  ·refine LoopsOk.seq ?_ ?_
   ·exact loops_none (by kernel_rfl)
   ·refine LoopsOk.block ?_
    refine LoopsOk.loop (fun tm H=>?_) (fun k13 tm H r h0=>?_) (fun k13=>?_)
    ·refine none_of fun r h0=>?_
     obtain ⟨cO,eI,cW,eO,jr,fT,hks,e0,e1,e4,e5,h⟩:=aI.lh13_inv (show aI.lh13 F ai fo cY fp [] 0 tm H = some r from h0)
     cases h
    ·obtain ⟨cO,eI,cW,eO,jr,fT,hks,e0,e1,e4,e5,h⟩:=aI.lh13_inv (show aI.lh13 F ai fo cY fp [] (k13 + 1) tm H = some r from h0)
     have q0:(Tm.put tm 0 (.ptr cO eI)) = tm:=by exact Tm.put_same e0
     have q1:(Tm.put (Tm.put tm 0 (.ptr cO eI)) 1 (.int .i64 cW)) = tm:=by rw [q0]; exact Tm.put_same e1
     have q2:(Tm.put (Tm.put (Tm.put tm 0 (.ptr cO eI)) 1 (.int .i64 cW)) 4 (.ptr eO jr)) = tm:=by rw [q1]; exact Tm.put_same e4
     have q3:(Tm.put (Tm.put (Tm.put (Tm.put tm 0 (.ptr cO eI)) 1 (.int .i64 cW)) 4 (.ptr eO jr)) 5 (.int .i64 fT)) = tm:=by rw [q2]; exact Tm.put_same e5
     rw [← q3]
     exact Eq.trans (by kernel_rfl) h
    ·exact loops_none (by kernel_rfl)
  ·refine LoopsOk.seq ?_ ?_
   ·exact loops_none (by kernel_rfl)
   ·refine LoopsOk.block ?_
    refine LoopsOk.loop (fun tm H=>?_) (fun k15 tm H r h0=>?_) (fun k15=>?_)
    ·refine none_of fun r h0=>?_
     obtain ⟨gF,gG,fC,ik,j_,ib,hks,e0,e1,e4,e7,h⟩:=aI.lh15_inv (show aI.lh15 F ai fo cY fp [] 0 tm H = some r from h0)
     cases h
    ·obtain ⟨gF,gG,fC,ik,j_,ib,hks,e0,e1,e4,e7,h⟩:=aI.lh15_inv (show aI.lh15 F ai fo cY fp [] (k15 + 1) tm H = some r from h0)
     have q0:(Tm.put tm 0 (.ptr gF gG)) = tm:=by exact Tm.put_same e0
     have q1:(Tm.put (Tm.put tm 0 (.ptr gF gG)) 1 (.int .i64 fC)) = tm:=by rw [q0]; exact Tm.put_same e1
     have q2:(Tm.put (Tm.put (Tm.put tm 0 (.ptr gF gG)) 1 (.int .i64 fC)) 4 (.ptr ik j_)) = tm:=by rw [q1]; exact Tm.put_same e4
     have q3:(Tm.put (Tm.put (Tm.put (Tm.put tm 0 (.ptr gF gG)) 1 (.int .i64 fC)) 4 (.ptr ik j_)) 7 (.int .i64 ib)) = tm:=by rw [q2]; exact Tm.put_same e7
     rw [← q3]
     exact Eq.trans (by kernel_rfl) h
    ·exact loops_none (by kernel_rfl)
theorem aI.eqX (F:Nat) (ai:Int→Int→Sl→Int→Int→Hp→OA) (fo:Int→Int→Hp→OA) (cY:Nat→Nat→Int→Int→Int→Hp→OA) (fp:Nat→Nat→Int→Int→Int→Hp→OA) (aa:Nat) (ac:Nat) (ae:Int) (H:Hp):aCode tabs (mkOrc (aI.cs F ai fo cY fp)) aI.pn (aI.lh F ai fo cY fp) F [] 1 aI.code (argTm [(.ptr aa ac),(.int .i64 ae)]) H (fun tm H=>aresults tabs.ty H tm Try.f134.results.toList fun v=>some (v,H)) (fun _ _ _=>none) (fun tm H=>aresults tabs.ty H tm Try.f134.results.toList fun v=>some (v,H)) = aI.twX F ai fo cY fp aa ac ae H:=by kernel_rfl
theorem aI.cs_ok (F:Nat):∀ p ∈ aI.cs F (aP.tw F) (dv.tw F) (cR.tw F) (dA.tw F),∀ args H v H',p.2 args H = some (v,H')→Go.AE.T Try.prog p.1 args H v H':=by
 intro p hp
 simp only [aI.cs,List.mem_cons,List.not_mem_nil,or_false] at hp
 rcases hp with rfl | rfl | rfl | rfl
 ·exact fun args H v H' h=>aP.mk_T h
 ·exact fun args H v H' h=>dv.mk_T h
 ·exact fun args H v H' h=>cR.mk_T h
 ·exact fun args H v H' h=>dA.mk_T h
theorem aI.ok:codeOk aI.pn Try.f134.ntmps aI.tb aI.code = true:=by kernel_rfl
theorem aI.T {F:Nat} {aa:Nat} {ac:Nat} {ae:Int} {H:Hp} {v:AV} {H':Hp} (h:aI.tw F aa ac ae H = some (v,H')):Go.AE.T Try.prog 134 [(.ptr aa ac),(.int .i64 ae)] H v H':=
 Go.AE.T.of (Y:=tabs) (C:=mkOrc (aI.cs F (aP.tw F) (dv.tw F) (cR.tw F) (dA.tw F))) (PN:=aI.pn) (LH:=aI.lh F (aP.tw F) (dv.tw F) (cR.tw F) (dA.tw F)) (F:=F) (TB:=aI.tb) (fn:=Try.f134) (code:=aI.code) mixed tabs_ok (mkOrc_ok (aI.cs_ok F)) Try.func134 (by kernel_rfl) (by kernel_rfl) aI.ok (Nat.le_of_ble_eq_true (by kernel_rfl)) (aI.loops F (aP.tw F) (dv.tw F) (cR.tw F) (dA.tw F)) (Eq.trans (aI.eqX F (aP.tw F) (dv.tw F) (cR.tw F) (dA.tw F) aa ac ae H) h)
theorem aI.mk_T {F:Nat} {args:List AV} {H:Hp} {v:AV} {H':Hp} (h:aI.mk (aI.tw F) args H = some (v,H')):Go.AE.T Try.prog 134 args H v H':=by
 unfold aI.mk at h
 split at h
 ·exact aI.T h
 ·cases h
noncomputable def dX.twX (F:Nat) (aa:Int) (H:Hp):OA:=some ((.bool (aa != 0)),H)
noncomputable def dX.tw (F:Nat) (aa:Int) (H:Hp):OA:=dX.twX F aa H
noncomputable def dX.code:Go.Code:=(Try.f155.body).getD .skip
noncomputable def dX.lh (F:Nat) (p:Nat) (ks:List Nat) (n:Nat) (tm:Tm) (H:Hp):OA:=none
def dX.pn:Nat→List Nat:=fun i=>(([]:List (Nat×List Nat)).lookup i).getD []
def dX.tb:Nat→List (List Nat):=fun i=>(([]:List (Nat×List (List Nat))).lookup i).getD []
noncomputable def dX.mk (g:Int→Hp→OA) (args:List AV) (H:Hp):OA:=match args with
 | [(.int .i64 aa)]=>g aa H
 | _=>none
noncomputable def dX.cs (F:Nat):List (FuncId×(List AV→Hp→OA)):=[]
theorem dX.loops (F:Nat):LoopsOk tabs (mkOrc (dX.cs F)) dX.pn (dX.lh F) F [] 1 dX.code (fun tm H=>aresults tabs.ty H tm Try.f155.results.toList fun v=>some (v,H)) (fun _ _ _=>none) (fun tm H=>aresults tabs.ty H tm Try.f155.results.toList fun v=>some (v,H)):=by
 exact loops_none (by kernel_rfl)
theorem dX.eqX (F:Nat) (aa:Int) (H:Hp):aCode tabs (mkOrc (dX.cs F)) dX.pn (dX.lh F) F [] 1 dX.code (argTm [(.int .i64 aa)]) H (fun tm H=>aresults tabs.ty H tm Try.f155.results.toList fun v=>some (v,H)) (fun _ _ _=>none) (fun tm H=>aresults tabs.ty H tm Try.f155.results.toList fun v=>some (v,H)) = dX.twX F aa H:=by kernel_rfl
theorem dX.cs_ok (F:Nat):∀ p ∈ dX.cs F,∀ args H v H',p.2 args H = some (v,H')→Go.AE.T Try.prog p.1 args H v H':=by
 intro p hp
 exact absurd (show p ∈ [] from hp) List.not_mem_nil
theorem dX.ok:codeOk dX.pn Try.f155.ntmps dX.tb dX.code = true:=by kernel_rfl
theorem dX.T {F:Nat} {aa:Int} {H:Hp} {v:AV} {H':Hp} (h:dX.tw F aa H = some (v,H')):Go.AE.T Try.prog 155 [(.int .i64 aa)] H v H':=
 Go.AE.T.of (Y:=tabs) (C:=mkOrc (dX.cs F)) (PN:=dX.pn) (LH:=dX.lh F) (F:=F) (TB:=dX.tb) (fn:=Try.f155) (code:=dX.code) mixed tabs_ok (mkOrc_ok (dX.cs_ok F)) Try.func155 (by kernel_rfl) (by kernel_rfl) dX.ok (Nat.le_of_ble_eq_true (by kernel_rfl)) (dX.loops F) (Eq.trans (dX.eqX F aa H) h)
theorem dX.mk_T {F:Nat} {args:List AV} {H:Hp} {v:AV} {H':Hp} (h:dX.mk (dX.tw F) args H = some (v,H')):Go.AE.T Try.prog 155 args H v H':=by
 unfold dX.mk at h
 split at h
 ·exact dX.T h
 ·cases h
noncomputable def ct.l13 (F:Nat) (iW:Int→Hp→OA) :Nat→Sl→Int→Int→Hp→OA
 | 0,_,_,_,_=>none
 | hU + 1,gN,fY,fj,H6=>(bif (decide (fj < fY)) then ((Sl.idx gN fj 1).bind fun p11=>(Hp.ldI H6 .i64 p11.1 p11.2).bind fun n12=>(iW n12 H6).bind fun r13=>((r13.1).asB).bind fun b14=>(bif b14 then (some ((.int .i64 fj),r13.2)) else (ct.l13 F iW hU gN fY (IntKind.i64.wrap (fj + 1)) r13.2))) else (some ((.int .i64 (-1)),H6)))
termination_by structural n=>n
noncomputable def ct.twX (F:Nat) (iW:Int→Hp→OA) (aa:Sl) (H:Hp):OA:=ct.l13 F iW F aa (aa.n:Int) 0 H
noncomputable def ct.tw (F:Nat) (aa:Sl) (H:Hp):OA:=ct.twX F (dX.tw F) aa H
noncomputable def ct.code:Go.Code:=(Try.f117.body).getD .skip
noncomputable def ct.lh13 (F:Nat) (iW:Int→Hp→OA) (ks:List Nat) (n:Nat) (tm:Tm) (H:Hp):OA:=match ks,tm 0,tm 1,tm 7,tm 8 with
 | [],(.sl gN),(.fn 155 []),(.int .i64 fY),(.int .i64 fj)=>ct.l13 F iW n gN fY fj H
 | _,_,_,_,_=>none
theorem ct.lh13_inv {F:Nat} {iW:Int→Hp→OA} {ks:List Nat} {n:Nat} {tm:Tm} {H:Hp} {r:AV×Hp} (h:ct.lh13 F iW ks n tm H = some r):∃ gN:Sl,∃ fY:Int,∃ fj:Int,ks = []∧tm 0 = (.sl gN)∧tm 1 = (.fn 155 [])∧tm 7 = (.int .i64 fY)∧tm 8 = (.int .i64 fj)∧ct.l13 F iW n gN fY fj H = some r:=by
 unfold ct.lh13 at h
 split at h
 ·exact ⟨_,_,_,rfl,by assumption,by assumption,by assumption,by assumption,h⟩
 ·cases h
noncomputable def ct.lh (F:Nat) (iW:Int→Hp→OA) (p:Nat) (ks:List Nat) (n:Nat) (tm:Tm) (H:Hp):OA:=bif p.beq 13 then ct.lh13 F iW ks n tm H else (none)
def ct.pn:Nat→List Nat:=fun i=>(([]:List (Nat×List Nat)).lookup i).getD []
def ct.tb:Nat→List (List Nat):=fun i=>(([]:List (Nat×List (List Nat))).lookup i).getD []
noncomputable def ct.mk (g:Sl→Hp→OA) (args:List AV) (H:Hp):OA:=match args with
 | [(.sl aa),(.fn 155 [])]=>g aa H
 | _=>none
noncomputable def ct.cs (F:Nat) (iW:Int→Hp→OA):List (FuncId×(List AV→Hp→OA)):=[(155,dX.mk iW)]
theorem ct.loops (F:Nat) (iW:Int→Hp→OA):LoopsOk tabs (mkOrc (ct.cs F iW)) ct.pn (ct.lh F iW) F [] 1 ct.code (fun tm H=>aresults tabs.ty H tm Try.f117.results.toList fun v=>some (v,H)) (fun _ _ _=>none) (fun tm H=>aresults tabs.ty H tm Try.f117.results.toList fun v=>some (v,H)):=by
 refine LoopsOk.seq ?_ ?_
 ·exact loops_none (by kernel_rfl)
 ·refine LoopsOk.seq ?_ ?_
  ·refine LoopsOk.seq ?_ ?_
   ·exact loops_none (by kernel_rfl)
   ·refine LoopsOk.block ?_
    refine LoopsOk.loop (fun tm H=>?_) (fun k13 tm H r h0=>?_) (fun k13=>?_)
    ·refine none_of fun r h0=>?_
     obtain ⟨gN,fY,fj,hks,e0,e1,e7,e8,h⟩:=ct.lh13_inv (show ct.lh13 F iW [] 0 tm H = some r from h0)
     cases h
    ·obtain ⟨gN,fY,fj,hks,e0,e1,e7,e8,h⟩:=ct.lh13_inv (show ct.lh13 F iW [] (k13 + 1) tm H = some r from h0)
     have q0:(Tm.put tm 0 (.sl gN)) = tm:=by exact Tm.put_same e0
     have q1:(Tm.put (Tm.put tm 0 (.sl gN)) 1 (.fn 155 [])) = tm:=by rw [q0]; exact Tm.put_same e1
     have q2:(Tm.put (Tm.put (Tm.put tm 0 (.sl gN)) 1 (.fn 155 [])) 7 (.int .i64 fY)) = tm:=by rw [q1]; exact Tm.put_same e7
     have q3:(Tm.put (Tm.put (Tm.put (Tm.put tm 0 (.sl gN)) 1 (.fn 155 [])) 7 (.int .i64 fY)) 8 (.int .i64 fj)) = tm:=by rw [q2]; exact Tm.put_same e8
     rw [← q3]
     exact Eq.trans (by kernel_rfl) h
    ·exact loops_none (by kernel_rfl)
  ·exact loops_none (by kernel_rfl)
theorem ct.eqX (F:Nat) (iW:Int→Hp→OA) (aa:Sl) (H:Hp):aCode tabs (mkOrc (ct.cs F iW)) ct.pn (ct.lh F iW) F [] 1 ct.code (argTm [(.sl aa),(.fn 155 [])]) H (fun tm H=>aresults tabs.ty H tm Try.f117.results.toList fun v=>some (v,H)) (fun _ _ _=>none) (fun tm H=>aresults tabs.ty H tm Try.f117.results.toList fun v=>some (v,H)) = ct.twX F iW aa H:=by kernel_rfl
theorem ct.cs_ok (F:Nat):∀ p ∈ ct.cs F (dX.tw F),∀ args H v H',p.2 args H = some (v,H')→Go.AE.T Try.prog p.1 args H v H':=by
 intro p hp
 simp only [ct.cs,List.mem_cons,List.not_mem_nil,or_false] at hp
 subst hp
 exact fun args H v H' h=>dX.mk_T h
theorem ct.ok:codeOk ct.pn Try.f117.ntmps ct.tb ct.code = true:=by kernel_rfl
theorem ct.T {F:Nat} {aa:Sl} {H:Hp} {v:AV} {H':Hp} (h:ct.tw F aa H = some (v,H')):Go.AE.T Try.prog 117 [(.sl aa),(.fn 155 [])] H v H':=
 Go.AE.T.of (Y:=tabs) (C:=mkOrc (ct.cs F (dX.tw F))) (PN:=ct.pn) (LH:=ct.lh F (dX.tw F)) (F:=F) (TB:=ct.tb) (fn:=Try.f117) (code:=ct.code) mixed tabs_ok (mkOrc_ok (ct.cs_ok F)) Try.func117 (by kernel_rfl) (by kernel_rfl) ct.ok (Nat.le_of_ble_eq_true (by kernel_rfl)) (ct.loops F (dX.tw F)) (Eq.trans (ct.eqX F (dX.tw F) aa H) h)
theorem ct.mk_T {F:Nat} {args:List AV} {H:Hp} {v:AV} {H':Hp} (h:ct.mk (ct.tw F) args H = some (v,H')):Go.AE.T Try.prog 117 args H v H':=by
 unfold ct.mk at h
 split at h
 ·exact ct.T h
 ·cases h
noncomputable def dH.twX (F:Nat) (lY:Sl→Hp→OA) (aa:Sl) (H:Hp):OA:=(lY aa H).bind fun r2=>((r2.1).asI .i64).bind fun n3=>some ((.bool (decide (n3 ≥ 0))),r2.2)
noncomputable def dH.tw (F:Nat) (aa:Sl) (H:Hp):OA:=dH.twX F (ct.tw F) aa H
noncomputable def dH.code:Go.Code:=(Try.f81.body).getD .skip
noncomputable def dH.lh (F:Nat) (lY:Sl→Hp→OA) (p:Nat) (ks:List Nat) (n:Nat) (tm:Tm) (H:Hp):OA:=none
def dH.pn:Nat→List Nat:=fun i=>(([]:List (Nat×List Nat)).lookup i).getD []
def dH.tb:Nat→List (List Nat):=fun i=>(([]:List (Nat×List (List Nat))).lookup i).getD []
noncomputable def dH.mk (g:Sl→Hp→OA) (args:List AV) (H:Hp):OA:=match args with
 | [(.sl aa),(.fn 155 [])]=>g aa H
 | _=>none
noncomputable def dH.cs (F:Nat) (lY:Sl→Hp→OA):List (FuncId×(List AV→Hp→OA)):=[(117,ct.mk lY)]
theorem dH.loops (F:Nat) (lY:Sl→Hp→OA):LoopsOk tabs (mkOrc (dH.cs F lY)) dH.pn (dH.lh F lY) F [] 1 dH.code (fun tm H=>aresults tabs.ty H tm Try.f81.results.toList fun v=>some (v,H)) (fun _ _ _=>none) (fun tm H=>aresults tabs.ty H tm Try.f81.results.toList fun v=>some (v,H)):=by
 exact loops_none (by kernel_rfl)
theorem dH.eqX (F:Nat) (lY:Sl→Hp→OA) (aa:Sl) (H:Hp):aCode tabs (mkOrc (dH.cs F lY)) dH.pn (dH.lh F lY) F [] 1 dH.code (argTm [(.sl aa),(.fn 155 [])]) H (fun tm H=>aresults tabs.ty H tm Try.f81.results.toList fun v=>some (v,H)) (fun _ _ _=>none) (fun tm H=>aresults tabs.ty H tm Try.f81.results.toList fun v=>some (v,H)) = dH.twX F lY aa H:=by kernel_rfl
theorem dH.cs_ok (F:Nat):∀ p ∈ dH.cs F (ct.tw F),∀ args H v H',p.2 args H = some (v,H')→Go.AE.T Try.prog p.1 args H v H':=by
 intro p hp
 simp only [dH.cs,List.mem_cons,List.not_mem_nil,or_false] at hp
 subst hp
 exact fun args H v H' h=>ct.mk_T h
theorem dH.ok:codeOk dH.pn Try.f81.ntmps dH.tb dH.code = true:=by kernel_rfl
theorem dH.T {F:Nat} {aa:Sl} {H:Hp} {v:AV} {H':Hp} (h:dH.tw F aa H = some (v,H')):Go.AE.T Try.prog 81 [(.sl aa),(.fn 155 [])] H v H':=
 Go.AE.T.of (Y:=tabs) (C:=mkOrc (dH.cs F (ct.tw F))) (PN:=dH.pn) (LH:=dH.lh F (ct.tw F)) (F:=F) (TB:=dH.tb) (fn:=Try.f81) (code:=dH.code) mixed tabs_ok (mkOrc_ok (dH.cs_ok F)) Try.func81 (by kernel_rfl) (by kernel_rfl) dH.ok (Nat.le_of_ble_eq_true (by kernel_rfl)) (dH.loops F (ct.tw F)) (Eq.trans (dH.eqX F (ct.tw F) aa H) h)
theorem dH.mk_T {F:Nat} {args:List AV} {H:Hp} {v:AV} {H':Hp} (h:dH.mk (dH.tw F) args H = some (v,H')):Go.AE.T Try.prog 81 args H v H':=by
 unfold dH.mk at h
 split at h
 ·exact dH.T h
 ·cases h
noncomputable def bA.j1 (F:Nat) (ai:Int→Int→Sl→Int→Int→Hp→OA) (bL:Int→Int→Sl→Int→Hp→OA) (ic:Sl→Hp→OA) (nt:Int) (pl:Nat) (sR:Nat) (H34:Hp):OA:=(Hp.ldI H34 .i64 pl sR).bind fun n35=>(Hp.ldI H34 .i64 pl (sR + 1)).bind fun n36=>(Hp.ldSl H34 pl (sR + 2)).bind fun s37=>(bL n35 n36 s37 nt H34).bind fun r38=>((r38.1).asSl).bind fun s39=>(Sl.cut s39 1 (IntKind.i64.wrap (nt + 1)) (s39.n:Int)).bind fun s40=>(ic s40 r38.2).bind fun r41=>((r41.1).asB).bind fun b42=>some ((.bool (!b42)),r41.2)
noncomputable def bA.l29 (F:Nat) (ai:Int→Int→Sl→Int→Int→Hp→OA) (bL:Int→Int→Sl→Int→Hp→OA) (ic:Sl→Hp→OA) :Nat→Int→Nat→Nat→Int→Hp→OA
 | 0,_,_,_,_,_=>none
 | eP + 1,cW,fB,fT,js,H18=>(Hp.ldI H18 .i64 fB fT).bind fun n43=>(bif (decide (js < n43)) then ((Hp.ldI H18 .i64 fB fT).bind fun n44=>(Hp.ldI H18 .i64 fB (fT + 1)).bind fun n45=>(Hp.ldSl H18 fB (fT + 2)).bind fun s46=>(ai n44 n45 s46 js cW H18).bind fun r47=>((r47.1).asP).bind fun p48=>(Hp.ldI r47.2 .i64 p48.1 p48.2).bind fun n49=>(bif (n49 != 0) then (some ((.bool false),r47.2)) else (bA.l29 F ai bL ic eP cW fB fT (IntKind.i64.wrap (js + 1)) r47.2))) else (bA.j1 F ai bL ic cW fB fT H18))
termination_by structural n=>n
noncomputable def bA.twX (F:Nat) (ai:Int→Int→Sl→Int→Int→Hp→OA) (bL:Int→Int→Sl→Int→Hp→OA) (ic:Sl→Hp→OA) (aa:Nat) (ac:Nat) (ae:Int) (H:Hp):OA:=(Hp.ldI H .i64 aa (ac + 6)).bind fun n4=>(Hp.ldI H .i64 aa ((ac + 6) + 1)).bind fun n5=>(Hp.ldSl H aa ((ac + 6) + 2)).bind fun s6=>(Hp.new H [.int .i64 0,.int .i64 0,.sl ⟨none,0,.ex 0⟩]).bind fun H7=>(Hp.st H7 H.length 0 (.int .i64 n4)).bind fun H8=>(Hp.st H8 H.length (0 + 1) (.int .i64 n5)).bind fun H9=>(Hp.st H9 H.length (0 + 1 + 1) (.sl s6)).bind fun H10=>bA.l29 F ai bL ic F ae H.length 0 (IntKind.i64.wrap (ae + 1)) H10
noncomputable def bA.tw (F:Nat) (aa:Nat) (ac:Nat) (ae:Int) (H:Hp):OA:=bA.twX F (aP.tw F) (cq.tw F) (dH.tw F) aa ac ae H
noncomputable def bA.code:Go.Code:=(Try.f135.body).getD .skip
noncomputable def bA.lh29 (F:Nat) (ai:Int→Int→Sl→Int→Int→Hp→OA) (bL:Int→Int→Sl→Int→Hp→OA) (ic:Sl→Hp→OA) (ks:List Nat) (n:Nat) (tm:Tm) (H:Hp):OA:=match ks,tm 1,tm 5,tm 6 with
 | [],(.int .i64 cW),(.ptr fB fT),(.int .i64 js)=>bA.l29 F ai bL ic n cW fB fT js H
 | _,_,_,_=>none
theorem bA.lh29_inv {F:Nat} {ai:Int→Int→Sl→Int→Int→Hp→OA} {bL:Int→Int→Sl→Int→Hp→OA} {ic:Sl→Hp→OA} {ks:List Nat} {n:Nat} {tm:Tm} {H:Hp} {r:AV×Hp} (h:bA.lh29 F ai bL ic ks n tm H = some r):∃ cW:Int,∃ fB:Nat,∃ fT:Nat,∃ js:Int,ks = []∧tm 1 = (.int .i64 cW)∧tm 5 = (.ptr fB fT)∧tm 6 = (.int .i64 js)∧bA.l29 F ai bL ic n cW fB fT js H = some r:=by
 unfold bA.lh29 at h
 split at h
 ·exact ⟨_,_,_,_,rfl,by assumption,by assumption,by assumption,h⟩
 ·cases h
noncomputable def bA.lh (F:Nat) (ai:Int→Int→Sl→Int→Int→Hp→OA) (bL:Int→Int→Sl→Int→Hp→OA) (ic:Sl→Hp→OA) (p:Nat) (ks:List Nat) (n:Nat) (tm:Tm) (H:Hp):OA:=bif p.beq 29 then bA.lh29 F ai bL ic ks n tm H else (none)
def bA.pn:Nat→List Nat:=fun i=>(([]:List (Nat×List Nat)).lookup i).getD []
def bA.tb:Nat→List (List Nat):=fun i=>(([]:List (Nat×List (List Nat))).lookup i).getD []
noncomputable def bA.mk (g:Nat→Nat→Int→Hp→OA) (args:List AV) (H:Hp):OA:=match args with
 | [(.ptr aa ac),(.int .i64 ae)]=>g aa ac ae H
 | _=>none
noncomputable def bA.cs (F:Nat) (ai:Int→Int→Sl→Int→Int→Hp→OA) (bL:Int→Int→Sl→Int→Hp→OA) (ic:Sl→Hp→OA):List (FuncId×(List AV→Hp→OA)):=[(95,aP.mk ai),(120,cq.mk bL),(81,dH.mk ic)]
theorem bA.loops (F:Nat) (ai:Int→Int→Sl→Int→Int→Hp→OA) (bL:Int→Int→Sl→Int→Hp→OA) (ic:Sl→Hp→OA):LoopsOk tabs (mkOrc (bA.cs F ai bL ic)) bA.pn (bA.lh F ai bL ic) F [] 1 bA.code (fun tm H=>aresults tabs.ty H tm Try.f135.results.toList fun v=>some (v,H)) (fun _ _ _=>none) (fun tm H=>aresults tabs.ty H tm Try.f135.results.toList fun v=>some (v,H)):=by
 refine LoopsOk.seq ?_ ?_
 ·exact loops_none (by kernel_rfl)
 ·refine LoopsOk.seq ?_ ?_
  ·exact loops_none (by kernel_rfl)
  ·refine LoopsOk.seq ?_ ?_
   ·refine LoopsOk.seq ?_ ?_
    ·exact loops_none (by kernel_rfl)
    ·refine LoopsOk.block ?_
     refine LoopsOk.loop (fun tm H=>?_) (fun k29 tm H r h0=>?_) (fun k29=>?_)
     ·refine none_of fun r h0=>?_
      obtain ⟨cW,fB,fT,js,hks,e1,e5,e6,h⟩:=bA.lh29_inv (show bA.lh29 F ai bL ic [] 0 tm H = some r from h0)
      cases h
     ·obtain ⟨cW,fB,fT,js,hks,e1,e5,e6,h⟩:=bA.lh29_inv (show bA.lh29 F ai bL ic [] (k29 + 1) tm H = some r from h0)
      have q0:(Tm.put tm 1 (.int .i64 cW)) = tm:=by exact Tm.put_same e1
      have q1:(Tm.put (Tm.put tm 1 (.int .i64 cW)) 5 (.ptr fB fT)) = tm:=by rw [q0]; exact Tm.put_same e5
      have q2:(Tm.put (Tm.put (Tm.put tm 1 (.int .i64 cW)) 5 (.ptr fB fT)) 6 (.int .i64 js)) = tm:=by rw [q1]; exact Tm.put_same e6
      rw [← q2]
      exact Eq.trans (by kernel_rfl) h
     ·exact loops_none (by kernel_rfl)
   ·exact loops_none (by kernel_rfl)
theorem bA.eqX (F:Nat) (ai:Int→Int→Sl→Int→Int→Hp→OA) (bL:Int→Int→Sl→Int→Hp→OA) (ic:Sl→Hp→OA) (aa:Nat) (ac:Nat) (ae:Int) (H:Hp):aCode tabs (mkOrc (bA.cs F ai bL ic)) bA.pn (bA.lh F ai bL ic) F [] 1 bA.code (argTm [(.ptr aa ac),(.int .i64 ae)]) H (fun tm H=>aresults tabs.ty H tm Try.f135.results.toList fun v=>some (v,H)) (fun _ _ _=>none) (fun tm H=>aresults tabs.ty H tm Try.f135.results.toList fun v=>some (v,H)) = bA.twX F ai bL ic aa ac ae H:=by kernel_rfl
theorem bA.cs_ok (F:Nat):∀ p ∈ bA.cs F (aP.tw F) (cq.tw F) (dH.tw F),∀ args H v H',p.2 args H = some (v,H')→Go.AE.T Try.prog p.1 args H v H':=by
 intro p hp
 simp only [bA.cs,List.mem_cons,List.not_mem_nil,or_false] at hp
 rcases hp with rfl | rfl | rfl
 ·exact fun args H v H' h=>aP.mk_T h
 ·exact fun args H v H' h=>cq.mk_T h
 ·exact fun args H v H' h=>dH.mk_T h
theorem bA.ok:codeOk bA.pn Try.f135.ntmps bA.tb bA.code = true:=by kernel_rfl
theorem bA.T {F:Nat} {aa:Nat} {ac:Nat} {ae:Int} {H:Hp} {v:AV} {H':Hp} (h:bA.tw F aa ac ae H = some (v,H')):Go.AE.T Try.prog 135 [(.ptr aa ac),(.int .i64 ae)] H v H':=
 Go.AE.T.of (Y:=tabs) (C:=mkOrc (bA.cs F (aP.tw F) (cq.tw F) (dH.tw F))) (PN:=bA.pn) (LH:=bA.lh F (aP.tw F) (cq.tw F) (dH.tw F)) (F:=F) (TB:=bA.tb) (fn:=Try.f135) (code:=bA.code) mixed tabs_ok (mkOrc_ok (bA.cs_ok F)) Try.func135 (by kernel_rfl) (by kernel_rfl) bA.ok (Nat.le_of_ble_eq_true (by kernel_rfl)) (bA.loops F (aP.tw F) (cq.tw F) (dH.tw F)) (Eq.trans (bA.eqX F (aP.tw F) (cq.tw F) (dH.tw F) aa ac ae H) h)
theorem bA.mk_T {F:Nat} {args:List AV} {H:Hp} {v:AV} {H':Hp} (h:bA.mk (bA.tw F) args H = some (v,H')):Go.AE.T Try.prog 135 args H v H':=by
 unfold bA.mk at h
 split at h
 ·exact bA.T h
 ·cases h
noncomputable def dQ.twX (F:Nat) (ai:Int→Int→Sl→Int→Int→Hp→OA) (aa:Int) (ag:Nat) (ae:Nat) (bB:Nat) (bi:Nat) (H:Hp):OA:=(Hp.ldI H .i64 ag ae).bind fun n6=>(Hp.ldI H .i64 ag (ae + 1)).bind fun n7=>(Hp.ldSl H ag (ae + 2)).bind fun s8=>(Hp.ldI H .i64 bB bi).bind fun n9=>(Hp.ldI H .i64 bB bi).bind fun n10=>(ai n6 n7 s8 n9 n10 H).bind fun r11=>((r11.1).asP).bind fun p12=>(Hp.ldI r11.2 .i64 p12.1 p12.2).bind fun n13=>(if n13 = 0 then none else (some ((.bool ((Int.tmod aa n13) != 0)),r11.2)))
noncomputable def dQ.tw (F:Nat) (aa:Int) (ag:Nat) (ae:Nat) (bB:Nat) (bi:Nat) (H:Hp):OA:=dQ.twX F (aP.tw F) aa ag ae bB bi H
noncomputable def dQ.code:Go.Code:=(Try.f156.body).getD .skip
noncomputable def dQ.lh (F:Nat) (ai:Int→Int→Sl→Int→Int→Hp→OA) (p:Nat) (ks:List Nat) (n:Nat) (tm:Tm) (H:Hp):OA:=none
def dQ.pn:Nat→List Nat:=fun i=>(([]:List (Nat×List Nat)).lookup i).getD []
def dQ.tb:Nat→List (List Nat):=fun i=>(([]:List (Nat×List (List Nat))).lookup i).getD []
noncomputable def dQ.mk (g:Int→Nat→Nat→Nat→Nat→Hp→OA) (args:List AV) (H:Hp):OA:=match args with
 | [(.int .i64 aa),(.ptr ag ae),(.ptr bB bi)]=>g aa ag ae bB bi H
 | _=>none
noncomputable def dQ.cs (F:Nat) (ai:Int→Int→Sl→Int→Int→Hp→OA):List (FuncId×(List AV→Hp→OA)):=[(95,aP.mk ai)]
theorem dQ.loops (F:Nat) (ai:Int→Int→Sl→Int→Int→Hp→OA):LoopsOk tabs (mkOrc (dQ.cs F ai)) dQ.pn (dQ.lh F ai) F [] 1 dQ.code (fun tm H=>aresults tabs.ty H tm Try.f156.results.toList fun v=>some (v,H)) (fun _ _ _=>none) (fun tm H=>aresults tabs.ty H tm Try.f156.results.toList fun v=>some (v,H)):=by
 exact loops_none (by kernel_rfl)
theorem dQ.eqX (F:Nat) (ai:Int→Int→Sl→Int→Int→Hp→OA) (aa:Int) (ag:Nat) (ae:Nat) (bB:Nat) (bi:Nat) (H:Hp):aCode tabs (mkOrc (dQ.cs F ai)) dQ.pn (dQ.lh F ai) F [] 1 dQ.code (argTm [(.int .i64 aa),(.ptr ag ae),(.ptr bB bi)]) H (fun tm H=>aresults tabs.ty H tm Try.f156.results.toList fun v=>some (v,H)) (fun _ _ _=>none) (fun tm H=>aresults tabs.ty H tm Try.f156.results.toList fun v=>some (v,H)) = dQ.twX F ai aa ag ae bB bi H:=by kernel_rfl
theorem dQ.cs_ok (F:Nat):∀ p ∈ dQ.cs F (aP.tw F),∀ args H v H',p.2 args H = some (v,H')→Go.AE.T Try.prog p.1 args H v H':=by
 intro p hp
 simp only [dQ.cs,List.mem_cons,List.not_mem_nil,or_false] at hp
 subst hp
 exact fun args H v H' h=>aP.mk_T h
theorem dQ.ok:codeOk dQ.pn Try.f156.ntmps dQ.tb dQ.code = true:=by kernel_rfl
theorem dQ.T {F:Nat} {aa:Int} {ag:Nat} {ae:Nat} {bB:Nat} {bi:Nat} {H:Hp} {v:AV} {H':Hp} (h:dQ.tw F aa ag ae bB bi H = some (v,H')):Go.AE.T Try.prog 156 [(.int .i64 aa),(.ptr ag ae),(.ptr bB bi)] H v H':=
 Go.AE.T.of (Y:=tabs) (C:=mkOrc (dQ.cs F (aP.tw F))) (PN:=dQ.pn) (LH:=dQ.lh F (aP.tw F)) (F:=F) (TB:=dQ.tb) (fn:=Try.f156) (code:=dQ.code) mixed tabs_ok (mkOrc_ok (dQ.cs_ok F)) Try.func156 (by kernel_rfl) (by kernel_rfl) dQ.ok (Nat.le_of_ble_eq_true (by kernel_rfl)) (dQ.loops F (aP.tw F)) (Eq.trans (dQ.eqX F (aP.tw F) aa ag ae bB bi H) h)
theorem dQ.mk_T {F:Nat} {args:List AV} {H:Hp} {v:AV} {H':Hp} (h:dQ.mk (dQ.tw F) args H = some (v,H')):Go.AE.T Try.prog 156 args H v H':=by
 unfold dQ.mk at h
 split at h
 ·exact dQ.T h
 ·cases h
noncomputable def cu.l13 (F:Nat) (iX:Int→Nat→Nat→Nat→Nat→Hp→OA) :Nat→Sl→Nat→Nat→Nat→Nat→Int→Int→Hp→OA
 | 0,_,_,_,_,_,_,_,_=>none
 | hU + 1,gf,ag,ae,af,bt,jG,iY,H10=>(bif (decide (iY < jG)) then ((Sl.idx gf iY 1).bind fun p15=>(Hp.ldI H10 .i64 p15.1 p15.2).bind fun n16=>(iX n16 ag ae af bt H10).bind fun r17=>((r17.1).asB).bind fun b18=>(bif b18 then (some ((.int .i64 iY),r17.2)) else (cu.l13 F iX hU gf ag ae af bt jG (IntKind.i64.wrap (iY + 1)) r17.2))) else (some ((.int .i64 (-1)),H10)))
termination_by structural n=>n
noncomputable def cu.twX (F:Nat) (iX:Int→Nat→Nat→Nat→Nat→Hp→OA) (aa:Sl) (ag:Nat) (ae:Nat) (af:Nat) (bt:Nat) (H:Hp):OA:=cu.l13 F iX F aa ag ae af bt (aa.n:Int) 0 H
noncomputable def cu.tw (F:Nat) (aa:Sl) (ag:Nat) (ae:Nat) (af:Nat) (bt:Nat) (H:Hp):OA:=cu.twX F (dQ.tw F) aa ag ae af bt H
noncomputable def cu.code:Go.Code:=(Try.f117.body).getD .skip
noncomputable def cu.lh13 (F:Nat) (iX:Int→Nat→Nat→Nat→Nat→Hp→OA) (ks:List Nat) (n:Nat) (tm:Tm) (H:Hp):OA:=match ks,tm 0,tm 1,tm 7,tm 8 with
 | [],(.sl gf),(.fn 156 [(.ptr ag ae),(.ptr af bt)]),(.int .i64 jG),(.int .i64 iY)=>cu.l13 F iX n gf ag ae af bt jG iY H
 | _,_,_,_,_=>none
theorem cu.lh13_inv {F:Nat} {iX:Int→Nat→Nat→Nat→Nat→Hp→OA} {ks:List Nat} {n:Nat} {tm:Tm} {H:Hp} {r:AV×Hp} (h:cu.lh13 F iX ks n tm H = some r):∃ gf:Sl,∃ ag:Nat,∃ ae:Nat,∃ af:Nat,∃ bt:Nat,∃ jG:Int,∃ iY:Int,ks = []∧tm 0 = (.sl gf)∧tm 1 = (.fn 156 [(.ptr ag ae),(.ptr af bt)])∧tm 7 = (.int .i64 jG)∧tm 8 = (.int .i64 iY)∧cu.l13 F iX n gf ag ae af bt jG iY H = some r:=by
 unfold cu.lh13 at h
 split at h
 ·exact ⟨_,_,_,_,_,_,_,rfl,by assumption,by assumption,by assumption,by assumption,h⟩
 ·cases h
noncomputable def cu.lh (F:Nat) (iX:Int→Nat→Nat→Nat→Nat→Hp→OA) (p:Nat) (ks:List Nat) (n:Nat) (tm:Tm) (H:Hp):OA:=bif p.beq 13 then cu.lh13 F iX ks n tm H else (none)
def cu.pn:Nat→List Nat:=fun i=>(([]:List (Nat×List Nat)).lookup i).getD []
def cu.tb:Nat→List (List Nat):=fun i=>(([]:List (Nat×List (List Nat))).lookup i).getD []
noncomputable def cu.mk (g:Sl→Nat→Nat→Nat→Nat→Hp→OA) (args:List AV) (H:Hp):OA:=match args with
 | [(.sl aa),(.fn 156 [(.ptr ag ae),(.ptr af bt)])]=>g aa ag ae af bt H
 | _=>none
noncomputable def cu.cs (F:Nat) (iX:Int→Nat→Nat→Nat→Nat→Hp→OA):List (FuncId×(List AV→Hp→OA)):=[(156,dQ.mk iX)]
theorem cu.loops (F:Nat) (iX:Int→Nat→Nat→Nat→Nat→Hp→OA):LoopsOk tabs (mkOrc (cu.cs F iX)) cu.pn (cu.lh F iX) F [] 1 cu.code (fun tm H=>aresults tabs.ty H tm Try.f117.results.toList fun v=>some (v,H)) (fun _ _ _=>none) (fun tm H=>aresults tabs.ty H tm Try.f117.results.toList fun v=>some (v,H)):=by
 refine LoopsOk.seq ?_ ?_
 ·exact loops_none (by kernel_rfl)
 ·refine LoopsOk.seq ?_ ?_
  ·refine LoopsOk.seq ?_ ?_
   ·exact loops_none (by kernel_rfl)
   ·refine LoopsOk.block ?_
    refine LoopsOk.loop (fun tm H=>?_) (fun k13 tm H r h0=>?_) (fun k13=>?_)
    ·refine none_of fun r h0=>?_
     obtain ⟨gf,ag,ae,af,bt,jG,iY,hks,e0,e1,e7,e8,h⟩:=cu.lh13_inv (show cu.lh13 F iX [] 0 tm H = some r from h0)
     cases h
    ·obtain ⟨gf,ag,ae,af,bt,jG,iY,hks,e0,e1,e7,e8,h⟩:=cu.lh13_inv (show cu.lh13 F iX [] (k13 + 1) tm H = some r from h0)
     have q0:(Tm.put tm 0 (.sl gf)) = tm:=by exact Tm.put_same e0
     have q1:(Tm.put (Tm.put tm 0 (.sl gf)) 1 (.fn 156 [(.ptr ag ae),(.ptr af bt)])) = tm:=by rw [q0]; exact Tm.put_same e1
     have q2:(Tm.put (Tm.put (Tm.put tm 0 (.sl gf)) 1 (.fn 156 [(.ptr ag ae),(.ptr af bt)])) 7 (.int .i64 jG)) = tm:=by rw [q1]; exact Tm.put_same e7
     have q3:(Tm.put (Tm.put (Tm.put (Tm.put tm 0 (.sl gf)) 1 (.fn 156 [(.ptr ag ae),(.ptr af bt)])) 7 (.int .i64 jG)) 8 (.int .i64 iY)) = tm:=by rw [q2]; exact Tm.put_same e8
     rw [← q3]
     exact Eq.trans (by kernel_rfl) h
    ·exact loops_none (by kernel_rfl)
  ·exact loops_none (by kernel_rfl)
theorem cu.eqX (F:Nat) (iX:Int→Nat→Nat→Nat→Nat→Hp→OA) (aa:Sl) (ag:Nat) (ae:Nat) (af:Nat) (bt:Nat) (H:Hp):aCode tabs (mkOrc (cu.cs F iX)) cu.pn (cu.lh F iX) F [] 1 cu.code (argTm [(.sl aa),(.fn 156 [(.ptr ag ae),(.ptr af bt)])]) H (fun tm H=>aresults tabs.ty H tm Try.f117.results.toList fun v=>some (v,H)) (fun _ _ _=>none) (fun tm H=>aresults tabs.ty H tm Try.f117.results.toList fun v=>some (v,H)) = cu.twX F iX aa ag ae af bt H:=by kernel_rfl
theorem cu.cs_ok (F:Nat):∀ p ∈ cu.cs F (dQ.tw F),∀ args H v H',p.2 args H = some (v,H')→Go.AE.T Try.prog p.1 args H v H':=by
 intro p hp
 simp only [cu.cs,List.mem_cons,List.not_mem_nil,or_false] at hp
 subst hp
 exact fun args H v H' h=>dQ.mk_T h
theorem cu.ok:codeOk cu.pn Try.f117.ntmps cu.tb cu.code = true:=by kernel_rfl
theorem cu.T {F:Nat} {aa:Sl} {ag:Nat} {ae:Nat} {af:Nat} {bt:Nat} {H:Hp} {v:AV} {H':Hp} (h:cu.tw F aa ag ae af bt H = some (v,H')):Go.AE.T Try.prog 117 [(.sl aa),(.fn 156 [(.ptr ag ae),(.ptr af bt)])] H v H':=
 Go.AE.T.of (Y:=tabs) (C:=mkOrc (cu.cs F (dQ.tw F))) (PN:=cu.pn) (LH:=cu.lh F (dQ.tw F)) (F:=F) (TB:=cu.tb) (fn:=Try.f117) (code:=cu.code) mixed tabs_ok (mkOrc_ok (cu.cs_ok F)) Try.func117 (by kernel_rfl) (by kernel_rfl) cu.ok (Nat.le_of_ble_eq_true (by kernel_rfl)) (cu.loops F (dQ.tw F)) (Eq.trans (cu.eqX F (dQ.tw F) aa ag ae af bt H) h)
theorem cu.mk_T {F:Nat} {args:List AV} {H:Hp} {v:AV} {H':Hp} (h:cu.mk (cu.tw F) args H = some (v,H')):Go.AE.T Try.prog 117 args H v H':=by
 unfold cu.mk at h
 split at h
 ·exact cu.T h
 ·cases h
noncomputable def dR.twX (F:Nat) (lZ:Sl→Nat→Nat→Nat→Nat→Hp→OA) (aa:Sl) (ag:Nat) (ae:Nat) (af:Nat) (bt:Nat) (H:Hp):OA:=(lZ aa ag ae af bt H).bind fun r6=>((r6.1).asI .i64).bind fun n7=>some ((.bool (decide (n7 ≥ 0))),r6.2)
noncomputable def dR.tw (F:Nat) (aa:Sl) (ag:Nat) (ae:Nat) (af:Nat) (bt:Nat) (H:Hp):OA:=dR.twX F (cu.tw F) aa ag ae af bt H
noncomputable def dR.code:Go.Code:=(Try.f81.body).getD .skip
noncomputable def dR.lh (F:Nat) (lZ:Sl→Nat→Nat→Nat→Nat→Hp→OA) (p:Nat) (ks:List Nat) (n:Nat) (tm:Tm) (H:Hp):OA:=none
def dR.pn:Nat→List Nat:=fun i=>(([]:List (Nat×List Nat)).lookup i).getD []
def dR.tb:Nat→List (List Nat):=fun i=>(([]:List (Nat×List (List Nat))).lookup i).getD []
noncomputable def dR.mk (g:Sl→Nat→Nat→Nat→Nat→Hp→OA) (args:List AV) (H:Hp):OA:=match args with
 | [(.sl aa),(.fn 156 [(.ptr ag ae),(.ptr af bt)])]=>g aa ag ae af bt H
 | _=>none
noncomputable def dR.cs (F:Nat) (lZ:Sl→Nat→Nat→Nat→Nat→Hp→OA):List (FuncId×(List AV→Hp→OA)):=[(117,cu.mk lZ)]
theorem dR.loops (F:Nat) (lZ:Sl→Nat→Nat→Nat→Nat→Hp→OA):LoopsOk tabs (mkOrc (dR.cs F lZ)) dR.pn (dR.lh F lZ) F [] 1 dR.code (fun tm H=>aresults tabs.ty H tm Try.f81.results.toList fun v=>some (v,H)) (fun _ _ _=>none) (fun tm H=>aresults tabs.ty H tm Try.f81.results.toList fun v=>some (v,H)):=by
 exact loops_none (by kernel_rfl)
theorem dR.eqX (F:Nat) (lZ:Sl→Nat→Nat→Nat→Nat→Hp→OA) (aa:Sl) (ag:Nat) (ae:Nat) (af:Nat) (bt:Nat) (H:Hp):aCode tabs (mkOrc (dR.cs F lZ)) dR.pn (dR.lh F lZ) F [] 1 dR.code (argTm [(.sl aa),(.fn 156 [(.ptr ag ae),(.ptr af bt)])]) H (fun tm H=>aresults tabs.ty H tm Try.f81.results.toList fun v=>some (v,H)) (fun _ _ _=>none) (fun tm H=>aresults tabs.ty H tm Try.f81.results.toList fun v=>some (v,H)) = dR.twX F lZ aa ag ae af bt H:=by kernel_rfl
theorem dR.cs_ok (F:Nat):∀ p ∈ dR.cs F (cu.tw F),∀ args H v H',p.2 args H = some (v,H')→Go.AE.T Try.prog p.1 args H v H':=by
 intro p hp
 simp only [dR.cs,List.mem_cons,List.not_mem_nil,or_false] at hp
 subst hp
 exact fun args H v H' h=>cu.mk_T h
theorem dR.ok:codeOk dR.pn Try.f81.ntmps dR.tb dR.code = true:=by kernel_rfl
theorem dR.T {F:Nat} {aa:Sl} {ag:Nat} {ae:Nat} {af:Nat} {bt:Nat} {H:Hp} {v:AV} {H':Hp} (h:dR.tw F aa ag ae af bt H = some (v,H')):Go.AE.T Try.prog 81 [(.sl aa),(.fn 156 [(.ptr ag ae),(.ptr af bt)])] H v H':=
 Go.AE.T.of (Y:=tabs) (C:=mkOrc (dR.cs F (cu.tw F))) (PN:=dR.pn) (LH:=dR.lh F (cu.tw F)) (F:=F) (TB:=dR.tb) (fn:=Try.f81) (code:=dR.code) mixed tabs_ok (mkOrc_ok (dR.cs_ok F)) Try.func81 (by kernel_rfl) (by kernel_rfl) dR.ok (Nat.le_of_ble_eq_true (by kernel_rfl)) (dR.loops F (cu.tw F)) (Eq.trans (dR.eqX F (cu.tw F) aa ag ae af bt H) h)
theorem dR.mk_T {F:Nat} {args:List AV} {H:Hp} {v:AV} {H':Hp} (h:dR.mk (dR.tw F) args H = some (v,H')):Go.AE.T Try.prog 81 args H v H':=by
 unfold dR.mk at h
 split at h
 ·exact dR.T h
 ·cases h
noncomputable def cg.l29 (F:Nat) (bL:Int→Int→Sl→Int→Hp→OA) (iZ:Sl→Nat→Nat→Nat→Nat→Hp→OA) :Nat→Nat→Nat→Nat→Nat→Int→Hp→OA
 | 0,_,_,_,_,_,_=>none
 | eP + 1,dU,dP,jt,kN,i_,H22=>(Hp.ldI H22 .i64 jt kN).bind fun n33=>(bif (decide (i_ < n33)) then ((Hp.ldI H22 .i64 jt kN).bind fun n34=>(Hp.ldI H22 .i64 jt (kN + 1)).bind fun n35=>(Hp.ldSl H22 jt (kN + 2)).bind fun s36=>(bL n34 n35 s36 i_ H22).bind fun r37=>((r37.1).asSl).bind fun s38=>(if Cons H22 r37.2 then ((Hp.ldI r37.2 .i64 dU dP).bind fun n39=>(Sl.cut s38 1 (IntKind.i64.wrap (n39 + 1)) (s38.n:Int)).bind fun s40=>(iZ s40 jt kN dU dP r37.2).bind fun r41=>((r41.1).asB).bind fun b42=>(bif b42 then (some ((.int .i64 i_),r41.2)) else (cg.l29 F bL iZ eP dU dP jt kN (IntKind.i64.wrap (i_ + 1)) r41.2))) else none)) else (some ((.int .i64 (-1)),H22)))
termination_by structural n=>n
noncomputable def cg.twX (F:Nat) (bL:Int→Int→Sl→Int→Hp→OA) (iZ:Sl→Nat→Nat→Nat→Nat→Hp→OA) (aa:Nat) (ac:Nat) (ae:Int) (H:Hp):OA:=(Hp.new H [(.int .i64 ae)]).bind fun H4=>(Hp.ldI H4 .i64 aa (ac + 6)).bind fun n5=>(Hp.ldI H4 .i64 aa ((ac + 6) + 1)).bind fun n6=>(Hp.ldSl H4 aa ((ac + 6) + 2)).bind fun s7=>(Hp.new H4 [.int .i64 0,.int .i64 0,.sl ⟨none,0,.ex 0⟩]).bind fun H8=>(Hp.st H8 H4.length 0 (.int .i64 n5)).bind fun H9=>(Hp.st H9 H4.length (0 + 1) (.int .i64 n6)).bind fun H10=>(Hp.st H10 H4.length (0 + 1 + 1) (.sl s7)).bind fun H11=>(Hp.ldI H11 .i64 H.length 0).bind fun n12=>cg.l29 F bL iZ F H.length 0 H4.length 0 (IntKind.i64.wrap (n12 + 1)) H11
noncomputable def cg.tw (F:Nat) (aa:Nat) (ac:Nat) (ae:Int) (H:Hp):OA:=cg.twX F (cq.tw F) (dR.tw F) aa ac ae H
noncomputable def cg.code:Go.Code:=(Try.f136.body).getD .skip
noncomputable def cg.lh29 (F:Nat) (bL:Int→Int→Sl→Int→Hp→OA) (iZ:Sl→Nat→Nat→Nat→Nat→Hp→OA) (ks:List Nat) (n:Nat) (tm:Tm) (H:Hp):OA:=match ks,tm 3,tm 5,tm 6 with
 | [],(.ptr dU dP),(.ptr jt kN),(.int .i64 i_)=>cg.l29 F bL iZ n dU dP jt kN i_ H
 | _,_,_,_=>none
theorem cg.lh29_inv {F:Nat} {bL:Int→Int→Sl→Int→Hp→OA} {iZ:Sl→Nat→Nat→Nat→Nat→Hp→OA} {ks:List Nat} {n:Nat} {tm:Tm} {H:Hp} {r:AV×Hp} (h:cg.lh29 F bL iZ ks n tm H = some r):∃ dU:Nat,∃ dP:Nat,∃ jt:Nat,∃ kN:Nat,∃ i_:Int,ks = []∧tm 3 = (.ptr dU dP)∧tm 5 = (.ptr jt kN)∧tm 6 = (.int .i64 i_)∧cg.l29 F bL iZ n dU dP jt kN i_ H = some r:=by
 unfold cg.lh29 at h
 split at h
 ·exact ⟨_,_,_,_,_,rfl,by assumption,by assumption,by assumption,h⟩
 ·cases h
noncomputable def cg.lh (F:Nat) (bL:Int→Int→Sl→Int→Hp→OA) (iZ:Sl→Nat→Nat→Nat→Nat→Hp→OA) (p:Nat) (ks:List Nat) (n:Nat) (tm:Tm) (H:Hp):OA:=bif p.beq 29 then cg.lh29 F bL iZ ks n tm H else (none)
def cg.pn:Nat→List Nat:=fun i=>(([(5,[7])]:List (Nat×List Nat)).lookup i).getD []
def cg.tb:Nat→List (List Nat):=fun i=>(([(5,[[],[],[0,1],[],[3],[0,1,2,3,4],[],[0,1,2,3,4,5,6]])]:List (Nat×List (List Nat))).lookup i).getD []
noncomputable def cg.mk (g:Nat→Nat→Int→Hp→OA) (args:List AV) (H:Hp):OA:=match args with
 | [(.ptr aa ac),(.int .i64 ae)]=>g aa ac ae H
 | _=>none
noncomputable def cg.cs (F:Nat) (bL:Int→Int→Sl→Int→Hp→OA) (iZ:Sl→Nat→Nat→Nat→Nat→Hp→OA):List (FuncId×(List AV→Hp→OA)):=[(120,cq.mk bL),(81,dR.mk iZ)]
theorem cg.loops (F:Nat) (bL:Int→Int→Sl→Int→Hp→OA) (iZ:Sl→Nat→Nat→Nat→Nat→Hp→OA):LoopsOk tabs (mkOrc (cg.cs F bL iZ)) cg.pn (cg.lh F bL iZ) F [] 1 cg.code (fun tm H=>aresults tabs.ty H tm Try.f136.results.toList fun v=>some (v,H)) (fun _ _ _=>none) (fun tm H=>aresults tabs.ty H tm Try.f136.results.toList fun v=>some (v,H)):=by
 refine LoopsOk.seq ?_ ?_
 ·exact loops_none (by kernel_rfl)
 ·refine LoopsOk.seq ?_ ?_
  ·exact loops_none (by kernel_rfl)
  ·refine LoopsOk.seq ?_ ?_
   ·refine LoopsOk.seq ?_ ?_
    ·exact loops_none (by kernel_rfl)
    ·refine LoopsOk.block ?_
     refine LoopsOk.loop (fun tm H=>?_) (fun k29 tm H r h0=>?_) (fun k29=>?_)
     ·refine none_of fun r h0=>?_
      obtain ⟨dU,dP,jt,kN,i_,hks,e3,e5,e6,h⟩:=cg.lh29_inv (show cg.lh29 F bL iZ [] 0 tm H = some r from h0)
      cases h
     ·obtain ⟨dU,dP,jt,kN,i_,hks,e3,e5,e6,h⟩:=cg.lh29_inv (show cg.lh29 F bL iZ [] (k29 + 1) tm H = some r from h0)
      have q0:(Tm.put tm 3 (.ptr dU dP)) = tm:=by exact Tm.put_same e3
      have q1:(Tm.put (Tm.put tm 3 (.ptr dU dP)) 5 (.ptr jt kN)) = tm:=by rw [q0]; exact Tm.put_same e5
      have q2:(Tm.put (Tm.put (Tm.put tm 3 (.ptr dU dP)) 5 (.ptr jt kN)) 6 (.int .i64 i_)) = tm:=by rw [q1]; exact Tm.put_same e6
      rw [← q2]
      exact Eq.trans (by kernel_rfl) h
     ·exact loops_none (by kernel_rfl)
   ·exact loops_none (by kernel_rfl)
theorem cg.eqX (F:Nat) (bL:Int→Int→Sl→Int→Hp→OA) (iZ:Sl→Nat→Nat→Nat→Nat→Hp→OA) (aa:Nat) (ac:Nat) (ae:Int) (H:Hp):aCode tabs (mkOrc (cg.cs F bL iZ)) cg.pn (cg.lh F bL iZ) F [] 1 cg.code (argTm [(.ptr aa ac),(.int .i64 ae)]) H (fun tm H=>aresults tabs.ty H tm Try.f136.results.toList fun v=>some (v,H)) (fun _ _ _=>none) (fun tm H=>aresults tabs.ty H tm Try.f136.results.toList fun v=>some (v,H)) = cg.twX F bL iZ aa ac ae H:=by kernel_rfl
theorem cg.cs_ok (F:Nat):∀ p ∈ cg.cs F (cq.tw F) (dR.tw F),∀ args H v H',p.2 args H = some (v,H')→Go.AE.T Try.prog p.1 args H v H':=by
 intro p hp
 simp only [cg.cs,List.mem_cons,List.not_mem_nil,or_false] at hp
 rcases hp with rfl | rfl
 ·exact fun args H v H' h=>cq.mk_T h
 ·exact fun args H v H' h=>dR.mk_T h
theorem cg.ok:codeOk cg.pn Try.f136.ntmps cg.tb cg.code = true:=by kernel_rfl
theorem cg.T {F:Nat} {aa:Nat} {ac:Nat} {ae:Int} {H:Hp} {v:AV} {H':Hp} (h:cg.tw F aa ac ae H = some (v,H')):Go.AE.T Try.prog 136 [(.ptr aa ac),(.int .i64 ae)] H v H':=
 Go.AE.T.of (Y:=tabs) (C:=mkOrc (cg.cs F (cq.tw F) (dR.tw F))) (PN:=cg.pn) (LH:=cg.lh F (cq.tw F) (dR.tw F)) (F:=F) (TB:=cg.tb) (fn:=Try.f136) (code:=cg.code) mixed tabs_ok (mkOrc_ok (cg.cs_ok F)) Try.func136 (by kernel_rfl) (by kernel_rfl) cg.ok (Nat.le_of_ble_eq_true (by kernel_rfl)) (cg.loops F (cq.tw F) (dR.tw F)) (Eq.trans (cg.eqX F (cq.tw F) (dR.tw F) aa ac ae H) h)
theorem cg.mk_T {F:Nat} {args:List AV} {H:Hp} {v:AV} {H':Hp} (h:cg.mk (cg.tw F) args H = some (v,H')):Go.AE.T Try.prog 136 args H v H':=by
 unfold cg.mk at h
 split at h
 ·exact cg.T h
 ·cases h
noncomputable def aV.j4 (F:Nat) (gq:Nat→Nat→Int→Hp→OA) (gr:Nat→Nat→Int→Hp→OA) (gu:Nat→Nat→Int→Hp→OA) (gv:Nat→Nat→Int→Hp→OA) (cY:Nat→Nat→Int→Int→Int→Hp→OA) (C3_:Nat→Nat→Int→Hp→OA) (wN:Nat) (wO:Nat) (pm:Int) (H57:Hp):OA:=C3_ wN wO pm H57
noncomputable def aV.j5 (F:Nat) (gq:Nat→Nat→Int→Hp→OA) (gr:Nat→Nat→Int→Hp→OA) (gu:Nat→Nat→Int→Hp→OA) (gv:Nat→Nat→Int→Hp→OA) (cY:Nat→Nat→Int→Int→Int→Hp→OA) (C3_:Nat→Nat→Int→Hp→OA) (wP:Nat) (wQ:Nat) (po:Int) (H80:Hp):OA:=C3_ wP wQ po H80
noncomputable def aV.j6 (F:Nat) (gq:Nat→Nat→Int→Hp→OA) (gr:Nat→Nat→Int→Hp→OA) (gu:Nat→Nat→Int→Hp→OA) (gv:Nat→Nat→Int→Hp→OA) (cY:Nat→Nat→Int→Int→Int→Hp→OA) (C3_:Nat→Nat→Int→Hp→OA) (oJ:Nat) (oK:Nat) (pp:Int) (H71:Hp):OA:=aV.j5 F gq gr gu gv cY C3_ oJ oK pp H71
noncomputable def aV.l3 (F:Nat) (gq:Nat→Nat→Int→Hp→OA) (gr:Nat→Nat→Int→Hp→OA) (gu:Nat→Nat→Int→Hp→OA) (gv:Nat→Nat→Int→Hp→OA) (cY:Nat→Nat→Int→Int→Int→Hp→OA) :Nat→Nat→Nat→Int→Hp→OA
 | 0,_,_,_,_=>none
 | rh + 1,cX,dw,gl,H6=>(Hp.ldB H6 cX (dw + 15)).bind fun b44=>(bif (!b44) then ((Hp.ldI H6 .i64 cX (dw + 6)).bind fun n45=>(Hp.ldI H6 .i64 cX ((dw + 6) + 1)).bind fun n46=>(bif (decide (gl < (if n46 < n45 then n46 else n45))) then ((gq cX dw gl H6).bind fun r47=>((r47.1).asB).bind fun b48=>(bif (!b48) then (some ((.tup []),r47.2)) else ((gr cX dw gl r47.2).bind fun r49=>(Hp.ldB r49.2 cX (dw + 15)).bind fun b50=>(bif b50 then (aV.j4 F gq gr gu gv cY (aV.l3 F gq gr gu gv cY rh) cX dw gl r49.2) else ((gu cX dw gl r49.2).bind fun r58=>((r58.1).asB).bind fun b59=>(bif (!b59) then (aV.j4 F gq gr gu gv cY (aV.l3 F gq gr gu gv cY rh) cX dw gl r58.2) else ((gv cX dw gl r58.2).bind fun r60=>((r60.1).asI .i64).bind fun n61=>(bif (decide (n61 ≥ 0)) then ((cY cX dw gl n61 1 r60.2).bind fun r62=>aV.j6 F gq gr gu gv cY (aV.l3 F gq gr gu gv cY rh) cX dw gl r62.2) else (aV.j6 F gq gr gu gv cY (aV.l3 F gq gr gu gv cY rh) cX dw (IntKind.i64.wrap (gl + 1)) r60.2))))))))) else (some ((.tup []),H6)))) else (some ((.tup []),H6)))
termination_by structural n=>n
noncomputable def aV.twX (F:Nat) (gq:Nat→Nat→Int→Hp→OA) (gr:Nat→Nat→Int→Hp→OA) (gu:Nat→Nat→Int→Hp→OA) (gv:Nat→Nat→Int→Hp→OA) (cY:Nat→Nat→Int→Int→Int→Hp→OA) (aa:Nat) (ac:Nat) (H:Hp):OA:=aV.l3 F gq gr gu gv cY F aa ac 0 H
noncomputable def aV.tw (F:Nat) (aa:Nat) (ac:Nat) (H:Hp):OA:=aV.twX F (aW.tw F) (aI.tw F) (bA.tw F) (cg.tw F) (cR.tw F) aa ac H
noncomputable def aV.code:Go.Code:=(Try.f109.body).getD .skip
noncomputable def aV.lh3 (F:Nat) (gq:Nat→Nat→Int→Hp→OA) (gr:Nat→Nat→Int→Hp→OA) (gu:Nat→Nat→Int→Hp→OA) (gv:Nat→Nat→Int→Hp→OA) (cY:Nat→Nat→Int→Int→Int→Hp→OA) (ks:List Nat) (n:Nat) (tm:Tm) (H:Hp):OA:=match ks,tm 0,tm 2 with
 | [],(.ptr cX dw),(.int .i64 gl)=>aV.l3 F gq gr gu gv cY n cX dw gl H
 | _,_,_=>none
theorem aV.lh3_inv {F:Nat} {gq:Nat→Nat→Int→Hp→OA} {gr:Nat→Nat→Int→Hp→OA} {gu:Nat→Nat→Int→Hp→OA} {gv:Nat→Nat→Int→Hp→OA} {cY:Nat→Nat→Int→Int→Int→Hp→OA} {ks:List Nat} {n:Nat} {tm:Tm} {H:Hp} {r:AV×Hp} (h:aV.lh3 F gq gr gu gv cY ks n tm H = some r):∃ cX:Nat,∃ dw:Nat,∃ gl:Int,ks = []∧tm 0 = (.ptr cX dw)∧tm 2 = (.int .i64 gl)∧aV.l3 F gq gr gu gv cY n cX dw gl H = some r:=by
 unfold aV.lh3 at h
 split at h
 ·exact ⟨_,_,_,rfl,by assumption,by assumption,h⟩
 ·cases h
noncomputable def aV.lh (F:Nat) (gq:Nat→Nat→Int→Hp→OA) (gr:Nat→Nat→Int→Hp→OA) (gu:Nat→Nat→Int→Hp→OA) (gv:Nat→Nat→Int→Hp→OA) (cY:Nat→Nat→Int→Int→Int→Hp→OA) (p:Nat) (ks:List Nat) (n:Nat) (tm:Tm) (H:Hp):OA:=bif p.beq 3 then aV.lh3 F gq gr gu gv cY ks n tm H else (none)
def aV.pn:Nat→List Nat:=fun i=>(([(1,[])]:List (Nat×List Nat)).lookup i).getD []
def aV.tb:Nat→List (List Nat):=fun i=>(([(1,[[],[0],[0,1],[0,1,2],[0,1,2,3],[0,1,2,3,4],[0,1,2,3,4,5],[0,1,2,3,4,5],[0,1,2,3,4,5,7],[0,1,2,3,4,5,7,8],[0,1,2,3,4,5,7,8,9],[0,1,2,3,4,5,7,8,9,10],[0,1,2,3,4,5,7,8,9,10,11],[0,1,2,3,4,5],[0,1,2,3,4,5,13],[0,1,2,3,4,5,13,14],[0,1,2,3,4,5,13,14,15],[0,1,2,3,4,5,13,14,15,16],[0,1,2,3,4,5,13,14,15,16,17],[0,1,2,3,4,5,7,8,9,10,11,12,13,14,15,16,17,18],[0,1,2,3,4,5,6,7,8,9,10,11,12,13,14,15,16,17,18,19],[0,1,2,3,4,5,6,7,8,9,10,11,12,13,14,15,16,17,18,19,20]])]:List (Nat×List (List Nat))).lookup i).getD []
noncomputable def aV.mk (g:Nat→Nat→Hp→OA) (args:List AV) (H:Hp):OA:=match args with
 | [(.ptr aa ac)]=>g aa ac H
 | _=>none
noncomputable def aV.cs (F:Nat) (gq:Nat→Nat→Int→Hp→OA) (gr:Nat→Nat→Int→Hp→OA) (gu:Nat→Nat→Int→Hp→OA) (gv:Nat→Nat→Int→Hp→OA) (cY:Nat→Nat→Int→Int→Int→Hp→OA):List (FuncId×(List AV→Hp→OA)):=[(133,aW.mk gq),(134,aI.mk gr),(135,bA.mk gu),(136,cg.mk gv),(137,cR.mk cY)]
theorem aV.loops (F:Nat) (gq:Nat→Nat→Int→Hp→OA) (gr:Nat→Nat→Int→Hp→OA) (gu:Nat→Nat→Int→Hp→OA) (gv:Nat→Nat→Int→Hp→OA) (cY:Nat→Nat→Int→Int→Int→Hp→OA):LoopsOk tabs (mkOrc (aV.cs F gq gr gu gv cY)) aV.pn (aV.lh F gq gr gu gv cY) F [] 1 aV.code (fun tm H=>aresults tabs.ty H tm Try.f109.results.toList fun v=>some (v,H)) (fun _ _ _=>none) (fun tm H=>aresults tabs.ty H tm Try.f109.results.toList fun v=>some (v,H)):=by
 refine LoopsOk.seq ?_ ?_
 ·exact loops_none (by kernel_rfl)
 ·refine LoopsOk.block ?_
  refine LoopsOk.loop (fun tm H=>?_) (fun k3 tm H r h0=>?_) (fun k3=>?_)
  ·refine none_of fun r h0=>?_
   obtain ⟨cX,dw,gl,hks,e0,e2,h⟩:=aV.lh3_inv (show aV.lh3 F gq gr gu gv cY [] 0 tm H = some r from h0)
   cases h
  ·obtain ⟨cX,dw,gl,hks,e0,e2,h⟩:=aV.lh3_inv (show aV.lh3 F gq gr gu gv cY [] (k3 + 1) tm H = some r from h0)
   have q0:(Tm.put tm 0 (.ptr cX dw)) = tm:=by exact Tm.put_same e0
   have q1:(Tm.put (Tm.put tm 0 (.ptr cX dw)) 2 (.int .i64 gl)) = tm:=by rw [q0]; exact Tm.put_same e2
   rw [← q1]
   exact Eq.trans (by kernel_rfl) h
  ·exact loops_none (by kernel_rfl)
theorem aV.eqX (F:Nat) (gq:Nat→Nat→Int→Hp→OA) (gr:Nat→Nat→Int→Hp→OA) (gu:Nat→Nat→Int→Hp→OA) (gv:Nat→Nat→Int→Hp→OA) (cY:Nat→Nat→Int→Int→Int→Hp→OA) (aa:Nat) (ac:Nat) (H:Hp):aCode tabs (mkOrc (aV.cs F gq gr gu gv cY)) aV.pn (aV.lh F gq gr gu gv cY) F [] 1 aV.code (argTm [(.ptr aa ac)]) H (fun tm H=>aresults tabs.ty H tm Try.f109.results.toList fun v=>some (v,H)) (fun _ _ _=>none) (fun tm H=>aresults tabs.ty H tm Try.f109.results.toList fun v=>some (v,H)) = aV.twX F gq gr gu gv cY aa ac H:=by kernel_rfl
theorem aV.cs_ok (F:Nat):∀ p ∈ aV.cs F (aW.tw F) (aI.tw F) (bA.tw F) (cg.tw F) (cR.tw F),∀ args H v H',p.2 args H = some (v,H')→Go.AE.T Try.prog p.1 args H v H':=by
 intro p hp
 simp only [aV.cs,List.mem_cons,List.not_mem_nil,or_false] at hp
 rcases hp with rfl | rfl | rfl | rfl | rfl
 ·exact fun args H v H' h=>aW.mk_T h
 ·exact fun args H v H' h=>aI.mk_T h
 ·exact fun args H v H' h=>bA.mk_T h
 ·exact fun args H v H' h=>cg.mk_T h
 ·exact fun args H v H' h=>cR.mk_T h
theorem aV.ok:codeOk aV.pn Try.f109.ntmps aV.tb aV.code = true:=by kernel_rfl
theorem aV.T {F:Nat} {aa:Nat} {ac:Nat} {H:Hp} {v:AV} {H':Hp} (h:aV.tw F aa ac H = some (v,H')):Go.AE.T Try.prog 109 [(.ptr aa ac)] H v H':=
 Go.AE.T.of (Y:=tabs) (C:=mkOrc (aV.cs F (aW.tw F) (aI.tw F) (bA.tw F) (cg.tw F) (cR.tw F))) (PN:=aV.pn) (LH:=aV.lh F (aW.tw F) (aI.tw F) (bA.tw F) (cg.tw F) (cR.tw F)) (F:=F) (TB:=aV.tb) (fn:=Try.f109) (code:=aV.code) mixed tabs_ok (mkOrc_ok (aV.cs_ok F)) Try.func109 (by kernel_rfl) (by kernel_rfl) aV.ok (Nat.le_of_ble_eq_true (by kernel_rfl)) (aV.loops F (aW.tw F) (aI.tw F) (bA.tw F) (cg.tw F) (cR.tw F)) (Eq.trans (aV.eqX F (aW.tw F) (aI.tw F) (bA.tw F) (cg.tw F) (cR.tw F) aa ac H) h)
theorem aV.mk_T {F:Nat} {args:List AV} {H:Hp} {v:AV} {H':Hp} (h:aV.mk (aV.tw F) args H = some (v,H')):Go.AE.T Try.prog 109 args H v H':=by
 unfold aV.mk at h
 split at h
 ·exact aV.T h
 ·cases h
noncomputable def dI.twX (F:Nat) (l_:Int→Int→Sl→Hp→OA) (ma:Nat→Nat→Hp→OA) (aa:Int) (ac:Int) (ah:Sl) (H:Hp):OA:=(Hp.new H [(.int .i64 aa),(.int .i64 ac),(.sl ah)]).bind fun H4=>(Hp.new H4 [.int .i64 0,.int .i64 0,.sl ⟨none,0,.ex 0⟩,.int .i64 0,.int .i64 0,.sl ⟨none,0,.ex 0⟩,.int .i64 0,.int .i64 0,.sl ⟨none,0,.ex 0⟩,.int .i64 0,.int .i64 0,.sl ⟨none,0,.ex 0⟩,.int .i64 0,.int .i64 0,.sl ⟨none,0,.ex 0⟩]).bind fun H5=>(Hp.ldI H5 .i64 H.length 0).bind fun n6=>(Hp.ldI H5 .i64 H.length (0 + 1)).bind fun n7=>(Hp.ldSl H5 H.length (0 + 2)).bind fun s8=>(l_ n6 n7 s8 H5).bind fun r9=>((r9.1).asP).bind fun p10=>(ma p10.1 p10.2 r9.2).bind fun r11=>(Hp.ldB r11.2 p10.1 (p10.2 + 15)).bind fun b12=>(bif b12 then ((Hp.st r11.2 H4.length 0 (.int .i64 0)).bind fun H13=>(Hp.st H13 H4.length (0 + 1) (.int .i64 0)).bind fun H14=>(Hp.st H14 H4.length (0 + 1 + 1) (.sl (⟨none,0,.ex 0⟩:Sl))).bind fun H15=>(Hp.st H15 H4.length (0 + 1 + 1 + 1) (.int .i64 0)).bind fun H16=>(Hp.st H16 H4.length (0 + 1 + 1 + 1 + 1) (.int .i64 0)).bind fun H17=>(Hp.st H17 H4.length (0 + 1 + 1 + 1 + 1 + 1) (.sl (⟨none,0,.ex 0⟩:Sl))).bind fun H18=>(Hp.st H18 H4.length (0 + 1 + 1 + 1 + 1 + 1 + 1) (.int .i64 0)).bind fun H19=>(Hp.st H19 H4.length (0 + 1 + 1 + 1 + 1 + 1 + 1 + 1) (.int .i64 0)).bind fun H20=>(Hp.st H20 H4.length (0 + 1 + 1 + 1 + 1 + 1 + 1 + 1 + 1) (.sl (⟨none,0,.ex 0⟩:Sl))).bind fun H21=>(Hp.st H21 H4.length (0 + 1 + 1 + 1 + 1 + 1 + 1 + 1 + 1 + 1) (.int .i64 0)).bind fun H22=>(Hp.st H22 H4.length (0 + 1 + 1 + 1 + 1 + 1 + 1 + 1 + 1 + 1 + 1) (.int .i64 0)).bind fun H23=>(Hp.st H23 H4.length (0 + 1 + 1 + 1 + 1 + 1 + 1 + 1 + 1 + 1 + 1 + 1) (.sl (⟨none,0,.ex 0⟩:Sl))).bind fun H24=>(Hp.st H24 H4.length (0 + 1 + 1 + 1 + 1 + 1 + 1 + 1 + 1 + 1 + 1 + 1 + 1) (.int .i64 0)).bind fun H25=>(Hp.st H25 H4.length (0 + 1 + 1 + 1 + 1 + 1 + 1 + 1 + 1 + 1 + 1 + 1 + 1 + 1) (.int .i64 0)).bind fun H26=>(Hp.st H26 H4.length (0 + 1 + 1 + 1 + 1 + 1 + 1 + 1 + 1 + 1 + 1 + 1 + 1 + 1 + 1) (.sl (⟨none,0,.ex 0⟩:Sl))).bind fun H27=>(Hp.ldI H27 .i64 H4.length 0).bind fun n28=>(Hp.ldI H27 .i64 H4.length (0 + 1)).bind fun n29=>(Hp.ldSl H27 H4.length (0 + 2)).bind fun s30=>(Hp.ldI H27 .i64 H4.length (0 + 3)).bind fun n31=>(Hp.ldI H27 .i64 H4.length (0 + 4)).bind fun n32=>(Hp.ldSl H27 H4.length (0 + 5)).bind fun s33=>(Hp.ldI H27 .i64 H4.length (0 + 6)).bind fun n34=>(Hp.ldI H27 .i64 H4.length (0 + 7)).bind fun n35=>(Hp.ldSl H27 H4.length (0 + 8)).bind fun s36=>(Hp.ldI H27 .i64 H4.length (0 + 9)).bind fun n37=>(Hp.ldI H27 .i64 H4.length (0 + 10)).bind fun n38=>(Hp.ldSl H27 H4.length (0 + 11)).bind fun s39=>(Hp.ldI H27 .i64 H4.length (0 + 12)).bind fun n40=>(Hp.ldI H27 .i64 H4.length (0 + 13)).bind fun n41=>(Hp.ldSl H27 H4.length (0 + 14)).bind fun s42=>some ((.tup [(.agg [(.int .i64 n28),(.int .i64 n29),(.sl s30),(.int .i64 n31),(.int .i64 n32),(.sl s33),(.int .i64 n34),(.int .i64 n35),(.sl s36),(.int .i64 n37),(.int .i64 n38),(.sl s39),(.int .i64 n40),(.int .i64 n41),(.sl s42)]),(.int .i64 3)]),H27)) else ((Hp.ldI r11.2 .i64 p10.1 p10.2).bind fun n43=>(Hp.ldI r11.2 .i64 p10.1 (p10.2 + 1)).bind fun n44=>(Hp.ldSl r11.2 p10.1 (p10.2 + 2)).bind fun s45=>(Hp.ldI r11.2 .i64 p10.1 (p10.2 + 3)).bind fun n46=>(Hp.ldI r11.2 .i64 p10.1 (p10.2 + 4)).bind fun n47=>(Hp.ldSl r11.2 p10.1 (p10.2 + 5)).bind fun s48=>(Hp.ldI r11.2 .i64 p10.1 (p10.2 + 6)).bind fun n49=>(Hp.ldI r11.2 .i64 p10.1 (p10.2 + 7)).bind fun n50=>(Hp.ldSl r11.2 p10.1 (p10.2 + 8)).bind fun s51=>(Hp.ldI r11.2 .i64 p10.1 (p10.2 + 9)).bind fun n52=>(Hp.ldI r11.2 .i64 p10.1 (p10.2 + 10)).bind fun n53=>(Hp.ldSl r11.2 p10.1 (p10.2 + 11)).bind fun s54=>(Hp.ldI r11.2 .i64 p10.1 (p10.2 + 12)).bind fun n55=>(Hp.ldI r11.2 .i64 p10.1 (p10.2 + 13)).bind fun n56=>(Hp.ldSl r11.2 p10.1 (p10.2 + 14)).bind fun s57=>(Hp.st r11.2 H4.length 0 (.int .i64 n43)).bind fun H58=>(Hp.st H58 H4.length (0 + 1) (.int .i64 n44)).bind fun H59=>(Hp.st H59 H4.length (0 + 1 + 1) (.sl s45)).bind fun H60=>(Hp.st H60 H4.length (0 + 1 + 1 + 1) (.int .i64 n46)).bind fun H61=>(Hp.st H61 H4.length (0 + 1 + 1 + 1 + 1) (.int .i64 n47)).bind fun H62=>(Hp.st H62 H4.length (0 + 1 + 1 + 1 + 1 + 1) (.sl s48)).bind fun H63=>(Hp.st H63 H4.length (0 + 1 + 1 + 1 + 1 + 1 + 1) (.int .i64 n49)).bind fun H64=>(Hp.st H64 H4.length (0 + 1 + 1 + 1 + 1 + 1 + 1 + 1) (.int .i64 n50)).bind fun H65=>(Hp.st H65 H4.length (0 + 1 + 1 + 1 + 1 + 1 + 1 + 1 + 1) (.sl s51)).bind fun H66=>(Hp.st H66 H4.length (0 + 1 + 1 + 1 + 1 + 1 + 1 + 1 + 1 + 1) (.int .i64 n52)).bind fun H67=>(Hp.st H67 H4.length (0 + 1 + 1 + 1 + 1 + 1 + 1 + 1 + 1 + 1 + 1) (.int .i64 n53)).bind fun H68=>(Hp.st H68 H4.length (0 + 1 + 1 + 1 + 1 + 1 + 1 + 1 + 1 + 1 + 1 + 1) (.sl s54)).bind fun H69=>(Hp.st H69 H4.length (0 + 1 + 1 + 1 + 1 + 1 + 1 + 1 + 1 + 1 + 1 + 1 + 1) (.int .i64 n55)).bind fun H70=>(Hp.st H70 H4.length (0 + 1 + 1 + 1 + 1 + 1 + 1 + 1 + 1 + 1 + 1 + 1 + 1 + 1) (.int .i64 n56)).bind fun H71=>(Hp.st H71 H4.length (0 + 1 + 1 + 1 + 1 + 1 + 1 + 1 + 1 + 1 + 1 + 1 + 1 + 1 + 1) (.sl s57)).bind fun H72=>(Hp.ldI H72 .i64 H4.length 0).bind fun n73=>(Hp.ldI H72 .i64 H4.length (0 + 1)).bind fun n74=>(Hp.ldSl H72 H4.length (0 + 2)).bind fun s75=>(Hp.ldI H72 .i64 H4.length (0 + 3)).bind fun n76=>(Hp.ldI H72 .i64 H4.length (0 + 4)).bind fun n77=>(Hp.ldSl H72 H4.length (0 + 5)).bind fun s78=>(Hp.ldI H72 .i64 H4.length (0 + 6)).bind fun n79=>(Hp.ldI H72 .i64 H4.length (0 + 7)).bind fun n80=>(Hp.ldSl H72 H4.length (0 + 8)).bind fun s81=>(Hp.ldI H72 .i64 H4.length (0 + 9)).bind fun n82=>(Hp.ldI H72 .i64 H4.length (0 + 10)).bind fun n83=>(Hp.ldSl H72 H4.length (0 + 11)).bind fun s84=>(Hp.ldI H72 .i64 H4.length (0 + 12)).bind fun n85=>(Hp.ldI H72 .i64 H4.length (0 + 13)).bind fun n86=>(Hp.ldSl H72 H4.length (0 + 14)).bind fun s87=>some ((.tup [(.agg [(.int .i64 n73),(.int .i64 n74),(.sl s75),(.int .i64 n76),(.int .i64 n77),(.sl s78),(.int .i64 n79),(.int .i64 n80),(.sl s81),(.int .i64 n82),(.int .i64 n83),(.sl s84),(.int .i64 n85),(.int .i64 n86),(.sl s87)]),(.int .i64 0)]),H72)))
noncomputable def dI.tw (F:Nat) (aa:Int) (ac:Int) (ah:Sl) (H:Hp):OA:=dI.twX F (eD.tw F) (aV.tw F) aa ac ah H
noncomputable def dI.code:Go.Code:=(Try.f62.body).getD .skip
noncomputable def dI.lh (F:Nat) (l_:Int→Int→Sl→Hp→OA) (ma:Nat→Nat→Hp→OA) (p:Nat) (ks:List Nat) (n:Nat) (tm:Tm) (H:Hp):OA:=none
def dI.pn:Nat→List Nat:=fun i=>(([]:List (Nat×List Nat)).lookup i).getD []
def dI.tb:Nat→List (List Nat):=fun i=>(([]:List (Nat×List (List Nat))).lookup i).getD []
noncomputable def dI.mk (g:Int→Int→Sl→Hp→OA) (args:List AV) (H:Hp):OA:=match args with
 | [(.agg [(.int .i64 aa),(.int .i64 ac),(.sl ah)])]=>g aa ac ah H
 | _=>none
noncomputable def dI.cs (F:Nat) (l_:Int→Int→Sl→Hp→OA) (ma:Nat→Nat→Hp→OA):List (FuncId×(List AV→Hp→OA)):=[(108,eD.mk l_),(109,aV.mk ma)]
theorem dI.loops (F:Nat) (l_:Int→Int→Sl→Hp→OA) (ma:Nat→Nat→Hp→OA):LoopsOk tabs (mkOrc (dI.cs F l_ ma)) dI.pn (dI.lh F l_ ma) F [] 1 dI.code (fun tm H=>aresults tabs.ty H tm Try.f62.results.toList fun v=>some (v,H)) (fun _ _ _=>none) (fun tm H=>aresults tabs.ty H tm Try.f62.results.toList fun v=>some (v,H)):=by
 exact loops_none (by kernel_rfl)
theorem dI.eqX (F:Nat) (l_:Int→Int→Sl→Hp→OA) (ma:Nat→Nat→Hp→OA) (aa:Int) (ac:Int) (ah:Sl) (H:Hp):aCode tabs (mkOrc (dI.cs F l_ ma)) dI.pn (dI.lh F l_ ma) F [] 1 dI.code (argTm [(.agg [(.int .i64 aa),(.int .i64 ac),(.sl ah)])]) H (fun tm H=>aresults tabs.ty H tm Try.f62.results.toList fun v=>some (v,H)) (fun _ _ _=>none) (fun tm H=>aresults tabs.ty H tm Try.f62.results.toList fun v=>some (v,H)) = dI.twX F l_ ma aa ac ah H:=by kernel_rfl
theorem dI.cs_ok (F:Nat):∀ p ∈ dI.cs F (eD.tw F) (aV.tw F),∀ args H v H',p.2 args H = some (v,H')→Go.AE.T Try.prog p.1 args H v H':=by
 intro p hp
 simp only [dI.cs,List.mem_cons,List.not_mem_nil,or_false] at hp
 rcases hp with rfl | rfl
 ·exact fun args H v H' h=>eD.mk_T h
 ·exact fun args H v H' h=>aV.mk_T h
theorem dI.ok:codeOk dI.pn Try.f62.ntmps dI.tb dI.code = true:=by kernel_rfl
theorem dI.T {F:Nat} {aa:Int} {ac:Int} {ah:Sl} {H:Hp} {v:AV} {H':Hp} (h:dI.tw F aa ac ah H = some (v,H')):Go.AE.T Try.prog 62 [(.agg [(.int .i64 aa),(.int .i64 ac),(.sl ah)])] H v H':=
 Go.AE.T.of (Y:=tabs) (C:=mkOrc (dI.cs F (eD.tw F) (aV.tw F))) (PN:=dI.pn) (LH:=dI.lh F (eD.tw F) (aV.tw F)) (F:=F) (TB:=dI.tb) (fn:=Try.f62) (code:=dI.code) mixed tabs_ok (mkOrc_ok (dI.cs_ok F)) Try.func62 (by kernel_rfl) (by kernel_rfl) dI.ok (Nat.le_of_ble_eq_true (by kernel_rfl)) (dI.loops F (eD.tw F) (aV.tw F)) (Eq.trans (dI.eqX F (eD.tw F) (aV.tw F) aa ac ah H) h)
theorem dI.mk_T {F:Nat} {args:List AV} {H:Hp} {v:AV} {H':Hp} (h:dI.mk (dI.tw F) args H = some (v,H')):Go.AE.T Try.prog 62 args H v H':=by
 unfold dI.mk at h
 split at h
 ·exact dI.T h
 ·cases h
noncomputable def dF.twX (F:Nat) (mb:Int→Int→Sl→Hp→OA) (mc:Int→Int→Sl→Hp→OA) (aa:Int) (ac:Int) (ah:Sl) (H:Hp):OA:=(Hp.new H [(.int .i64 aa),(.int .i64 ac),(.sl ah)]).bind fun H4=>(Hp.new H4 [.int .i64 0,.int .i64 0,.sl ⟨none,0,.ex 0⟩,.int .i64 0,.int .i64 0,.sl ⟨none,0,.ex 0⟩,.int .i64 0,.int .i64 0,.sl ⟨none,0,.ex 0⟩,.int .i64 0,.int .i64 0,.sl ⟨none,0,.ex 0⟩,.int .i64 0,.int .i64 0,.sl ⟨none,0,.ex 0⟩]).bind fun H5=>(Hp.ldI H5 .i64 H.length 0).bind fun n6=>(Hp.ldI H5 .i64 H.length (0 + 1)).bind fun n7=>(Hp.ldSl H5 H.length (0 + 2)).bind fun s8=>(mb n6 n7 s8 H5).bind fun r9=>((r9.1).asB).bind fun b10=>(bif (!b10) then ((Hp.st r9.2 H4.length 0 (.int .i64 0)).bind fun H11=>(Hp.st H11 H4.length (0 + 1) (.int .i64 0)).bind fun H12=>(Hp.st H12 H4.length (0 + 1 + 1) (.sl (⟨none,0,.ex 0⟩:Sl))).bind fun H13=>(Hp.st H13 H4.length (0 + 1 + 1 + 1) (.int .i64 0)).bind fun H14=>(Hp.st H14 H4.length (0 + 1 + 1 + 1 + 1) (.int .i64 0)).bind fun H15=>(Hp.st H15 H4.length (0 + 1 + 1 + 1 + 1 + 1) (.sl (⟨none,0,.ex 0⟩:Sl))).bind fun H16=>(Hp.st H16 H4.length (0 + 1 + 1 + 1 + 1 + 1 + 1) (.int .i64 0)).bind fun H17=>(Hp.st H17 H4.length (0 + 1 + 1 + 1 + 1 + 1 + 1 + 1) (.int .i64 0)).bind fun H18=>(Hp.st H18 H4.length (0 + 1 + 1 + 1 + 1 + 1 + 1 + 1 + 1) (.sl (⟨none,0,.ex 0⟩:Sl))).bind fun H19=>(Hp.st H19 H4.length (0 + 1 + 1 + 1 + 1 + 1 + 1 + 1 + 1 + 1) (.int .i64 0)).bind fun H20=>(Hp.st H20 H4.length (0 + 1 + 1 + 1 + 1 + 1 + 1 + 1 + 1 + 1 + 1) (.int .i64 0)).bind fun H21=>(Hp.st H21 H4.length (0 + 1 + 1 + 1 + 1 + 1 + 1 + 1 + 1 + 1 + 1 + 1) (.sl (⟨none,0,.ex 0⟩:Sl))).bind fun H22=>(Hp.st H22 H4.length (0 + 1 + 1 + 1 + 1 + 1 + 1 + 1 + 1 + 1 + 1 + 1 + 1) (.int .i64 0)).bind fun H23=>(Hp.st H23 H4.length (0 + 1 + 1 + 1 + 1 + 1 + 1 + 1 + 1 + 1 + 1 + 1 + 1 + 1) (.int .i64 0)).bind fun H24=>(Hp.st H24 H4.length (0 + 1 + 1 + 1 + 1 + 1 + 1 + 1 + 1 + 1 + 1 + 1 + 1 + 1 + 1) (.sl (⟨none,0,.ex 0⟩:Sl))).bind fun H25=>(Hp.ldI H25 .i64 H4.length 0).bind fun n26=>(Hp.ldI H25 .i64 H4.length (0 + 1)).bind fun n27=>(Hp.ldSl H25 H4.length (0 + 2)).bind fun s28=>(Hp.ldI H25 .i64 H4.length (0 + 3)).bind fun n29=>(Hp.ldI H25 .i64 H4.length (0 + 4)).bind fun n30=>(Hp.ldSl H25 H4.length (0 + 5)).bind fun s31=>(Hp.ldI H25 .i64 H4.length (0 + 6)).bind fun n32=>(Hp.ldI H25 .i64 H4.length (0 + 7)).bind fun n33=>(Hp.ldSl H25 H4.length (0 + 8)).bind fun s34=>(Hp.ldI H25 .i64 H4.length (0 + 9)).bind fun n35=>(Hp.ldI H25 .i64 H4.length (0 + 10)).bind fun n36=>(Hp.ldSl H25 H4.length (0 + 11)).bind fun s37=>(Hp.ldI H25 .i64 H4.length (0 + 12)).bind fun n38=>(Hp.ldI H25 .i64 H4.length (0 + 13)).bind fun n39=>(Hp.ldSl H25 H4.length (0 + 14)).bind fun s40=>some ((.tup [(.agg [(.int .i64 n26),(.int .i64 n27),(.sl s28),(.int .i64 n29),(.int .i64 n30),(.sl s31),(.int .i64 n32),(.int .i64 n33),(.sl s34),(.int .i64 n35),(.int .i64 n36),(.sl s37),(.int .i64 n38),(.int .i64 n39),(.sl s40)]),(.int .i64 1)]),H25)) else ((Hp.ldI r9.2 .i64 H.length 0).bind fun n41=>(Hp.ldI r9.2 .i64 H.length (0 + 1)).bind fun n42=>(Hp.ldSl r9.2 H.length (0 + 2)).bind fun s43=>(mc n41 n42 s43 r9.2).bind fun r44=>((r44.1).asTup 2).bind fun l45=>(l45[0]?).bind fun v46=>((v46).asAgg 15).bind fun l47=>(l47[0]?).bind fun v48=>((v48).asI .i64).bind fun n49=>(l47[1]?).bind fun v50=>((v50).asI .i64).bind fun n51=>(l47[2]?).bind fun v52=>((v52).asSl).bind fun s53=>(l47[3]?).bind fun v54=>((v54).asI .i64).bind fun n55=>(l47[4]?).bind fun v56=>((v56).asI .i64).bind fun n57=>(l47[5]?).bind fun v58=>((v58).asSl).bind fun s59=>(l47[6]?).bind fun v60=>((v60).asI .i64).bind fun n61=>(l47[7]?).bind fun v62=>((v62).asI .i64).bind fun n63=>(l47[8]?).bind fun v64=>((v64).asSl).bind fun s65=>(l47[9]?).bind fun v66=>((v66).asI .i64).bind fun n67=>(l47[10]?).bind fun v68=>((v68).asI .i64).bind fun n69=>(l47[11]?).bind fun v70=>((v70).asSl).bind fun s71=>(l47[12]?).bind fun v72=>((v72).asI .i64).bind fun n73=>(l47[13]?).bind fun v74=>((v74).asI .i64).bind fun n75=>(l47[14]?).bind fun v76=>((v76).asSl).bind fun s77=>(l45[1]?).bind fun v78=>((v78).asI .i64).bind fun n79=>(Hp.st r44.2 H4.length 0 (.int .i64 n49)).bind fun H80=>(Hp.st H80 H4.length (0 + 1) (.int .i64 n51)).bind fun H81=>(Hp.st H81 H4.length (0 + 1 + 1) (.sl s53)).bind fun H82=>(Hp.st H82 H4.length (0 + 1 + 1 + 1) (.int .i64 n55)).bind fun H83=>(Hp.st H83 H4.length (0 + 1 + 1 + 1 + 1) (.int .i64 n57)).bind fun H84=>(Hp.st H84 H4.length (0 + 1 + 1 + 1 + 1 + 1) (.sl s59)).bind fun H85=>(Hp.st H85 H4.length (0 + 1 + 1 + 1 + 1 + 1 + 1) (.int .i64 n61)).bind fun H86=>(Hp.st H86 H4.length (0 + 1 + 1 + 1 + 1 + 1 + 1 + 1) (.int .i64 n63)).bind fun H87=>(Hp.st H87 H4.length (0 + 1 + 1 + 1 + 1 + 1 + 1 + 1 + 1) (.sl s65)).bind fun H88=>(Hp.st H88 H4.length (0 + 1 + 1 + 1 + 1 + 1 + 1 + 1 + 1 + 1) (.int .i64 n67)).bind fun H89=>(Hp.st H89 H4.length (0 + 1 + 1 + 1 + 1 + 1 + 1 + 1 + 1 + 1 + 1) (.int .i64 n69)).bind fun H90=>(Hp.st H90 H4.length (0 + 1 + 1 + 1 + 1 + 1 + 1 + 1 + 1 + 1 + 1 + 1) (.sl s71)).bind fun H91=>(Hp.st H91 H4.length (0 + 1 + 1 + 1 + 1 + 1 + 1 + 1 + 1 + 1 + 1 + 1 + 1) (.int .i64 n73)).bind fun H92=>(Hp.st H92 H4.length (0 + 1 + 1 + 1 + 1 + 1 + 1 + 1 + 1 + 1 + 1 + 1 + 1 + 1) (.int .i64 n75)).bind fun H93=>(Hp.st H93 H4.length (0 + 1 + 1 + 1 + 1 + 1 + 1 + 1 + 1 + 1 + 1 + 1 + 1 + 1 + 1) (.sl s77)).bind fun H94=>(Hp.ldI H94 .i64 H4.length 0).bind fun n95=>(Hp.ldI H94 .i64 H4.length (0 + 1)).bind fun n96=>(Hp.ldSl H94 H4.length (0 + 2)).bind fun s97=>(Hp.ldI H94 .i64 H4.length (0 + 3)).bind fun n98=>(Hp.ldI H94 .i64 H4.length (0 + 4)).bind fun n99=>(Hp.ldSl H94 H4.length (0 + 5)).bind fun s100=>(Hp.ldI H94 .i64 H4.length (0 + 6)).bind fun n101=>(Hp.ldI H94 .i64 H4.length (0 + 7)).bind fun n102=>(Hp.ldSl H94 H4.length (0 + 8)).bind fun s103=>(Hp.ldI H94 .i64 H4.length (0 + 9)).bind fun n104=>(Hp.ldI H94 .i64 H4.length (0 + 10)).bind fun n105=>(Hp.ldSl H94 H4.length (0 + 11)).bind fun s106=>(Hp.ldI H94 .i64 H4.length (0 + 12)).bind fun n107=>(Hp.ldI H94 .i64 H4.length (0 + 13)).bind fun n108=>(Hp.ldSl H94 H4.length (0 + 14)).bind fun s109=>some ((.tup [(.agg [(.int .i64 n95),(.int .i64 n96),(.sl s97),(.int .i64 n98),(.int .i64 n99),(.sl s100),(.int .i64 n101),(.int .i64 n102),(.sl s103),(.int .i64 n104),(.int .i64 n105),(.sl s106),(.int .i64 n107),(.int .i64 n108),(.sl s109)]),(.int .i64 n79)]),H94)))
noncomputable def dF.tw (F:Nat) (aa:Int) (ac:Int) (ah:Sl) (H:Hp):OA:=dF.twX F (dN.tw F) (dI.tw F) aa ac ah H
noncomputable def dF.code:Go.Code:=(Try.f16.body).getD .skip
noncomputable def dF.lh (F:Nat) (mb:Int→Int→Sl→Hp→OA) (mc:Int→Int→Sl→Hp→OA) (p:Nat) (ks:List Nat) (n:Nat) (tm:Tm) (H:Hp):OA:=none
def dF.pn:Nat→List Nat:=fun i=>(([]:List (Nat×List Nat)).lookup i).getD []
def dF.tb:Nat→List (List Nat):=fun i=>(([]:List (Nat×List (List Nat))).lookup i).getD []
noncomputable def dF.mk (g:Int→Int→Sl→Hp→OA) (args:List AV) (H:Hp):OA:=match args with
 | [(.agg [(.int .i64 aa),(.int .i64 ac),(.sl ah)])]=>g aa ac ah H
 | _=>none
noncomputable def dF.cs (F:Nat) (mb:Int→Int→Sl→Hp→OA) (mc:Int→Int→Sl→Hp→OA):List (FuncId×(List AV→Hp→OA)):=[(61,dN.mk mb),(62,dI.mk mc)]
theorem dF.loops (F:Nat) (mb:Int→Int→Sl→Hp→OA) (mc:Int→Int→Sl→Hp→OA):LoopsOk tabs (mkOrc (dF.cs F mb mc)) dF.pn (dF.lh F mb mc) F [] 1 dF.code (fun tm H=>aresults tabs.ty H tm Try.f16.results.toList fun v=>some (v,H)) (fun _ _ _=>none) (fun tm H=>aresults tabs.ty H tm Try.f16.results.toList fun v=>some (v,H)):=by
 exact loops_none (by kernel_rfl)
theorem dF.eqX (F:Nat) (mb:Int→Int→Sl→Hp→OA) (mc:Int→Int→Sl→Hp→OA) (aa:Int) (ac:Int) (ah:Sl) (H:Hp):aCode tabs (mkOrc (dF.cs F mb mc)) dF.pn (dF.lh F mb mc) F [] 1 dF.code (argTm [(.agg [(.int .i64 aa),(.int .i64 ac),(.sl ah)])]) H (fun tm H=>aresults tabs.ty H tm Try.f16.results.toList fun v=>some (v,H)) (fun _ _ _=>none) (fun tm H=>aresults tabs.ty H tm Try.f16.results.toList fun v=>some (v,H)) = dF.twX F mb mc aa ac ah H:=by kernel_rfl
theorem dF.cs_ok (F:Nat):∀ p ∈ dF.cs F (dN.tw F) (dI.tw F),∀ args H v H',p.2 args H = some (v,H')→Go.AE.T Try.prog p.1 args H v H':=by
 intro p hp
 simp only [dF.cs,List.mem_cons,List.not_mem_nil,or_false] at hp
 rcases hp with rfl | rfl
 ·exact fun args H v H' h=>dN.mk_T h
 ·exact fun args H v H' h=>dI.mk_T h
theorem dF.ok:codeOk dF.pn Try.f16.ntmps dF.tb dF.code = true:=by kernel_rfl
theorem dF.T {F:Nat} {aa:Int} {ac:Int} {ah:Sl} {H:Hp} {v:AV} {H':Hp} (h:dF.tw F aa ac ah H = some (v,H')):Go.AE.T Try.prog 16 [(.agg [(.int .i64 aa),(.int .i64 ac),(.sl ah)])] H v H':=
 Go.AE.T.of (Y:=tabs) (C:=mkOrc (dF.cs F (dN.tw F) (dI.tw F))) (PN:=dF.pn) (LH:=dF.lh F (dN.tw F) (dI.tw F)) (F:=F) (TB:=dF.tb) (fn:=Try.f16) (code:=dF.code) mixed tabs_ok (mkOrc_ok (dF.cs_ok F)) Try.func16 (by kernel_rfl) (by kernel_rfl) dF.ok (Nat.le_of_ble_eq_true (by kernel_rfl)) (dF.loops F (dN.tw F) (dI.tw F)) (Eq.trans (dF.eqX F (dN.tw F) (dI.tw F) aa ac ah H) h)
theorem dF.mk_T {F:Nat} {args:List AV} {H:Hp} {v:AV} {H':Hp} (h:dF.mk (dF.tw F) args H = some (v,H')):Go.AE.T Try.prog 16 args H v H':=by
 unfold dF.mk at h
 split at h
 ·exact dF.T h
 ·cases h
noncomputable def cv.l29 (F:Nat) :Nat→Sl→Sl→Int→Hp→OA
 | 0,_,_,_,_=>none
 | eP + 1,cX,es,ja,H8=>(bif (decide (ja < (cX.n:Int))) then ((Sl.idx cX ja 1).bind fun p13=>(Hp.ldI H8 .i64 p13.1 p13.2).bind fun n14=>(Sl.idx es ja 1).bind fun p15=>(Hp.ldI H8 .i64 p15.1 p15.2).bind fun n16=>(bif (n14 != n16) then (some ((.bool false),H8)) else (cv.l29 F eP cX es (IntKind.i64.wrap (ja + 1)) H8))) else (some ((.bool true),H8)))
termination_by structural n=>n
noncomputable def cv.twX (F:Nat) (aa:Sl) (ag:Sl) (H:Hp):OA:=(bif ((aa.n:Int) != (ag.n:Int)) then (some ((.bool false),H)) else (cv.l29 F F aa ag 0 H))
noncomputable def cv.tw (F:Nat) (aa:Sl) (ag:Sl) (H:Hp):OA:=cv.twX F aa ag H
noncomputable def cv.code:Go.Code:=(Try.f29.body).getD .skip
noncomputable def cv.lh29 (F:Nat) (ks:List Nat) (n:Nat) (tm:Tm) (H:Hp):OA:=match ks,tm 0,tm 1,tm 5 with
 | [],(.sl cX),(.sl es),(.int .i64 ja)=>cv.l29 F n cX es ja H
 | _,_,_,_=>none
theorem cv.lh29_inv {F:Nat} {ks:List Nat} {n:Nat} {tm:Tm} {H:Hp} {r:AV×Hp} (h:cv.lh29 F ks n tm H = some r):∃ cX:Sl,∃ es:Sl,∃ ja:Int,ks = []∧tm 0 = (.sl cX)∧tm 1 = (.sl es)∧tm 5 = (.int .i64 ja)∧cv.l29 F n cX es ja H = some r:=by
 unfold cv.lh29 at h
 split at h
 ·exact ⟨_,_,_,rfl,by assumption,by assumption,by assumption,h⟩
 ·cases h
noncomputable def cv.lh (F:Nat) (p:Nat) (ks:List Nat) (n:Nat) (tm:Tm) (H:Hp):OA:=bif p.beq 29 then cv.lh29 F ks n tm H else (none)
def cv.pn:Nat→List Nat:=fun i=>(([(6,[])]:List (Nat×List Nat)).lookup i).getD []
def cv.tb:Nat→List (List Nat):=fun i=>(([(6,[[],[],[0,1],[0,1,2],[],[],[4,5],[4,5,6],[0,1,2,3,4,5,6,7]])]:List (Nat×List (List Nat))).lookup i).getD []
noncomputable def cv.mk (g:Sl→Sl→Hp→OA) (args:List AV) (H:Hp):OA:=match args with
 | [(.sl aa),(.sl ag)]=>g aa ag H
 | _=>none
noncomputable def cv.cs (F:Nat):List (FuncId×(List AV→Hp→OA)):=[]
theorem cv.loops (F:Nat):LoopsOk tabs (mkOrc (cv.cs F)) cv.pn (cv.lh F) F [] 1 cv.code (fun tm H=>aresults tabs.ty H tm Try.f29.results.toList fun v=>some (v,H)) (fun _ _ _=>none) (fun tm H=>aresults tabs.ty H tm Try.f29.results.toList fun v=>some (v,H)):=by
 refine LoopsOk.seq ?_ ?_
 ·exact loops_none (by kernel_rfl)
 ·refine LoopsOk.seq ?_ ?_
  ·exact loops_none (by kernel_rfl)
  ·refine LoopsOk.seq ?_ ?_
   ·refine LoopsOk.seq ?_ ?_
    ·exact loops_none (by kernel_rfl)
    ·refine LoopsOk.block ?_
     refine LoopsOk.loop (fun tm H=>?_) (fun k29 tm H r h0=>?_) (fun k29=>?_)
     ·refine none_of fun r h0=>?_
      obtain ⟨cX,es,ja,hks,e0,e1,e5,h⟩:=cv.lh29_inv (show cv.lh29 F [] 0 tm H = some r from h0)
      cases h
     ·obtain ⟨cX,es,ja,hks,e0,e1,e5,h⟩:=cv.lh29_inv (show cv.lh29 F [] (k29 + 1) tm H = some r from h0)
      have q0:(Tm.put tm 0 (.sl cX)) = tm:=by exact Tm.put_same e0
      have q1:(Tm.put (Tm.put tm 0 (.sl cX)) 1 (.sl es)) = tm:=by rw [q0]; exact Tm.put_same e1
      have q2:(Tm.put (Tm.put (Tm.put tm 0 (.sl cX)) 1 (.sl es)) 5 (.int .i64 ja)) = tm:=by rw [q1]; exact Tm.put_same e5
      rw [← q2]
      exact Eq.trans (by kernel_rfl) h
     ·exact loops_none (by kernel_rfl)
   ·exact loops_none (by kernel_rfl)
theorem cv.eqX (F:Nat) (aa:Sl) (ag:Sl) (H:Hp):aCode tabs (mkOrc (cv.cs F)) cv.pn (cv.lh F) F [] 1 cv.code (argTm [(.sl aa),(.sl ag)]) H (fun tm H=>aresults tabs.ty H tm Try.f29.results.toList fun v=>some (v,H)) (fun _ _ _=>none) (fun tm H=>aresults tabs.ty H tm Try.f29.results.toList fun v=>some (v,H)) = cv.twX F aa ag H:=by kernel_rfl
theorem cv.cs_ok (F:Nat):∀ p ∈ cv.cs F,∀ args H v H',p.2 args H = some (v,H')→Go.AE.T Try.prog p.1 args H v H':=by
 intro p hp
 exact absurd (show p ∈ [] from hp) List.not_mem_nil
theorem cv.ok:codeOk cv.pn Try.f29.ntmps cv.tb cv.code = true:=by kernel_rfl
theorem cv.T {F:Nat} {aa:Sl} {ag:Sl} {H:Hp} {v:AV} {H':Hp} (h:cv.tw F aa ag H = some (v,H')):Go.AE.T Try.prog 29 [(.sl aa),(.sl ag)] H v H':=
 Go.AE.T.of (Y:=tabs) (C:=mkOrc (cv.cs F)) (PN:=cv.pn) (LH:=cv.lh F) (F:=F) (TB:=cv.tb) (fn:=Try.f29) (code:=cv.code) mixed tabs_ok (mkOrc_ok (cv.cs_ok F)) Try.func29 (by kernel_rfl) (by kernel_rfl) cv.ok (Nat.le_of_ble_eq_true (by kernel_rfl)) (cv.loops F) (Eq.trans (cv.eqX F aa ag H) h)
theorem cv.mk_T {F:Nat} {args:List AV} {H:Hp} {v:AV} {H':Hp} (h:cv.mk (cv.tw F) args H = some (v,H')):Go.AE.T Try.prog 29 args H v H':=by
 unfold cv.mk at h
 split at h
 ·exact cv.T h
 ·cases h
noncomputable def cT.twX (F:Nat) (md:Sl→Sl→Hp→OA) (aa:Int) (ac:Int) (ah:Sl) (af:Int) (bt:Int) (lq:Sl) (H:Hp):OA:=(Hp.new H [(.int .i64 aa),(.int .i64 ac),(.sl ah)]).bind fun H7=>(Hp.new H7 [(.int .i64 af),(.int .i64 bt),(.sl lq)]).bind fun H8=>(Hp.ldI H8 .i64 H.length 0).bind fun n9=>(Hp.ldI H8 .i64 H7.length 0).bind fun n10=>(bif (n9 != n10) then (some ((.bool false),H8)) else ((Hp.ldI H8 .i64 H.length 1).bind fun n11=>(Hp.ldI H8 .i64 H7.length 1).bind fun n12=>(bif (n11 != n12) then (some ((.bool false),H8)) else ((Hp.ldSl H8 H.length 2).bind fun s13=>(Hp.ldSl H8 H7.length 2).bind fun s14=>(md s13 s14 H8).bind fun r15=>((r15.1).asB).bind fun b16=>(bif (!b16) then (some ((.bool false),r15.2)) else (some ((.bool true),r15.2)))))))
noncomputable def cT.tw (F:Nat) (aa:Int) (ac:Int) (ah:Sl) (af:Int) (bt:Int) (lq:Sl) (H:Hp):OA:=cT.twX F (cv.tw F) aa ac ah af bt lq H
noncomputable def cT.code:Go.Code:=(Try.f27.body).getD .skip
noncomputable def cT.lh (F:Nat) (md:Sl→Sl→Hp→OA) (p:Nat) (ks:List Nat) (n:Nat) (tm:Tm) (H:Hp):OA:=none
def cT.pn:Nat→List Nat:=fun i=>(([]:List (Nat×List Nat)).lookup i).getD []
def cT.tb:Nat→List (List Nat):=fun i=>(([]:List (Nat×List (List Nat))).lookup i).getD []
noncomputable def cT.mk (g:Int→Int→Sl→Int→Int→Sl→Hp→OA) (args:List AV) (H:Hp):OA:=match args with
 | [(.agg [(.int .i64 aa),(.int .i64 ac),(.sl ah)]),(.agg [(.int .i64 af),(.int .i64 bt),(.sl lq)])]=>g aa ac ah af bt lq H
 | _=>none
noncomputable def cT.cs (F:Nat) (md:Sl→Sl→Hp→OA):List (FuncId×(List AV→Hp→OA)):=[(29,cv.mk md)]
theorem cT.loops (F:Nat) (md:Sl→Sl→Hp→OA):LoopsOk tabs (mkOrc (cT.cs F md)) cT.pn (cT.lh F md) F [] 1 cT.code (fun tm H=>aresults tabs.ty H tm Try.f27.results.toList fun v=>some (v,H)) (fun _ _ _=>none) (fun tm H=>aresults tabs.ty H tm Try.f27.results.toList fun v=>some (v,H)):=by
 exact loops_none (by kernel_rfl)
theorem cT.eqX (F:Nat) (md:Sl→Sl→Hp→OA) (aa:Int) (ac:Int) (ah:Sl) (af:Int) (bt:Int) (lq:Sl) (H:Hp):aCode tabs (mkOrc (cT.cs F md)) cT.pn (cT.lh F md) F [] 1 cT.code (argTm [(.agg [(.int .i64 aa),(.int .i64 ac),(.sl ah)]),(.agg [(.int .i64 af),(.int .i64 bt),(.sl lq)])]) H (fun tm H=>aresults tabs.ty H tm Try.f27.results.toList fun v=>some (v,H)) (fun _ _ _=>none) (fun tm H=>aresults tabs.ty H tm Try.f27.results.toList fun v=>some (v,H)) = cT.twX F md aa ac ah af bt lq H:=by kernel_rfl
theorem cT.cs_ok (F:Nat):∀ p ∈ cT.cs F (cv.tw F),∀ args H v H',p.2 args H = some (v,H')→Go.AE.T Try.prog p.1 args H v H':=by
 intro p hp
 simp only [cT.cs,List.mem_cons,List.not_mem_nil,or_false] at hp
 subst hp
 exact fun args H v H' h=>cv.mk_T h
theorem cT.ok:codeOk cT.pn Try.f27.ntmps cT.tb cT.code = true:=by kernel_rfl
theorem cT.T {F:Nat} {aa:Int} {ac:Int} {ah:Sl} {af:Int} {bt:Int} {lq:Sl} {H:Hp} {v:AV} {H':Hp} (h:cT.tw F aa ac ah af bt lq H = some (v,H')):Go.AE.T Try.prog 27 [(.agg [(.int .i64 aa),(.int .i64 ac),(.sl ah)]),(.agg [(.int .i64 af),(.int .i64 bt),(.sl lq)])] H v H':=
 Go.AE.T.of (Y:=tabs) (C:=mkOrc (cT.cs F (cv.tw F))) (PN:=cT.pn) (LH:=cT.lh F (cv.tw F)) (F:=F) (TB:=cT.tb) (fn:=Try.f27) (code:=cT.code) mixed tabs_ok (mkOrc_ok (cT.cs_ok F)) Try.func27 (by kernel_rfl) (by kernel_rfl) cT.ok (Nat.le_of_ble_eq_true (by kernel_rfl)) (cT.loops F (cv.tw F)) (Eq.trans (cT.eqX F (cv.tw F) aa ac ah af bt lq H) h)
theorem cT.mk_T {F:Nat} {args:List AV} {H:Hp} {v:AV} {H':Hp} (h:cT.mk (cT.tw F) args H = some (v,H')):Go.AE.T Try.prog 27 args H v H':=by
 unfold cT.mk at h
 split at h
 ·exact cT.T h
 ·cases h
noncomputable def dD.twX (F:Nat) (gR:Int→Int→Sl→Int→Int→Sl→Hp→OA) (aa:Int) (ac:Int) (ah:Sl) (eS:Int) (eT:Int) (f_:Sl) (eU:Int) (eV:Int) (ga:Sl) (eW:Int) (eX:Int) (gb:Sl) (eY:Int) (eZ:Int) (gc:Sl) (eE:Int) (ke:Int) (lr:Sl) (kf:Int) (kg:Int) (ls:Sl) (kh:Int) (ki:Int) (lu:Sl) (kj:Int) (kl:Int) (lv:Sl) (km:Int) (kn:Int) (lw:Sl) (H:Hp):OA:=(Hp.new H [(.int .i64 aa),(.int .i64 ac),(.sl ah),(.int .i64 eS),(.int .i64 eT),(.sl f_),(.int .i64 eU),(.int .i64 eV),(.sl ga),(.int .i64 eW),(.int .i64 eX),(.sl gb),(.int .i64 eY),(.int .i64 eZ),(.sl gc)]).bind fun H31=>(Hp.new H31 [(.int .i64 eE),(.int .i64 ke),(.sl lr),(.int .i64 kf),(.int .i64 kg),(.sl ls),(.int .i64 kh),(.int .i64 ki),(.sl lu),(.int .i64 kj),(.int .i64 kl),(.sl lv),(.int .i64 km),(.int .i64 kn),(.sl lw)]).bind fun H32=>(Hp.ldI H32 .i64 H.length 0).bind fun n33=>(Hp.ldI H32 .i64 H.length (0 + 1)).bind fun n34=>(Hp.ldSl H32 H.length (0 + 2)).bind fun s35=>(Hp.ldI H32 .i64 H31.length 0).bind fun n36=>(Hp.ldI H32 .i64 H31.length (0 + 1)).bind fun n37=>(Hp.ldSl H32 H31.length (0 + 2)).bind fun s38=>(gR n33 n34 s35 n36 n37 s38 H32).bind fun r39=>((r39.1).asB).bind fun b40=>(bif (!b40) then (some ((.bool false),r39.2)) else ((Hp.ldI r39.2 .i64 H.length 3).bind fun n41=>(Hp.ldI r39.2 .i64 H.length (3 + 1)).bind fun n42=>(Hp.ldSl r39.2 H.length (3 + 2)).bind fun s43=>(Hp.ldI r39.2 .i64 H31.length 3).bind fun n44=>(Hp.ldI r39.2 .i64 H31.length (3 + 1)).bind fun n45=>(Hp.ldSl r39.2 H31.length (3 + 2)).bind fun s46=>(gR n41 n42 s43 n44 n45 s46 r39.2).bind fun r47=>((r47.1).asB).bind fun b48=>(bif (!b48) then (some ((.bool false),r47.2)) else ((Hp.ldI r47.2 .i64 H.length 6).bind fun n49=>(Hp.ldI r47.2 .i64 H.length (6 + 1)).bind fun n50=>(Hp.ldSl r47.2 H.length (6 + 2)).bind fun s51=>(Hp.ldI r47.2 .i64 H31.length 6).bind fun n52=>(Hp.ldI r47.2 .i64 H31.length (6 + 1)).bind fun n53=>(Hp.ldSl r47.2 H31.length (6 + 2)).bind fun s54=>(gR n49 n50 s51 n52 n53 s54 r47.2).bind fun r55=>((r55.1).asB).bind fun b56=>(bif (!b56) then (some ((.bool false),r55.2)) else ((Hp.ldI r55.2 .i64 H.length 9).bind fun n57=>(Hp.ldI r55.2 .i64 H.length (9 + 1)).bind fun n58=>(Hp.ldSl r55.2 H.length (9 + 2)).bind fun s59=>(Hp.ldI r55.2 .i64 H31.length 9).bind fun n60=>(Hp.ldI r55.2 .i64 H31.length (9 + 1)).bind fun n61=>(Hp.ldSl r55.2 H31.length (9 + 2)).bind fun s62=>(gR n57 n58 s59 n60 n61 s62 r55.2).bind fun r63=>((r63.1).asB).bind fun b64=>(bif (!b64) then (some ((.bool false),r63.2)) else ((Hp.ldI r63.2 .i64 H.length 12).bind fun n65=>(Hp.ldI r63.2 .i64 H.length (12 + 1)).bind fun n66=>(Hp.ldSl r63.2 H.length (12 + 2)).bind fun s67=>(Hp.ldI r63.2 .i64 H31.length 12).bind fun n68=>(Hp.ldI r63.2 .i64 H31.length (12 + 1)).bind fun n69=>(Hp.ldSl r63.2 H31.length (12 + 2)).bind fun s70=>(gR n65 n66 s67 n68 n69 s70 r63.2).bind fun r71=>((r71.1).asB).bind fun b72=>(bif (!b72) then (some ((.bool false),r71.2)) else (some ((.bool true),r71.2)))))))))))
noncomputable def dD.tw (F:Nat) (aa:Int) (ac:Int) (ah:Sl) (eS:Int) (eT:Int) (f_:Sl) (eU:Int) (eV:Int) (ga:Sl) (eW:Int) (eX:Int) (gb:Sl) (eY:Int) (eZ:Int) (gc:Sl) (eE:Int) (ke:Int) (lr:Sl) (kf:Int) (kg:Int) (ls:Sl) (kh:Int) (ki:Int) (lu:Sl) (kj:Int) (kl:Int) (lv:Sl) (km:Int) (kn:Int) (lw:Sl) (H:Hp):OA:=dD.twX F (cT.tw F) aa ac ah eS eT f_ eU eV ga eW eX gb eY eZ gc eE ke lr kf kg ls kh ki lu kj kl lv km kn lw H
noncomputable def dD.code:Go.Code:=(Try.f34.body).getD .skip
noncomputable def dD.lh (F:Nat) (gR:Int→Int→Sl→Int→Int→Sl→Hp→OA) (p:Nat) (ks:List Nat) (n:Nat) (tm:Tm) (H:Hp):OA:=none
def dD.pn:Nat→List Nat:=fun i=>(([]:List (Nat×List Nat)).lookup i).getD []
def dD.tb:Nat→List (List Nat):=fun i=>(([]:List (Nat×List (List Nat))).lookup i).getD []
noncomputable def dD.mk (g:Int→Int→Sl→Int→Int→Sl→Int→Int→Sl→Int→Int→Sl→Int→Int→Sl→Int→Int→Sl→Int→Int→Sl→Int→Int→Sl→Int→Int→Sl→Int→Int→Sl→Hp→OA) (args:List AV) (H:Hp):OA:=match args with
 | [(.agg [(.int .i64 aa),(.int .i64 ac),(.sl ah),(.int .i64 eS),(.int .i64 eT),(.sl f_),(.int .i64 eU),(.int .i64 eV),(.sl ga),(.int .i64 eW),(.int .i64 eX),(.sl gb),(.int .i64 eY),(.int .i64 eZ),(.sl gc)]),(.agg [(.int .i64 eE),(.int .i64 ke),(.sl lr),(.int .i64 kf),(.int .i64 kg),(.sl ls),(.int .i64 kh),(.int .i64 ki),(.sl lu),(.int .i64 kj),(.int .i64 kl),(.sl lv),(.int .i64 km),(.int .i64 kn),(.sl lw)])]=>g aa ac ah eS eT f_ eU eV ga eW eX gb eY eZ gc eE ke lr kf kg ls kh ki lu kj kl lv km kn lw H
 | _=>none
noncomputable def dD.cs (F:Nat) (gR:Int→Int→Sl→Int→Int→Sl→Hp→OA):List (FuncId×(List AV→Hp→OA)):=[(27,cT.mk gR)]
theorem dD.loops (F:Nat) (gR:Int→Int→Sl→Int→Int→Sl→Hp→OA):LoopsOk tabs (mkOrc (dD.cs F gR)) dD.pn (dD.lh F gR) F [] 1 dD.code (fun tm H=>aresults tabs.ty H tm Try.f34.results.toList fun v=>some (v,H)) (fun _ _ _=>none) (fun tm H=>aresults tabs.ty H tm Try.f34.results.toList fun v=>some (v,H)):=by
 exact loops_none (by kernel_rfl)
theorem dD.eqX (F:Nat) (gR:Int→Int→Sl→Int→Int→Sl→Hp→OA) (aa:Int) (ac:Int) (ah:Sl) (eS:Int) (eT:Int) (f_:Sl) (eU:Int) (eV:Int) (ga:Sl) (eW:Int) (eX:Int) (gb:Sl) (eY:Int) (eZ:Int) (gc:Sl) (eE:Int) (ke:Int) (lr:Sl) (kf:Int) (kg:Int) (ls:Sl) (kh:Int) (ki:Int) (lu:Sl) (kj:Int) (kl:Int) (lv:Sl) (km:Int) (kn:Int) (lw:Sl) (H:Hp):aCode tabs (mkOrc (dD.cs F gR)) dD.pn (dD.lh F gR) F [] 1 dD.code (argTm [(.agg [(.int .i64 aa),(.int .i64 ac),(.sl ah),(.int .i64 eS),(.int .i64 eT),(.sl f_),(.int .i64 eU),(.int .i64 eV),(.sl ga),(.int .i64 eW),(.int .i64 eX),(.sl gb),(.int .i64 eY),(.int .i64 eZ),(.sl gc)]),(.agg [(.int .i64 eE),(.int .i64 ke),(.sl lr),(.int .i64 kf),(.int .i64 kg),(.sl ls),(.int .i64 kh),(.int .i64 ki),(.sl lu),(.int .i64 kj),(.int .i64 kl),(.sl lv),(.int .i64 km),(.int .i64 kn),(.sl lw)])]) H (fun tm H=>aresults tabs.ty H tm Try.f34.results.toList fun v=>some (v,H)) (fun _ _ _=>none) (fun tm H=>aresults tabs.ty H tm Try.f34.results.toList fun v=>some (v,H)) = dD.twX F gR aa ac ah eS eT f_ eU eV ga eW eX gb eY eZ gc eE ke lr kf kg ls kh ki lu kj kl lv km kn lw H:=by kernel_rfl
theorem dD.cs_ok (F:Nat):∀ p ∈ dD.cs F (cT.tw F),∀ args H v H',p.2 args H = some (v,H')→Go.AE.T Try.prog p.1 args H v H':=by
 intro p hp
 simp only [dD.cs,List.mem_cons,List.not_mem_nil,or_false] at hp
 subst hp
 exact fun args H v H' h=>cT.mk_T h
theorem dD.ok:codeOk dD.pn Try.f34.ntmps dD.tb dD.code = true:=by kernel_rfl
theorem dD.T {F:Nat} {aa:Int} {ac:Int} {ah:Sl} {eS:Int} {eT:Int} {f_:Sl} {eU:Int} {eV:Int} {ga:Sl} {eW:Int} {eX:Int} {gb:Sl} {eY:Int} {eZ:Int} {gc:Sl} {eE:Int} {ke:Int} {lr:Sl} {kf:Int} {kg:Int} {ls:Sl} {kh:Int} {ki:Int} {lu:Sl} {kj:Int} {kl:Int} {lv:Sl} {km:Int} {kn:Int} {lw:Sl} {H:Hp} {v:AV} {H':Hp} (h:dD.tw F aa ac ah eS eT f_ eU eV ga eW eX gb eY eZ gc eE ke lr kf kg ls kh ki lu kj kl lv km kn lw H = some (v,H')):Go.AE.T Try.prog 34 [(.agg [(.int .i64 aa),(.int .i64 ac),(.sl ah),(.int .i64 eS),(.int .i64 eT),(.sl f_),(.int .i64 eU),(.int .i64 eV),(.sl ga),(.int .i64 eW),(.int .i64 eX),(.sl gb),(.int .i64 eY),(.int .i64 eZ),(.sl gc)]),(.agg [(.int .i64 eE),(.int .i64 ke),(.sl lr),(.int .i64 kf),(.int .i64 kg),(.sl ls),(.int .i64 kh),(.int .i64 ki),(.sl lu),(.int .i64 kj),(.int .i64 kl),(.sl lv),(.int .i64 km),(.int .i64 kn),(.sl lw)])] H v H':=
 Go.AE.T.of (Y:=tabs) (C:=mkOrc (dD.cs F (cT.tw F))) (PN:=dD.pn) (LH:=dD.lh F (cT.tw F)) (F:=F) (TB:=dD.tb) (fn:=Try.f34) (code:=dD.code) mixed tabs_ok (mkOrc_ok (dD.cs_ok F)) Try.func34 (by kernel_rfl) (by kernel_rfl) dD.ok (Nat.le_of_ble_eq_true (by kernel_rfl)) (dD.loops F (cT.tw F)) (Eq.trans (dD.eqX F (cT.tw F) aa ac ah eS eT f_ eU eV ga eW eX gb eY eZ gc eE ke lr kf kg ls kh ki lu kj kl lv km kn lw H) h)
theorem dD.mk_T {F:Nat} {args:List AV} {H:Hp} {v:AV} {H':Hp} (h:dD.mk (dD.tw F) args H = some (v,H')):Go.AE.T Try.prog 34 args H v H':=by
 unfold dD.mk at h
 split at h
 ·exact dD.T h
 ·cases h
noncomputable def cw.l13 (F:Nat) :Nat→Sl→Int→Int→Hp→OA
 | 0,_,_,_,_=>none
 | hU + 1,cX,es,fG,H7=>(bif (decide (fG < (cX.n:Int))) then ((Sl.idx cX fG 1).bind fun p10=>(Hp.st H7 p10.1 p10.2 (.int .i64 es)).bind fun H11=>cw.l13 F hU cX (IntKind.i64.wrap (es + 1)) (IntKind.i64.wrap (fG + 1)) H11) else (some ((.int .i64 es),H7)))
termination_by structural n=>n
noncomputable def cw.twX (F:Nat) (aa:Sl) (ag:Int) (H:Hp):OA:=cw.l13 F F aa ag 0 H
noncomputable def cw.tw (F:Nat) (aa:Sl) (ag:Int) (H:Hp):OA:=cw.twX F aa ag H
noncomputable def cw.code:Go.Code:=(Try.f31.body).getD .skip
noncomputable def cw.lh13 (F:Nat) (ks:List Nat) (n:Nat) (tm:Tm) (H:Hp):OA:=match ks,tm 0,tm 1,tm 5 with
 | [],(.sl cX),(.int .i64 es),(.int .i64 fG)=>cw.l13 F n cX es fG H
 | _,_,_,_=>none
theorem cw.lh13_inv {F:Nat} {ks:List Nat} {n:Nat} {tm:Tm} {H:Hp} {r:AV×Hp} (h:cw.lh13 F ks n tm H = some r):∃ cX:Sl,∃ es:Int,∃ fG:Int,ks = []∧tm 0 = (.sl cX)∧tm 1 = (.int .i64 es)∧tm 5 = (.int .i64 fG)∧cw.l13 F n cX es fG H = some r:=by
 unfold cw.lh13 at h
 split at h
 ·exact ⟨_,_,_,rfl,by assumption,by assumption,by assumption,h⟩
 ·cases h
noncomputable def cw.lh (F:Nat) (p:Nat) (ks:List Nat) (n:Nat) (tm:Tm) (H:Hp):OA:=bif p.beq 13 then cw.lh13 F ks n tm H else (none)
def cw.pn:Nat→List Nat:=fun i=>(([]:List (Nat×List Nat)).lookup i).getD []
def cw.tb:Nat→List (List Nat):=fun i=>(([]:List (Nat×List (List Nat))).lookup i).getD []
noncomputable def cw.mk (g:Sl→Int→Hp→OA) (args:List AV) (H:Hp):OA:=match args with
 | [(.sl aa),(.int .i64 ag)]=>g aa ag H
 | _=>none
noncomputable def cw.cs (F:Nat):List (FuncId×(List AV→Hp→OA)):=[]
theorem cw.loops (F:Nat):LoopsOk tabs (mkOrc (cw.cs F)) cw.pn (cw.lh F) F [] 1 cw.code (fun tm H=>aresults tabs.ty H tm Try.f31.results.toList fun v=>some (v,H)) (fun _ _ _=>none) (fun tm H=>aresults tabs.ty H tm Try.f31.results.toList fun v=>some (v,H)):=by
 refine LoopsOk.seq ?_ ?_
 ·exact loops_none (by kernel_rfl)
 ·refine LoopsOk.seq ?_ ?_
  ·refine LoopsOk.seq ?_ ?_
   ·exact loops_none (by kernel_rfl)
   ·refine LoopsOk.block ?_
    refine LoopsOk.loop (fun tm H=>?_) (fun k13 tm H r h0=>?_) (fun k13=>?_)
    ·refine none_of fun r h0=>?_
     obtain ⟨cX,es,fG,hks,e0,e1,e5,h⟩:=cw.lh13_inv (show cw.lh13 F [] 0 tm H = some r from h0)
     cases h
    ·obtain ⟨cX,es,fG,hks,e0,e1,e5,h⟩:=cw.lh13_inv (show cw.lh13 F [] (k13 + 1) tm H = some r from h0)
     have q0:(Tm.put tm 0 (.sl cX)) = tm:=by exact Tm.put_same e0
     have q1:(Tm.put (Tm.put tm 0 (.sl cX)) 1 (.int .i64 es)) = tm:=by rw [q0]; exact Tm.put_same e1
     have q2:(Tm.put (Tm.put (Tm.put tm 0 (.sl cX)) 1 (.int .i64 es)) 5 (.int .i64 fG)) = tm:=by rw [q1]; exact Tm.put_same e5
     rw [← q2]
     exact Eq.trans (by kernel_rfl) h
    ·exact loops_none (by kernel_rfl)
  ·exact loops_none (by kernel_rfl)
theorem cw.eqX (F:Nat) (aa:Sl) (ag:Int) (H:Hp):aCode tabs (mkOrc (cw.cs F)) cw.pn (cw.lh F) F [] 1 cw.code (argTm [(.sl aa),(.int .i64 ag)]) H (fun tm H=>aresults tabs.ty H tm Try.f31.results.toList fun v=>some (v,H)) (fun _ _ _=>none) (fun tm H=>aresults tabs.ty H tm Try.f31.results.toList fun v=>some (v,H)) = cw.twX F aa ag H:=by kernel_rfl
theorem cw.cs_ok (F:Nat):∀ p ∈ cw.cs F,∀ args H v H',p.2 args H = some (v,H')→Go.AE.T Try.prog p.1 args H v H':=by
 intro p hp
 exact absurd (show p ∈ [] from hp) List.not_mem_nil
theorem cw.ok:codeOk cw.pn Try.f31.ntmps cw.tb cw.code = true:=by kernel_rfl
theorem cw.T {F:Nat} {aa:Sl} {ag:Int} {H:Hp} {v:AV} {H':Hp} (h:cw.tw F aa ag H = some (v,H')):Go.AE.T Try.prog 31 [(.sl aa),(.int .i64 ag)] H v H':=
 Go.AE.T.of (Y:=tabs) (C:=mkOrc (cw.cs F)) (PN:=cw.pn) (LH:=cw.lh F) (F:=F) (TB:=cw.tb) (fn:=Try.f31) (code:=cw.code) mixed tabs_ok (mkOrc_ok (cw.cs_ok F)) Try.func31 (by kernel_rfl) (by kernel_rfl) cw.ok (Nat.le_of_ble_eq_true (by kernel_rfl)) (cw.loops F) (Eq.trans (cw.eqX F aa ag H) h)
theorem cw.mk_T {F:Nat} {args:List AV} {H:Hp} {v:AV} {H':Hp} (h:cw.mk (cw.tw F) args H = some (v,H')):Go.AE.T Try.prog 31 args H v H':=by
 unfold cw.mk at h
 split at h
 ·exact cw.T h
 ·cases h
noncomputable def cU.twX (F:Nat) (mf:Sl→Int→Hp→OA) (aa:Int) (ac:Int) (ah:Sl) (af:Int) (H:Hp):OA:=(Hp.new H [(.int .i64 aa),(.int .i64 ac),(.sl ah)]).bind fun H5=>(Hp.ldSl H5 H.length 2).bind fun s6=>(mf s6 af H5).bind fun r7=>((r7.1).asI .i64).bind fun n8=>some ((.int .i64 n8),r7.2)
noncomputable def cU.tw (F:Nat) (aa:Int) (ac:Int) (ah:Sl) (af:Int) (H:Hp):OA:=cU.twX F (cw.tw F) aa ac ah af H
noncomputable def cU.code:Go.Code:=(Try.f30.body).getD .skip
noncomputable def cU.lh (F:Nat) (mf:Sl→Int→Hp→OA) (p:Nat) (ks:List Nat) (n:Nat) (tm:Tm) (H:Hp):OA:=none
def cU.pn:Nat→List Nat:=fun i=>(([]:List (Nat×List Nat)).lookup i).getD []
def cU.tb:Nat→List (List Nat):=fun i=>(([]:List (Nat×List (List Nat))).lookup i).getD []
noncomputable def cU.mk (g:Int→Int→Sl→Int→Hp→OA) (args:List AV) (H:Hp):OA:=match args with
 | [(.agg [(.int .i64 aa),(.int .i64 ac),(.sl ah)]),(.int .i64 af)]=>g aa ac ah af H
 | _=>none
noncomputable def cU.cs (F:Nat) (mf:Sl→Int→Hp→OA):List (FuncId×(List AV→Hp→OA)):=[(31,cw.mk mf)]
theorem cU.loops (F:Nat) (mf:Sl→Int→Hp→OA):LoopsOk tabs (mkOrc (cU.cs F mf)) cU.pn (cU.lh F mf) F [] 1 cU.code (fun tm H=>aresults tabs.ty H tm Try.f30.results.toList fun v=>some (v,H)) (fun _ _ _=>none) (fun tm H=>aresults tabs.ty H tm Try.f30.results.toList fun v=>some (v,H)):=by
 exact loops_none (by kernel_rfl)
theorem cU.eqX (F:Nat) (mf:Sl→Int→Hp→OA) (aa:Int) (ac:Int) (ah:Sl) (af:Int) (H:Hp):aCode tabs (mkOrc (cU.cs F mf)) cU.pn (cU.lh F mf) F [] 1 cU.code (argTm [(.agg [(.int .i64 aa),(.int .i64 ac),(.sl ah)]),(.int .i64 af)]) H (fun tm H=>aresults tabs.ty H tm Try.f30.results.toList fun v=>some (v,H)) (fun _ _ _=>none) (fun tm H=>aresults tabs.ty H tm Try.f30.results.toList fun v=>some (v,H)) = cU.twX F mf aa ac ah af H:=by kernel_rfl
theorem cU.cs_ok (F:Nat):∀ p ∈ cU.cs F (cw.tw F),∀ args H v H',p.2 args H = some (v,H')→Go.AE.T Try.prog p.1 args H v H':=by
 intro p hp
 simp only [cU.cs,List.mem_cons,List.not_mem_nil,or_false] at hp
 subst hp
 exact fun args H v H' h=>cw.mk_T h
theorem cU.ok:codeOk cU.pn Try.f30.ntmps cU.tb cU.code = true:=by kernel_rfl
theorem cU.T {F:Nat} {aa:Int} {ac:Int} {ah:Sl} {af:Int} {H:Hp} {v:AV} {H':Hp} (h:cU.tw F aa ac ah af H = some (v,H')):Go.AE.T Try.prog 30 [(.agg [(.int .i64 aa),(.int .i64 ac),(.sl ah)]),(.int .i64 af)] H v H':=
 Go.AE.T.of (Y:=tabs) (C:=mkOrc (cU.cs F (cw.tw F))) (PN:=cU.pn) (LH:=cU.lh F (cw.tw F)) (F:=F) (TB:=cU.tb) (fn:=Try.f30) (code:=cU.code) mixed tabs_ok (mkOrc_ok (cU.cs_ok F)) Try.func30 (by kernel_rfl) (by kernel_rfl) cU.ok (Nat.le_of_ble_eq_true (by kernel_rfl)) (cU.loops F (cw.tw F)) (Eq.trans (cU.eqX F (cw.tw F) aa ac ah af H) h)
theorem cU.mk_T {F:Nat} {args:List AV} {H:Hp} {v:AV} {H':Hp} (h:cU.mk (cU.tw F) args H = some (v,H')):Go.AE.T Try.prog 30 args H v H':=by
 unfold cU.mk at h
 split at h
 ·exact cU.T h
 ·cases h
noncomputable def dS.twX (F:Nat) (gS:Int→Int→Sl→Int→Hp→OA) (aa:Int) (ac:Int) (ah:Sl) (eS:Int) (eT:Int) (f_:Sl) (eU:Int) (eV:Int) (ga:Sl) (eW:Int) (eX:Int) (gb:Sl) (eY:Int) (eZ:Int) (gc:Sl) (eE:Int) (H:Hp):OA:=(Hp.new H [(.int .i64 aa),(.int .i64 ac),(.sl ah),(.int .i64 eS),(.int .i64 eT),(.sl f_),(.int .i64 eU),(.int .i64 eV),(.sl ga),(.int .i64 eW),(.int .i64 eX),(.sl gb),(.int .i64 eY),(.int .i64 eZ),(.sl gc)]).bind fun H17=>(Hp.ldI H17 .i64 H.length 0).bind fun n18=>(Hp.ldI H17 .i64 H.length (0 + 1)).bind fun n19=>(Hp.ldSl H17 H.length (0 + 2)).bind fun s20=>(gS n18 n19 s20 eE H17).bind fun r21=>((r21.1).asI .i64).bind fun n22=>(Hp.ldI r21.2 .i64 H.length 3).bind fun n23=>(Hp.ldI r21.2 .i64 H.length (3 + 1)).bind fun n24=>(Hp.ldSl r21.2 H.length (3 + 2)).bind fun s25=>(gS n23 n24 s25 n22 r21.2).bind fun r26=>((r26.1).asI .i64).bind fun n27=>(Hp.ldI r26.2 .i64 H.length 6).bind fun n28=>(Hp.ldI r26.2 .i64 H.length (6 + 1)).bind fun n29=>(Hp.ldSl r26.2 H.length (6 + 2)).bind fun s30=>(gS n28 n29 s30 n27 r26.2).bind fun r31=>((r31.1).asI .i64).bind fun n32=>(Hp.ldI r31.2 .i64 H.length 9).bind fun n33=>(Hp.ldI r31.2 .i64 H.length (9 + 1)).bind fun n34=>(Hp.ldSl r31.2 H.length (9 + 2)).bind fun s35=>(gS n33 n34 s35 n32 r31.2).bind fun r36=>((r36.1).asI .i64).bind fun n37=>(Hp.ldI r36.2 .i64 H.length 12).bind fun n38=>(Hp.ldI r36.2 .i64 H.length (12 + 1)).bind fun n39=>(Hp.ldSl r36.2 H.length (12 + 2)).bind fun s40=>(gS n38 n39 s40 n37 r36.2).bind fun r41=>((r41.1).asI .i64).bind fun n42=>some ((.int .i64 n42),r41.2)
noncomputable def dS.tw (F:Nat) (aa:Int) (ac:Int) (ah:Sl) (eS:Int) (eT:Int) (f_:Sl) (eU:Int) (eV:Int) (ga:Sl) (eW:Int) (eX:Int) (gb:Sl) (eY:Int) (eZ:Int) (gc:Sl) (eE:Int) (H:Hp):OA:=dS.twX F (cU.tw F) aa ac ah eS eT f_ eU eV ga eW eX gb eY eZ gc eE H
noncomputable def dS.code:Go.Code:=(Try.f35.body).getD .skip
noncomputable def dS.lh (F:Nat) (gS:Int→Int→Sl→Int→Hp→OA) (p:Nat) (ks:List Nat) (n:Nat) (tm:Tm) (H:Hp):OA:=none
def dS.pn:Nat→List Nat:=fun i=>(([]:List (Nat×List Nat)).lookup i).getD []
def dS.tb:Nat→List (List Nat):=fun i=>(([]:List (Nat×List (List Nat))).lookup i).getD []
noncomputable def dS.mk (g:Int→Int→Sl→Int→Int→Sl→Int→Int→Sl→Int→Int→Sl→Int→Int→Sl→Int→Hp→OA) (args:List AV) (H:Hp):OA:=match args with
 | [(.agg [(.int .i64 aa),(.int .i64 ac),(.sl ah),(.int .i64 eS),(.int .i64 eT),(.sl f_),(.int .i64 eU),(.int .i64 eV),(.sl ga),(.int .i64 eW),(.int .i64 eX),(.sl gb),(.int .i64 eY),(.int .i64 eZ),(.sl gc)]),(.int .i64 eE)]=>g aa ac ah eS eT f_ eU eV ga eW eX gb eY eZ gc eE H
 | _=>none
noncomputable def dS.cs (F:Nat) (gS:Int→Int→Sl→Int→Hp→OA):List (FuncId×(List AV→Hp→OA)):=[(30,cU.mk gS)]
theorem dS.loops (F:Nat) (gS:Int→Int→Sl→Int→Hp→OA):LoopsOk tabs (mkOrc (dS.cs F gS)) dS.pn (dS.lh F gS) F [] 1 dS.code (fun tm H=>aresults tabs.ty H tm Try.f35.results.toList fun v=>some (v,H)) (fun _ _ _=>none) (fun tm H=>aresults tabs.ty H tm Try.f35.results.toList fun v=>some (v,H)):=by
 exact loops_none (by kernel_rfl)
theorem dS.eqX (F:Nat) (gS:Int→Int→Sl→Int→Hp→OA) (aa:Int) (ac:Int) (ah:Sl) (eS:Int) (eT:Int) (f_:Sl) (eU:Int) (eV:Int) (ga:Sl) (eW:Int) (eX:Int) (gb:Sl) (eY:Int) (eZ:Int) (gc:Sl) (eE:Int) (H:Hp):aCode tabs (mkOrc (dS.cs F gS)) dS.pn (dS.lh F gS) F [] 1 dS.code (argTm [(.agg [(.int .i64 aa),(.int .i64 ac),(.sl ah),(.int .i64 eS),(.int .i64 eT),(.sl f_),(.int .i64 eU),(.int .i64 eV),(.sl ga),(.int .i64 eW),(.int .i64 eX),(.sl gb),(.int .i64 eY),(.int .i64 eZ),(.sl gc)]),(.int .i64 eE)]) H (fun tm H=>aresults tabs.ty H tm Try.f35.results.toList fun v=>some (v,H)) (fun _ _ _=>none) (fun tm H=>aresults tabs.ty H tm Try.f35.results.toList fun v=>some (v,H)) = dS.twX F gS aa ac ah eS eT f_ eU eV ga eW eX gb eY eZ gc eE H:=by kernel_rfl
theorem dS.cs_ok (F:Nat):∀ p ∈ dS.cs F (cU.tw F),∀ args H v H',p.2 args H = some (v,H')→Go.AE.T Try.prog p.1 args H v H':=by
 intro p hp
 simp only [dS.cs,List.mem_cons,List.not_mem_nil,or_false] at hp
 subst hp
 exact fun args H v H' h=>cU.mk_T h
theorem dS.ok:codeOk dS.pn Try.f35.ntmps dS.tb dS.code = true:=by kernel_rfl
theorem dS.T {F:Nat} {aa:Int} {ac:Int} {ah:Sl} {eS:Int} {eT:Int} {f_:Sl} {eU:Int} {eV:Int} {ga:Sl} {eW:Int} {eX:Int} {gb:Sl} {eY:Int} {eZ:Int} {gc:Sl} {eE:Int} {H:Hp} {v:AV} {H':Hp} (h:dS.tw F aa ac ah eS eT f_ eU eV ga eW eX gb eY eZ gc eE H = some (v,H')):Go.AE.T Try.prog 35 [(.agg [(.int .i64 aa),(.int .i64 ac),(.sl ah),(.int .i64 eS),(.int .i64 eT),(.sl f_),(.int .i64 eU),(.int .i64 eV),(.sl ga),(.int .i64 eW),(.int .i64 eX),(.sl gb),(.int .i64 eY),(.int .i64 eZ),(.sl gc)]),(.int .i64 eE)] H v H':=
 Go.AE.T.of (Y:=tabs) (C:=mkOrc (dS.cs F (cU.tw F))) (PN:=dS.pn) (LH:=dS.lh F (cU.tw F)) (F:=F) (TB:=dS.tb) (fn:=Try.f35) (code:=dS.code) mixed tabs_ok (mkOrc_ok (dS.cs_ok F)) Try.func35 (by kernel_rfl) (by kernel_rfl) dS.ok (Nat.le_of_ble_eq_true (by kernel_rfl)) (dS.loops F (cU.tw F)) (Eq.trans (dS.eqX F (cU.tw F) aa ac ah eS eT f_ eU eV ga eW eX gb eY eZ gc eE H) h)
theorem dS.mk_T {F:Nat} {args:List AV} {H:Hp} {v:AV} {H':Hp} (h:dS.mk (dS.tw F) args H = some (v,H')):Go.AE.T Try.prog 35 args H v H':=by
 unfold dS.mk at h
 split at h
 ·exact dS.T h
 ·cases h
noncomputable def cy.l13 (F:Nat) :Nat→Sl→Int→Int→Hp→OA
 | 0,_,_,_,_=>none
 | hU + 1,cX,es,fG,H7=>(bif (decide (fG < (cX.n:Int))) then ((Sl.idx cX fG 1).bind fun p10=>(Hp.ldI H7 .i64 p10.1 p10.2).bind fun n11=>(bif (n11 != es) then (some ((.int .i64 (-1)),H7)) else (cy.l13 F hU cX (IntKind.i64.wrap (es + 1)) (IntKind.i64.wrap (fG + 1)) H7))) else (some ((.int .i64 es),H7)))
termination_by structural n=>n
noncomputable def cy.twX (F:Nat) (aa:Sl) (ag:Int) (H:Hp):OA:=cy.l13 F F aa ag 0 H
noncomputable def cy.tw (F:Nat) (aa:Sl) (ag:Int) (H:Hp):OA:=cy.twX F aa ag H
noncomputable def cy.code:Go.Code:=(Try.f32.body).getD .skip
noncomputable def cy.lh13 (F:Nat) (ks:List Nat) (n:Nat) (tm:Tm) (H:Hp):OA:=match ks,tm 0,tm 1,tm 5 with
 | [],(.sl cX),(.int .i64 es),(.int .i64 fG)=>cy.l13 F n cX es fG H
 | _,_,_,_=>none
theorem cy.lh13_inv {F:Nat} {ks:List Nat} {n:Nat} {tm:Tm} {H:Hp} {r:AV×Hp} (h:cy.lh13 F ks n tm H = some r):∃ cX:Sl,∃ es:Int,∃ fG:Int,ks = []∧tm 0 = (.sl cX)∧tm 1 = (.int .i64 es)∧tm 5 = (.int .i64 fG)∧cy.l13 F n cX es fG H = some r:=by
 unfold cy.lh13 at h
 split at h
 ·exact ⟨_,_,_,rfl,by assumption,by assumption,by assumption,h⟩
 ·cases h
noncomputable def cy.lh (F:Nat) (p:Nat) (ks:List Nat) (n:Nat) (tm:Tm) (H:Hp):OA:=bif p.beq 13 then cy.lh13 F ks n tm H else (none)
def cy.pn:Nat→List Nat:=fun i=>(([]:List (Nat×List Nat)).lookup i).getD []
def cy.tb:Nat→List (List Nat):=fun i=>(([]:List (Nat×List (List Nat))).lookup i).getD []
noncomputable def cy.mk (g:Sl→Int→Hp→OA) (args:List AV) (H:Hp):OA:=match args with
 | [(.sl aa),(.int .i64 ag)]=>g aa ag H
 | _=>none
noncomputable def cy.cs (F:Nat):List (FuncId×(List AV→Hp→OA)):=[]
theorem cy.loops (F:Nat):LoopsOk tabs (mkOrc (cy.cs F)) cy.pn (cy.lh F) F [] 1 cy.code (fun tm H=>aresults tabs.ty H tm Try.f32.results.toList fun v=>some (v,H)) (fun _ _ _=>none) (fun tm H=>aresults tabs.ty H tm Try.f32.results.toList fun v=>some (v,H)):=by
 refine LoopsOk.seq ?_ ?_
 ·exact loops_none (by kernel_rfl)
 ·refine LoopsOk.seq ?_ ?_
  ·refine LoopsOk.seq ?_ ?_
   ·exact loops_none (by kernel_rfl)
   ·refine LoopsOk.block ?_
    refine LoopsOk.loop (fun tm H=>?_) (fun k13 tm H r h0=>?_) (fun k13=>?_)
    ·refine none_of fun r h0=>?_
     obtain ⟨cX,es,fG,hks,e0,e1,e5,h⟩:=cy.lh13_inv (show cy.lh13 F [] 0 tm H = some r from h0)
     cases h
    ·obtain ⟨cX,es,fG,hks,e0,e1,e5,h⟩:=cy.lh13_inv (show cy.lh13 F [] (k13 + 1) tm H = some r from h0)
     have q0:(Tm.put tm 0 (.sl cX)) = tm:=by exact Tm.put_same e0
     have q1:(Tm.put (Tm.put tm 0 (.sl cX)) 1 (.int .i64 es)) = tm:=by rw [q0]; exact Tm.put_same e1
     have q2:(Tm.put (Tm.put (Tm.put tm 0 (.sl cX)) 1 (.int .i64 es)) 5 (.int .i64 fG)) = tm:=by rw [q1]; exact Tm.put_same e5
     rw [← q2]
     exact Eq.trans (by kernel_rfl) h
    ·exact loops_none (by kernel_rfl)
  ·exact loops_none (by kernel_rfl)
theorem cy.eqX (F:Nat) (aa:Sl) (ag:Int) (H:Hp):aCode tabs (mkOrc (cy.cs F)) cy.pn (cy.lh F) F [] 1 cy.code (argTm [(.sl aa),(.int .i64 ag)]) H (fun tm H=>aresults tabs.ty H tm Try.f32.results.toList fun v=>some (v,H)) (fun _ _ _=>none) (fun tm H=>aresults tabs.ty H tm Try.f32.results.toList fun v=>some (v,H)) = cy.twX F aa ag H:=by kernel_rfl
theorem cy.cs_ok (F:Nat):∀ p ∈ cy.cs F,∀ args H v H',p.2 args H = some (v,H')→Go.AE.T Try.prog p.1 args H v H':=by
 intro p hp
 exact absurd (show p ∈ [] from hp) List.not_mem_nil
theorem cy.ok:codeOk cy.pn Try.f32.ntmps cy.tb cy.code = true:=by kernel_rfl
theorem cy.T {F:Nat} {aa:Sl} {ag:Int} {H:Hp} {v:AV} {H':Hp} (h:cy.tw F aa ag H = some (v,H')):Go.AE.T Try.prog 32 [(.sl aa),(.int .i64 ag)] H v H':=
 Go.AE.T.of (Y:=tabs) (C:=mkOrc (cy.cs F)) (PN:=cy.pn) (LH:=cy.lh F) (F:=F) (TB:=cy.tb) (fn:=Try.f32) (code:=cy.code) mixed tabs_ok (mkOrc_ok (cy.cs_ok F)) Try.func32 (by kernel_rfl) (by kernel_rfl) cy.ok (Nat.le_of_ble_eq_true (by kernel_rfl)) (cy.loops F) (Eq.trans (cy.eqX F aa ag H) h)
theorem cy.mk_T {F:Nat} {args:List AV} {H:Hp} {v:AV} {H':Hp} (h:cy.mk (cy.tw F) args H = some (v,H')):Go.AE.T Try.prog 32 args H v H':=by
 unfold cy.mk at h
 split at h
 ·exact cy.T h
 ·cases h
noncomputable def dp.twX (F:Nat) (mg:Sl→Int→Hp→OA) (aa:Int) (ac:Int) (ah:Sl) (af:Int) (H:Hp):OA:=(Hp.new H [(.int .i64 aa),(.int .i64 ac),(.sl ah)]).bind fun H5=>(Hp.ldSl H5 H.length 2).bind fun s6=>(mg s6 af H5).bind fun r7=>((r7.1).asI .i64).bind fun n8=>(bif (decide (n8 < 0)) then (some ((.int .i64 (-1)),r7.2)) else (some ((.int .i64 n8),r7.2)))
noncomputable def dp.tw (F:Nat) (aa:Int) (ac:Int) (ah:Sl) (af:Int) (H:Hp):OA:=dp.twX F (cy.tw F) aa ac ah af H
noncomputable def dp.code:Go.Code:=(Try.f76.body).getD .skip
noncomputable def dp.lh (F:Nat) (mg:Sl→Int→Hp→OA) (p:Nat) (ks:List Nat) (n:Nat) (tm:Tm) (H:Hp):OA:=none
def dp.pn:Nat→List Nat:=fun i=>(([]:List (Nat×List Nat)).lookup i).getD []
def dp.tb:Nat→List (List Nat):=fun i=>(([]:List (Nat×List (List Nat))).lookup i).getD []
noncomputable def dp.mk (g:Int→Int→Sl→Int→Hp→OA) (args:List AV) (H:Hp):OA:=match args with
 | [(.agg [(.int .i64 aa),(.int .i64 ac),(.sl ah)]),(.int .i64 af)]=>g aa ac ah af H
 | _=>none
noncomputable def dp.cs (F:Nat) (mg:Sl→Int→Hp→OA):List (FuncId×(List AV→Hp→OA)):=[(32,cy.mk mg)]
theorem dp.loops (F:Nat) (mg:Sl→Int→Hp→OA):LoopsOk tabs (mkOrc (dp.cs F mg)) dp.pn (dp.lh F mg) F [] 1 dp.code (fun tm H=>aresults tabs.ty H tm Try.f76.results.toList fun v=>some (v,H)) (fun _ _ _=>none) (fun tm H=>aresults tabs.ty H tm Try.f76.results.toList fun v=>some (v,H)):=by
 exact loops_none (by kernel_rfl)
theorem dp.eqX (F:Nat) (mg:Sl→Int→Hp→OA) (aa:Int) (ac:Int) (ah:Sl) (af:Int) (H:Hp):aCode tabs (mkOrc (dp.cs F mg)) dp.pn (dp.lh F mg) F [] 1 dp.code (argTm [(.agg [(.int .i64 aa),(.int .i64 ac),(.sl ah)]),(.int .i64 af)]) H (fun tm H=>aresults tabs.ty H tm Try.f76.results.toList fun v=>some (v,H)) (fun _ _ _=>none) (fun tm H=>aresults tabs.ty H tm Try.f76.results.toList fun v=>some (v,H)) = dp.twX F mg aa ac ah af H:=by kernel_rfl
theorem dp.cs_ok (F:Nat):∀ p ∈ dp.cs F (cy.tw F),∀ args H v H',p.2 args H = some (v,H')→Go.AE.T Try.prog p.1 args H v H':=by
 intro p hp
 simp only [dp.cs,List.mem_cons,List.not_mem_nil,or_false] at hp
 subst hp
 exact fun args H v H' h=>cy.mk_T h
theorem dp.ok:codeOk dp.pn Try.f76.ntmps dp.tb dp.code = true:=by kernel_rfl
theorem dp.T {F:Nat} {aa:Int} {ac:Int} {ah:Sl} {af:Int} {H:Hp} {v:AV} {H':Hp} (h:dp.tw F aa ac ah af H = some (v,H')):Go.AE.T Try.prog 76 [(.agg [(.int .i64 aa),(.int .i64 ac),(.sl ah)]),(.int .i64 af)] H v H':=
 Go.AE.T.of (Y:=tabs) (C:=mkOrc (dp.cs F (cy.tw F))) (PN:=dp.pn) (LH:=dp.lh F (cy.tw F)) (F:=F) (TB:=dp.tb) (fn:=Try.f76) (code:=dp.code) mixed tabs_ok (mkOrc_ok (dp.cs_ok F)) Try.func76 (by kernel_rfl) (by kernel_rfl) dp.ok (Nat.le_of_ble_eq_true (by kernel_rfl)) (dp.loops F (cy.tw F)) (Eq.trans (dp.eqX F (cy.tw F) aa ac ah af H) h)
theorem dp.mk_T {F:Nat} {args:List AV} {H:Hp} {v:AV} {H':Hp} (h:dp.mk (dp.tw F) args H = some (v,H')):Go.AE.T Try.prog 76 args H v H':=by
 unfold dp.mk at h
 split at h
 ·exact dp.T h
 ·cases h
noncomputable def dG.twX (F:Nat) (kO:Int→Int→Sl→Int→Hp→OA) (aa:Int) (ac:Int) (ah:Sl) (eS:Int) (eT:Int) (f_:Sl) (eU:Int) (eV:Int) (ga:Sl) (eW:Int) (eX:Int) (gb:Sl) (eY:Int) (eZ:Int) (gc:Sl) (eE:Int) (H:Hp):OA:=(Hp.new H [(.int .i64 aa),(.int .i64 ac),(.sl ah),(.int .i64 eS),(.int .i64 eT),(.sl f_),(.int .i64 eU),(.int .i64 eV),(.sl ga),(.int .i64 eW),(.int .i64 eX),(.sl gb),(.int .i64 eY),(.int .i64 eZ),(.sl gc)]).bind fun H17=>(Hp.ldI H17 .i64 H.length 0).bind fun n18=>(Hp.ldI H17 .i64 H.length (0 + 1)).bind fun n19=>(Hp.ldSl H17 H.length (0 + 2)).bind fun s20=>(kO n18 n19 s20 eE H17).bind fun r21=>((r21.1).asI .i64).bind fun n22=>(bif (decide (n22 < 0)) then (some ((.int .i64 (-1)),r21.2)) else ((Hp.ldI r21.2 .i64 H.length 3).bind fun n23=>(Hp.ldI r21.2 .i64 H.length (3 + 1)).bind fun n24=>(Hp.ldSl r21.2 H.length (3 + 2)).bind fun s25=>(kO n23 n24 s25 n22 r21.2).bind fun r26=>((r26.1).asI .i64).bind fun n27=>(bif (decide (n27 < 0)) then (some ((.int .i64 (-1)),r26.2)) else ((Hp.ldI r26.2 .i64 H.length 6).bind fun n28=>(Hp.ldI r26.2 .i64 H.length (6 + 1)).bind fun n29=>(Hp.ldSl r26.2 H.length (6 + 2)).bind fun s30=>(kO n28 n29 s30 n27 r26.2).bind fun r31=>((r31.1).asI .i64).bind fun n32=>(bif (decide (n32 < 0)) then (some ((.int .i64 (-1)),r31.2)) else ((Hp.ldI r31.2 .i64 H.length 9).bind fun n33=>(Hp.ldI r31.2 .i64 H.length (9 + 1)).bind fun n34=>(Hp.ldSl r31.2 H.length (9 + 2)).bind fun s35=>(kO n33 n34 s35 n32 r31.2).bind fun r36=>((r36.1).asI .i64).bind fun n37=>(bif (decide (n37 < 0)) then (some ((.int .i64 (-1)),r36.2)) else ((Hp.ldI r36.2 .i64 H.length 12).bind fun n38=>(Hp.ldI r36.2 .i64 H.length (12 + 1)).bind fun n39=>(Hp.ldSl r36.2 H.length (12 + 2)).bind fun s40=>(kO n38 n39 s40 n37 r36.2).bind fun r41=>((r41.1).asI .i64).bind fun n42=>(bif (decide (n42 < 0)) then (some ((.int .i64 (-1)),r41.2)) else (some ((.int .i64 n42),r41.2)))))))))))
noncomputable def dG.tw (F:Nat) (aa:Int) (ac:Int) (ah:Sl) (eS:Int) (eT:Int) (f_:Sl) (eU:Int) (eV:Int) (ga:Sl) (eW:Int) (eX:Int) (gb:Sl) (eY:Int) (eZ:Int) (gc:Sl) (eE:Int) (H:Hp):OA:=dG.twX F (dp.tw F) aa ac ah eS eT f_ eU eV ga eW eX gb eY eZ gc eE H
noncomputable def dG.code:Go.Code:=(Try.f36.body).getD .skip
noncomputable def dG.lh (F:Nat) (kO:Int→Int→Sl→Int→Hp→OA) (p:Nat) (ks:List Nat) (n:Nat) (tm:Tm) (H:Hp):OA:=none
def dG.pn:Nat→List Nat:=fun i=>(([]:List (Nat×List Nat)).lookup i).getD []
def dG.tb:Nat→List (List Nat):=fun i=>(([]:List (Nat×List (List Nat))).lookup i).getD []
noncomputable def dG.mk (g:Int→Int→Sl→Int→Int→Sl→Int→Int→Sl→Int→Int→Sl→Int→Int→Sl→Int→Hp→OA) (args:List AV) (H:Hp):OA:=match args with
 | [(.agg [(.int .i64 aa),(.int .i64 ac),(.sl ah),(.int .i64 eS),(.int .i64 eT),(.sl f_),(.int .i64 eU),(.int .i64 eV),(.sl ga),(.int .i64 eW),(.int .i64 eX),(.sl gb),(.int .i64 eY),(.int .i64 eZ),(.sl gc)]),(.int .i64 eE)]=>g aa ac ah eS eT f_ eU eV ga eW eX gb eY eZ gc eE H
 | _=>none
noncomputable def dG.cs (F:Nat) (kO:Int→Int→Sl→Int→Hp→OA):List (FuncId×(List AV→Hp→OA)):=[(76,dp.mk kO)]
theorem dG.loops (F:Nat) (kO:Int→Int→Sl→Int→Hp→OA):LoopsOk tabs (mkOrc (dG.cs F kO)) dG.pn (dG.lh F kO) F [] 1 dG.code (fun tm H=>aresults tabs.ty H tm Try.f36.results.toList fun v=>some (v,H)) (fun _ _ _=>none) (fun tm H=>aresults tabs.ty H tm Try.f36.results.toList fun v=>some (v,H)):=by
 exact loops_none (by kernel_rfl)
theorem dG.eqX (F:Nat) (kO:Int→Int→Sl→Int→Hp→OA) (aa:Int) (ac:Int) (ah:Sl) (eS:Int) (eT:Int) (f_:Sl) (eU:Int) (eV:Int) (ga:Sl) (eW:Int) (eX:Int) (gb:Sl) (eY:Int) (eZ:Int) (gc:Sl) (eE:Int) (H:Hp):aCode tabs (mkOrc (dG.cs F kO)) dG.pn (dG.lh F kO) F [] 1 dG.code (argTm [(.agg [(.int .i64 aa),(.int .i64 ac),(.sl ah),(.int .i64 eS),(.int .i64 eT),(.sl f_),(.int .i64 eU),(.int .i64 eV),(.sl ga),(.int .i64 eW),(.int .i64 eX),(.sl gb),(.int .i64 eY),(.int .i64 eZ),(.sl gc)]),(.int .i64 eE)]) H (fun tm H=>aresults tabs.ty H tm Try.f36.results.toList fun v=>some (v,H)) (fun _ _ _=>none) (fun tm H=>aresults tabs.ty H tm Try.f36.results.toList fun v=>some (v,H)) = dG.twX F kO aa ac ah eS eT f_ eU eV ga eW eX gb eY eZ gc eE H:=by kernel_rfl
theorem dG.cs_ok (F:Nat):∀ p ∈ dG.cs F (dp.tw F),∀ args H v H',p.2 args H = some (v,H')→Go.AE.T Try.prog p.1 args H v H':=by
 intro p hp
 simp only [dG.cs,List.mem_cons,List.not_mem_nil,or_false] at hp
 subst hp
 exact fun args H v H' h=>dp.mk_T h
theorem dG.ok:codeOk dG.pn Try.f36.ntmps dG.tb dG.code = true:=by kernel_rfl
theorem dG.T {F:Nat} {aa:Int} {ac:Int} {ah:Sl} {eS:Int} {eT:Int} {f_:Sl} {eU:Int} {eV:Int} {ga:Sl} {eW:Int} {eX:Int} {gb:Sl} {eY:Int} {eZ:Int} {gc:Sl} {eE:Int} {H:Hp} {v:AV} {H':Hp} (h:dG.tw F aa ac ah eS eT f_ eU eV ga eW eX gb eY eZ gc eE H = some (v,H')):Go.AE.T Try.prog 36 [(.agg [(.int .i64 aa),(.int .i64 ac),(.sl ah),(.int .i64 eS),(.int .i64 eT),(.sl f_),(.int .i64 eU),(.int .i64 eV),(.sl ga),(.int .i64 eW),(.int .i64 eX),(.sl gb),(.int .i64 eY),(.int .i64 eZ),(.sl gc)]),(.int .i64 eE)] H v H':=
 Go.AE.T.of (Y:=tabs) (C:=mkOrc (dG.cs F (dp.tw F))) (PN:=dG.pn) (LH:=dG.lh F (dp.tw F)) (F:=F) (TB:=dG.tb) (fn:=Try.f36) (code:=dG.code) mixed tabs_ok (mkOrc_ok (dG.cs_ok F)) Try.func36 (by kernel_rfl) (by kernel_rfl) dG.ok (Nat.le_of_ble_eq_true (by kernel_rfl)) (dG.loops F (dp.tw F)) (Eq.trans (dG.eqX F (dp.tw F) aa ac ah eS eT f_ eU eV ga eW eX gb eY eZ gc eE H) h)
theorem dG.mk_T {F:Nat} {args:List AV} {H:Hp} {v:AV} {H':Hp} (h:dG.mk (dG.tw F) args H = some (v,H')):Go.AE.T Try.prog 36 args H v H':=by
 unfold dG.mk at h
 split at h
 ·exact dG.T h
 ·cases h
noncomputable def et.twX (F:Nat) (mh:Int→Int→Sl→Int→Hp→OA) (kW:Int→Int→Sl→Hp→OA) (mi:Int→Int→Sl→Hp→OA) (lx:Int→Int→Sl→Hp→OA) (lb:Int→Int→Sl→Int→Int→Sl→Int→Int→Sl→Int→Int→Sl→Int→Int→Sl→Int→Int→Sl→Int→Int→Sl→Int→Int→Sl→Int→Int→Sl→Int→Int→Sl→Hp→OA) (gR:Int→Int→Sl→Int→Int→Sl→Hp→OA) (gS:Int→Int→Sl→Int→Hp→OA) (mj:Int→Int→Sl→Int→Int→Sl→Int→Int→Sl→Int→Int→Sl→Int→Int→Sl→Int→Hp→OA) (ly:Int→Int→Sl→Int→Int→Sl→Int→Int→Sl→Int→Int→Sl→Int→Int→Sl→Int→Hp→OA) (aa:Int) (ac:Int) (ah:Sl) (H:Hp):OA:=(Hp.new H [(.int .i64 aa),(.int .i64 ac),(.sl ah)]).bind fun H4=>(Hp.ldI H4 .i64 H.length 0).bind fun n5=>(Hp.ldI H4 .i64 H.length (0 + 1)).bind fun n6=>(Hp.ldSl H4 H.length (0 + 2)).bind fun s7=>(mh n5 n6 s7 1048576 H4).bind fun r8=>((r8.1).asI .i64).bind fun n9=>(bif (decide (n9 < 0)) then (some ((.bool true),r8.2)) else ((Hp.ldI r8.2 .i64 H.length 0).bind fun n10=>(Hp.ldI r8.2 .i64 H.length (0 + 1)).bind fun n11=>(Hp.ldSl r8.2 H.length (0 + 2)).bind fun s12=>(kW n10 n11 s12 r8.2).bind fun r13=>((r13.1).asAgg 3).bind fun l14=>(l14[0]?).bind fun v15=>((v15).asI .i64).bind fun n16=>(l14[1]?).bind fun v17=>((v17).asI .i64).bind fun n18=>(l14[2]?).bind fun v19=>((v19).asSl).bind fun s20=>(mi n16 n18 s20 r13.2).bind fun r21=>((r21.1).asTup 2).bind fun l22=>(l22[0]?).bind fun v23=>((v23).asAgg 15).bind fun l24=>(l24[0]?).bind fun v25=>((v25).asI .i64).bind fun n26=>(l24[1]?).bind fun v27=>((v27).asI .i64).bind fun n28=>(l24[2]?).bind fun v29=>((v29).asSl).bind fun s30=>(l24[3]?).bind fun v31=>((v31).asI .i64).bind fun n32=>(l24[4]?).bind fun v33=>((v33).asI .i64).bind fun n34=>(l24[5]?).bind fun v35=>((v35).asSl).bind fun s36=>(l24[6]?).bind fun v37=>((v37).asI .i64).bind fun n38=>(l24[7]?).bind fun v39=>((v39).asI .i64).bind fun n40=>(l24[8]?).bind fun v41=>((v41).asSl).bind fun s42=>(l24[9]?).bind fun v43=>((v43).asI .i64).bind fun n44=>(l24[10]?).bind fun v45=>((v45).asI .i64).bind fun n46=>(l24[11]?).bind fun v47=>((v47).asSl).bind fun s48=>(l24[12]?).bind fun v49=>((v49).asI .i64).bind fun n50=>(l24[13]?).bind fun v51=>((v51).asI .i64).bind fun n52=>(l24[14]?).bind fun v53=>((v53).asSl).bind fun s54=>(l22[1]?).bind fun v55=>((v55).asI .i64).bind fun n56=>(Hp.new r21.2 [.int .i64 0,.int .i64 0,.sl ⟨none,0,.ex 0⟩,.int .i64 0,.int .i64 0,.sl ⟨none,0,.ex 0⟩,.int .i64 0,.int .i64 0,.sl ⟨none,0,.ex 0⟩,.int .i64 0,.int .i64 0,.sl ⟨none,0,.ex 0⟩,.int .i64 0,.int .i64 0,.sl ⟨none,0,.ex 0⟩]).bind fun H57=>(Hp.st H57 r21.2.length 0 (.int .i64 n26)).bind fun H58=>(Hp.st H58 r21.2.length (0 + 1) (.int .i64 n28)).bind fun H59=>(Hp.st H59 r21.2.length (0 + 1 + 1) (.sl s30)).bind fun H60=>(Hp.st H60 r21.2.length (0 + 1 + 1 + 1) (.int .i64 n32)).bind fun H61=>(Hp.st H61 r21.2.length (0 + 1 + 1 + 1 + 1) (.int .i64 n34)).bind fun H62=>(Hp.st H62 r21.2.length (0 + 1 + 1 + 1 + 1 + 1) (.sl s36)).bind fun H63=>(Hp.st H63 r21.2.length (0 + 1 + 1 + 1 + 1 + 1 + 1) (.int .i64 n38)).bind fun H64=>(Hp.st H64 r21.2.length (0 + 1 + 1 + 1 + 1 + 1 + 1 + 1) (.int .i64 n40)).bind fun H65=>(Hp.st H65 r21.2.length (0 + 1 + 1 + 1 + 1 + 1 + 1 + 1 + 1) (.sl s42)).bind fun H66=>(Hp.st H66 r21.2.length (0 + 1 + 1 + 1 + 1 + 1 + 1 + 1 + 1 + 1) (.int .i64 n44)).bind fun H67=>(Hp.st H67 r21.2.length (0 + 1 + 1 + 1 + 1 + 1 + 1 + 1 + 1 + 1 + 1) (.int .i64 n46)).bind fun H68=>(Hp.st H68 r21.2.length (0 + 1 + 1 + 1 + 1 + 1 + 1 + 1 + 1 + 1 + 1 + 1) (.sl s48)).bind fun H69=>(Hp.st H69 r21.2.length (0 + 1 + 1 + 1 + 1 + 1 + 1 + 1 + 1 + 1 + 1 + 1 + 1) (.int .i64 n50)).bind fun H70=>(Hp.st H70 r21.2.length (0 + 1 + 1 + 1 + 1 + 1 + 1 + 1 + 1 + 1 + 1 + 1 + 1 + 1) (.int .i64 n52)).bind fun H71=>(Hp.st H71 r21.2.length (0 + 1 + 1 + 1 + 1 + 1 + 1 + 1 + 1 + 1 + 1 + 1 + 1 + 1 + 1) (.sl s54)).bind fun H72=>(Hp.ldI H72 .i64 H.length 0).bind fun n73=>(Hp.ldI H72 .i64 H.length (0 + 1)).bind fun n74=>(Hp.ldSl H72 H.length (0 + 2)).bind fun s75=>(kW n73 n74 s75 H72).bind fun r76=>((r76.1).asAgg 3).bind fun l77=>(l77[0]?).bind fun v78=>((v78).asI .i64).bind fun n79=>(l77[1]?).bind fun v80=>((v80).asI .i64).bind fun n81=>(l77[2]?).bind fun v82=>((v82).asSl).bind fun s83=>(Hp.new r76.2 [.int .i64 0,.int .i64 0,.sl ⟨none,0,.ex 0⟩]).bind fun H84=>(Hp.st H84 r76.2.length 0 (.int .i64 n79)).bind fun H85=>(Hp.st H85 r76.2.length (0 + 1) (.int .i64 n81)).bind fun H86=>(Hp.st H86 r76.2.length (0 + 1 + 1) (.sl s83)).bind fun H87=>(Hp.ldI H87 .i64 r76.2.length 0).bind fun n88=>(Hp.ldI H87 .i64 r76.2.length (0 + 1)).bind fun n89=>(Hp.ldSl H87 r76.2.length (0 + 2)).bind fun s90=>(lx n88 n89 s90 H87).bind fun r91=>((r91.1).asTup 2).bind fun l92=>(l92[0]?).bind fun v93=>((v93).asAgg 15).bind fun l94=>(l94[0]?).bind fun v95=>((v95).asI .i64).bind fun n96=>(l94[1]?).bind fun v97=>((v97).asI .i64).bind fun n98=>(l94[2]?).bind fun v99=>((v99).asSl).bind fun s100=>(l94[3]?).bind fun v101=>((v101).asI .i64).bind fun n102=>(l94[4]?).bind fun v103=>((v103).asI .i64).bind fun n104=>(l94[5]?).bind fun v105=>((v105).asSl).bind fun s106=>(l94[6]?).bind fun v107=>((v107).asI .i64).bind fun n108=>(l94[7]?).bind fun v109=>((v109).asI .i64).bind fun n110=>(l94[8]?).bind fun v111=>((v111).asSl).bind fun s112=>(l94[9]?).bind fun v113=>((v113).asI .i64).bind fun n114=>(l94[10]?).bind fun v115=>((v115).asI .i64).bind fun n116=>(l94[11]?).bind fun v117=>((v117).asSl).bind fun s118=>(l94[12]?).bind fun v119=>((v119).asI .i64).bind fun n120=>(l94[13]?).bind fun v121=>((v121).asI .i64).bind fun n122=>(l94[14]?).bind fun v123=>((v123).asSl).bind fun s124=>(l92[1]?).bind fun v125=>((v125).asI .i64).bind fun n126=>(Hp.new r91.2 [.int .i64 0,.int .i64 0,.sl ⟨none,0,.ex 0⟩,.int .i64 0,.int .i64 0,.sl ⟨none,0,.ex 0⟩,.int .i64 0,.int .i64 0,.sl ⟨none,0,.ex 0⟩,.int .i64 0,.int .i64 0,.sl ⟨none,0,.ex 0⟩,.int .i64 0,.int .i64 0,.sl ⟨none,0,.ex 0⟩]).bind fun H127=>(Hp.st H127 r91.2.length 0 (.int .i64 n96)).bind fun H128=>(Hp.st H128 r91.2.length (0 + 1) (.int .i64 n98)).bind fun H129=>(Hp.st H129 r91.2.length (0 + 1 + 1) (.sl s100)).bind fun H130=>(Hp.st H130 r91.2.length (0 + 1 + 1 + 1) (.int .i64 n102)).bind fun H131=>(Hp.st H131 r91.2.length (0 + 1 + 1 + 1 + 1) (.int .i64 n104)).bind fun H132=>(Hp.st H132 r91.2.length (0 + 1 + 1 + 1 + 1 + 1) (.sl s106)).bind fun H133=>(Hp.st H133 r91.2.length (0 + 1 + 1 + 1 + 1 + 1 + 1) (.int .i64 n108)).bind fun H134=>(Hp.st H134 r91.2.length (0 + 1 + 1 + 1 + 1 + 1 + 1 + 1) (.int .i64 n110)).bind fun H135=>(Hp.st H135 r91.2.length (0 + 1 + 1 + 1 + 1 + 1 + 1 + 1 + 1) (.sl s112)).bind fun H136=>(Hp.st H136 r91.2.length (0 + 1 + 1 + 1 + 1 + 1 + 1 + 1 + 1 + 1) (.int .i64 n114)).bind fun H137=>(Hp.st H137 r91.2.length (0 + 1 + 1 + 1 + 1 + 1 + 1 + 1 + 1 + 1 + 1) (.int .i64 n116)).bind fun H138=>(Hp.st H138 r91.2.length (0 + 1 + 1 + 1 + 1 + 1 + 1 + 1 + 1 + 1 + 1 + 1) (.sl s118)).bind fun H139=>(Hp.st H139 r91.2.length (0 + 1 + 1 + 1 + 1 + 1 + 1 + 1 + 1 + 1 + 1 + 1 + 1) (.int .i64 n120)).bind fun H140=>(Hp.st H140 r91.2.length (0 + 1 + 1 + 1 + 1 + 1 + 1 + 1 + 1 + 1 + 1 + 1 + 1 + 1) (.int .i64 n122)).bind fun H141=>(Hp.st H141 r91.2.length (0 + 1 + 1 + 1 + 1 + 1 + 1 + 1 + 1 + 1 + 1 + 1 + 1 + 1 + 1) (.sl s124)).bind fun H142=>(Hp.ldI H142 .i64 r91.2.length 0).bind fun n143=>(Hp.ldI H142 .i64 r91.2.length (0 + 1)).bind fun n144=>(Hp.ldSl H142 r91.2.length (0 + 2)).bind fun s145=>(Hp.ldI H142 .i64 r91.2.length (0 + 3)).bind fun n146=>(Hp.ldI H142 .i64 r91.2.length (0 + 4)).bind fun n147=>(Hp.ldSl H142 r91.2.length (0 + 5)).bind fun s148=>(Hp.ldI H142 .i64 r91.2.length (0 + 6)).bind fun n149=>(Hp.ldI H142 .i64 r91.2.length (0 + 7)).bind fun n150=>(Hp.ldSl H142 r91.2.length (0 + 8)).bind fun s151=>(Hp.ldI H142 .i64 r91.2.length (0 + 9)).bind fun n152=>(Hp.ldI H142 .i64 r91.2.length (0 + 10)).bind fun n153=>(Hp.ldSl H142 r91.2.length (0 + 11)).bind fun s154=>(Hp.ldI H142 .i64 r91.2.length (0 + 12)).bind fun n155=>(Hp.ldI H142 .i64 r91.2.length (0 + 13)).bind fun n156=>(Hp.ldSl H142 r91.2.length (0 + 14)).bind fun s157=>(Hp.ldI H142 .i64 r21.2.length 0).bind fun n158=>(Hp.ldI H142 .i64 r21.2.length (0 + 1)).bind fun n159=>(Hp.ldSl H142 r21.2.length (0 + 2)).bind fun s160=>(Hp.ldI H142 .i64 r21.2.length (0 + 3)).bind fun n161=>(Hp.ldI H142 .i64 r21.2.length (0 + 4)).bind fun n162=>(Hp.ldSl H142 r21.2.length (0 + 5)).bind fun s163=>(Hp.ldI H142 .i64 r21.2.length (0 + 6)).bind fun n164=>(Hp.ldI H142 .i64 r21.2.length (0 + 7)).bind fun n165=>(Hp.ldSl H142 r21.2.length (0 + 8)).bind fun s166=>(Hp.ldI H142 .i64 r21.2.length (0 + 9)).bind fun n167=>(Hp.ldI H142 .i64 r21.2.length (0 + 10)).bind fun n168=>(Hp.ldSl H142 r21.2.length (0 + 11)).bind fun s169=>(Hp.ldI H142 .i64 r21.2.length (0 + 12)).bind fun n170=>(Hp.ldI H142 .i64 r21.2.length (0 + 13)).bind fun n171=>(Hp.ldSl H142 r21.2.length (0 + 14)).bind fun s172=>(lb n143 n144 s145 n146 n147 s148 n149 n150 s151 n152 n153 s154 n155 n156 s157 n158 n159 s160 n161 n162 s163 n164 n165 s166 n167 n168 s169 n170 n171 s172 H142).bind fun r173=>((r173.1).asB).bind fun b174=>(bif (!b174) then (some ((.bool false),r173.2)) else ((bif (n126 != n56) then (some ((.bool false),r173.2)) else ((Hp.ldI r173.2 .i64 r76.2.length 0).bind fun n175=>(Hp.ldI r173.2 .i64 r76.2.length (0 + 1)).bind fun n176=>(Hp.ldSl r173.2 r76.2.length (0 + 2)).bind fun s177=>(Hp.ldI r173.2 .i64 H.length 0).bind fun n178=>(Hp.ldI r173.2 .i64 H.length (0 + 1)).bind fun n179=>(Hp.ldSl r173.2 H.length (0 + 2)).bind fun s180=>(kW n178 n179 s180 r173.2).bind fun r181=>((r181.1).asAgg 3).bind fun l182=>(l182[0]?).bind fun v183=>((v183).asI .i64).bind fun n184=>(l182[1]?).bind fun v185=>((v185).asI .i64).bind fun n186=>(l182[2]?).bind fun v187=>((v187).asSl).bind fun s188=>(if Cons r173.2 r181.2 then ((gR n175 n176 s177 n184 n186 s188 r181.2).bind fun r189=>((r189.1).asB).bind fun b190=>(bif (!b190) then (some ((.bool false),r189.2)) else ((Hp.ldI r189.2 .i64 r76.2.length 0).bind fun n191=>(Hp.ldI r189.2 .i64 r76.2.length (0 + 1)).bind fun n192=>(Hp.ldSl r189.2 r76.2.length (0 + 2)).bind fun s193=>(gS n191 n192 s193 1 r189.2).bind fun r194=>((r194.1).asI .i64).bind fun n195=>(bif (decide (n195 < 0)) then (some ((.bool false),r194.2)) else ((Hp.ldI r194.2 .i64 r91.2.length 0).bind fun n196=>(Hp.ldI r194.2 .i64 r91.2.length (0 + 1)).bind fun n197=>(Hp.ldSl r194.2 r91.2.length (0 + 2)).bind fun s198=>(Hp.ldI r194.2 .i64 r91.2.length (0 + 3)).bind fun n199=>(Hp.ldI r194.2 .i64 r91.2.length (0 + 4)).bind fun n200=>(Hp.ldSl r194.2 r91.2.length (0 + 5)).bind fun s201=>(Hp.ldI r194.2 .i64 r91.2.length (0 + 6)).bind fun n202=>(Hp.ldI r194.2 .i64 r91.2.length (0 + 7)).bind fun n203=>(Hp.ldSl r194.2 r91.2.length (0 + 8)).bind fun s204=>(Hp.ldI r194.2 .i64 r91.2.length (0 + 9)).bind fun n205=>(Hp.ldI r194.2 .i64 r91.2.length (0 + 10)).bind fun n206=>(Hp.ldSl r194.2 r91.2.length (0 + 11)).bind fun s207=>(Hp.ldI r194.2 .i64 r91.2.length (0 + 12)).bind fun n208=>(Hp.ldI r194.2 .i64 r91.2.length (0 + 13)).bind fun n209=>(Hp.ldSl r194.2 r91.2.length (0 + 14)).bind fun s210=>(Hp.ldI r194.2 .i64 r21.2.length 0).bind fun n211=>(Hp.ldI r194.2 .i64 r21.2.length (0 + 1)).bind fun n212=>(Hp.ldSl r194.2 r21.2.length (0 + 2)).bind fun s213=>(Hp.ldI r194.2 .i64 r21.2.length (0 + 3)).bind fun n214=>(Hp.ldI r194.2 .i64 r21.2.length (0 + 4)).bind fun n215=>(Hp.ldSl r194.2 r21.2.length (0 + 5)).bind fun s216=>(Hp.ldI r194.2 .i64 r21.2.length (0 + 6)).bind fun n217=>(Hp.ldI r194.2 .i64 r21.2.length (0 + 7)).bind fun n218=>(Hp.ldSl r194.2 r21.2.length (0 + 8)).bind fun s219=>(Hp.ldI r194.2 .i64 r21.2.length (0 + 9)).bind fun n220=>(Hp.ldI r194.2 .i64 r21.2.length (0 + 10)).bind fun n221=>(Hp.ldSl r194.2 r21.2.length (0 + 11)).bind fun s222=>(Hp.ldI r194.2 .i64 r21.2.length (0 + 12)).bind fun n223=>(Hp.ldI r194.2 .i64 r21.2.length (0 + 13)).bind fun n224=>(Hp.ldSl r194.2 r21.2.length (0 + 14)).bind fun s225=>(lb n196 n197 s198 n199 n200 s201 n202 n203 s204 n205 n206 s207 n208 n209 s210 n211 n212 s213 n214 n215 s216 n217 n218 s219 n220 n221 s222 n223 n224 s225 r194.2).bind fun r226=>((r226.1).asB).bind fun b227=>(bif (!b227) then (some ((.bool false),r226.2)) else ((bif (n126 != n56) then (some ((.bool false),r226.2)) else ((Hp.ldI r226.2 .i64 r91.2.length 0).bind fun n228=>(Hp.ldI r226.2 .i64 r91.2.length (0 + 1)).bind fun n229=>(Hp.ldSl r226.2 r91.2.length (0 + 2)).bind fun s230=>(Hp.ldI r226.2 .i64 r91.2.length (0 + 3)).bind fun n231=>(Hp.ldI r226.2 .i64 r91.2.length (0 + 4)).bind fun n232=>(Hp.ldSl r226.2 r91.2.length (0 + 5)).bind fun s233=>(Hp.ldI r226.2 .i64 r91.2.length (0 + 6)).bind fun n234=>(Hp.ldI r226.2 .i64 r91.2.length (0 + 7)).bind fun n235=>(Hp.ldSl r226.2 r91.2.length (0 + 8)).bind fun s236=>(Hp.ldI r226.2 .i64 r91.2.length (0 + 9)).bind fun n237=>(Hp.ldI r226.2 .i64 r91.2.length (0 + 10)).bind fun n238=>(Hp.ldSl r226.2 r91.2.length (0 + 11)).bind fun s239=>(Hp.ldI r226.2 .i64 r91.2.length (0 + 12)).bind fun n240=>(Hp.ldI r226.2 .i64 r91.2.length (0 + 13)).bind fun n241=>(Hp.ldSl r226.2 r91.2.length (0 + 14)).bind fun s242=>(mj n228 n229 s230 n231 n232 s233 n234 n235 s236 n237 n238 s239 n240 n241 s242 1 r226.2).bind fun r243=>((r243.1).asI .i64).bind fun n244=>(Hp.ldI r243.2 .i64 r91.2.length 0).bind fun n245=>(Hp.ldI r243.2 .i64 r91.2.length (0 + 1)).bind fun n246=>(Hp.ldSl r243.2 r91.2.length (0 + 2)).bind fun s247=>(Hp.ldI r243.2 .i64 r91.2.length (0 + 3)).bind fun n248=>(Hp.ldI r243.2 .i64 r91.2.length (0 + 4)).bind fun n249=>(Hp.ldSl r243.2 r91.2.length (0 + 5)).bind fun s250=>(Hp.ldI r243.2 .i64 r91.2.length (0 + 6)).bind fun n251=>(Hp.ldI r243.2 .i64 r91.2.length (0 + 7)).bind fun n252=>(Hp.ldSl r243.2 r91.2.length (0 + 8)).bind fun s253=>(Hp.ldI r243.2 .i64 r91.2.length (0 + 9)).bind fun n254=>(Hp.ldI r243.2 .i64 r91.2.length (0 + 10)).bind fun n255=>(Hp.ldSl r243.2 r91.2.length (0 + 11)).bind fun s256=>(Hp.ldI r243.2 .i64 r91.2.length (0 + 12)).bind fun n257=>(Hp.ldI r243.2 .i64 r91.2.length (0 + 13)).bind fun n258=>(Hp.ldSl r243.2 r91.2.length (0 + 14)).bind fun s259=>(ly n245 n246 s247 n248 n249 s250 n251 n252 s253 n254 n255 s256 n257 n258 s259 1 r243.2).bind fun r260=>((r260.1).asI .i64).bind fun n261=>(bif (decide (n261 < 0)) then (some ((.bool false),r260.2)) else ((bif (n261 != n244) then (some ((.bool false),r260.2)) else ((Hp.ldI r260.2 .i64 H.length 0).bind fun n262=>(Hp.ldI r260.2 .i64 H.length (0 + 1)).bind fun n263=>(Hp.ldSl r260.2 H.length (0 + 2)).bind fun s264=>(kW n262 n263 s264 r260.2).bind fun r265=>((r265.1).asAgg 3).bind fun l266=>(l266[0]?).bind fun v267=>((v267).asI .i64).bind fun n268=>(l266[1]?).bind fun v269=>((v269).asI .i64).bind fun n270=>(l266[2]?).bind fun v271=>((v271).asSl).bind fun s272=>(lx n268 n270 s272 r265.2).bind fun r273=>((r273.1).asTup 2).bind fun l274=>(l274[0]?).bind fun v275=>((v275).asAgg 15).bind fun l276=>(l276[0]?).bind fun v277=>((v277).asI .i64).bind fun n278=>(l276[1]?).bind fun v279=>((v279).asI .i64).bind fun n280=>(l276[2]?).bind fun v281=>((v281).asSl).bind fun s282=>(l276[3]?).bind fun v283=>((v283).asI .i64).bind fun n284=>(l276[4]?).bind fun v285=>((v285).asI .i64).bind fun n286=>(l276[5]?).bind fun v287=>((v287).asSl).bind fun s288=>(l276[6]?).bind fun v289=>((v289).asI .i64).bind fun n290=>(l276[7]?).bind fun v291=>((v291).asI .i64).bind fun n292=>(l276[8]?).bind fun v293=>((v293).asSl).bind fun s294=>(l276[9]?).bind fun v295=>((v295).asI .i64).bind fun n296=>(l276[10]?).bind fun v297=>((v297).asI .i64).bind fun n298=>(l276[11]?).bind fun v299=>((v299).asSl).bind fun s300=>(l276[12]?).bind fun v301=>((v301).asI .i64).bind fun n302=>(l276[13]?).bind fun v303=>((v303).asI .i64).bind fun n304=>(l276[14]?).bind fun v305=>((v305).asSl).bind fun s306=>(l274[1]?).bind fun v307=>((v307).asI .i64).bind fun n308=>(Hp.new r273.2 [.int .i64 0,.int .i64 0,.sl ⟨none,0,.ex 0⟩,.int .i64 0,.int .i64 0,.sl ⟨none,0,.ex 0⟩,.int .i64 0,.int .i64 0,.sl ⟨none,0,.ex 0⟩,.int .i64 0,.int .i64 0,.sl ⟨none,0,.ex 0⟩,.int .i64 0,.int .i64 0,.sl ⟨none,0,.ex 0⟩]).bind fun H309=>(Hp.st H309 r273.2.length 0 (.int .i64 n278)).bind fun H310=>(Hp.st H310 r273.2.length (0 + 1) (.int .i64 n280)).bind fun H311=>(Hp.st H311 r273.2.length (0 + 1 + 1) (.sl s282)).bind fun H312=>(Hp.st H312 r273.2.length (0 + 1 + 1 + 1) (.int .i64 n284)).bind fun H313=>(Hp.st H313 r273.2.length (0 + 1 + 1 + 1 + 1) (.int .i64 n286)).bind fun H314=>(Hp.st H314 r273.2.length (0 + 1 + 1 + 1 + 1 + 1) (.sl s288)).bind fun H315=>(Hp.st H315 r273.2.length (0 + 1 + 1 + 1 + 1 + 1 + 1) (.int .i64 n290)).bind fun H316=>(Hp.st H316 r273.2.length (0 + 1 + 1 + 1 + 1 + 1 + 1 + 1) (.int .i64 n292)).bind fun H317=>(Hp.st H317 r273.2.length (0 + 1 + 1 + 1 + 1 + 1 + 1 + 1 + 1) (.sl s294)).bind fun H318=>(Hp.st H318 r273.2.length (0 + 1 + 1 + 1 + 1 + 1 + 1 + 1 + 1 + 1) (.int .i64 n296)).bind fun H319=>(Hp.st H319 r273.2.length (0 + 1 + 1 + 1 + 1 + 1 + 1 + 1 + 1 + 1 + 1) (.int .i64 n298)).bind fun H320=>(Hp.st H320 r273.2.length (0 + 1 + 1 + 1 + 1 + 1 + 1 + 1 + 1 + 1 + 1 + 1) (.sl s300)).bind fun H321=>(Hp.st H321 r273.2.length (0 + 1 + 1 + 1 + 1 + 1 + 1 + 1 + 1 + 1 + 1 + 1 + 1) (.int .i64 n302)).bind fun H322=>(Hp.st H322 r273.2.length (0 + 1 + 1 + 1 + 1 + 1 + 1 + 1 + 1 + 1 + 1 + 1 + 1 + 1) (.int .i64 n304)).bind fun H323=>(Hp.st H323 r273.2.length (0 + 1 + 1 + 1 + 1 + 1 + 1 + 1 + 1 + 1 + 1 + 1 + 1 + 1 + 1) (.sl s306)).bind fun H324=>(Hp.ldI H324 .i64 r273.2.length 0).bind fun n325=>(Hp.ldI H324 .i64 r273.2.length (0 + 1)).bind fun n326=>(Hp.ldSl H324 r273.2.length (0 + 2)).bind fun s327=>(Hp.ldI H324 .i64 r273.2.length (0 + 3)).bind fun n328=>(Hp.ldI H324 .i64 r273.2.length (0 + 4)).bind fun n329=>(Hp.ldSl H324 r273.2.length (0 + 5)).bind fun s330=>(Hp.ldI H324 .i64 r273.2.length (0 + 6)).bind fun n331=>(Hp.ldI H324 .i64 r273.2.length (0 + 7)).bind fun n332=>(Hp.ldSl H324 r273.2.length (0 + 8)).bind fun s333=>(Hp.ldI H324 .i64 r273.2.length (0 + 9)).bind fun n334=>(Hp.ldI H324 .i64 r273.2.length (0 + 10)).bind fun n335=>(Hp.ldSl H324 r273.2.length (0 + 11)).bind fun s336=>(Hp.ldI H324 .i64 r273.2.length (0 + 12)).bind fun n337=>(Hp.ldI H324 .i64 r273.2.length (0 + 13)).bind fun n338=>(Hp.ldSl H324 r273.2.length (0 + 14)).bind fun s339=>(Hp.ldI H324 .i64 r21.2.length 0).bind fun n340=>(Hp.ldI H324 .i64 r21.2.length (0 + 1)).bind fun n341=>(Hp.ldSl H324 r21.2.length (0 + 2)).bind fun s342=>(Hp.ldI H324 .i64 r21.2.length (0 + 3)).bind fun n343=>(Hp.ldI H324 .i64 r21.2.length (0 + 4)).bind fun n344=>(Hp.ldSl H324 r21.2.length (0 + 5)).bind fun s345=>(Hp.ldI H324 .i64 r21.2.length (0 + 6)).bind fun n346=>(Hp.ldI H324 .i64 r21.2.length (0 + 7)).bind fun n347=>(Hp.ldSl H324 r21.2.length (0 + 8)).bind fun s348=>(Hp.ldI H324 .i64 r21.2.length (0 + 9)).bind fun n349=>(Hp.ldI H324 .i64 r21.2.length (0 + 10)).bind fun n350=>(Hp.ldSl H324 r21.2.length (0 + 11)).bind fun s351=>(Hp.ldI H324 .i64 r21.2.length (0 + 12)).bind fun n352=>(Hp.ldI H324 .i64 r21.2.length (0 + 13)).bind fun n353=>(Hp.ldSl H324 r21.2.length (0 + 14)).bind fun s354=>(lb n325 n326 s327 n328 n329 s330 n331 n332 s333 n334 n335 s336 n337 n338 s339 n340 n341 s342 n343 n344 s345 n346 n347 s348 n349 n350 s351 n352 n353 s354 H324).bind fun r355=>((r355.1).asB).bind fun b356=>(bif (!b356) then (some ((.bool false),r355.2)) else ((bif (n308 != n56) then (some ((.bool false),r355.2)) else ((Hp.ldI r355.2 .i64 r91.2.length 0).bind fun n357=>(Hp.ldI r355.2 .i64 r91.2.length (0 + 1)).bind fun n358=>(Hp.ldSl r355.2 r91.2.length (0 + 2)).bind fun s359=>(Hp.ldI r355.2 .i64 r91.2.length (0 + 3)).bind fun n360=>(Hp.ldI r355.2 .i64 r91.2.length (0 + 4)).bind fun n361=>(Hp.ldSl r355.2 r91.2.length (0 + 5)).bind fun s362=>(Hp.ldI r355.2 .i64 r91.2.length (0 + 6)).bind fun n363=>(Hp.ldI r355.2 .i64 r91.2.length (0 + 7)).bind fun n364=>(Hp.ldSl r355.2 r91.2.length (0 + 8)).bind fun s365=>(Hp.ldI r355.2 .i64 r91.2.length (0 + 9)).bind fun n366=>(Hp.ldI r355.2 .i64 r91.2.length (0 + 10)).bind fun n367=>(Hp.ldSl r355.2 r91.2.length (0 + 11)).bind fun s368=>(Hp.ldI r355.2 .i64 r91.2.length (0 + 12)).bind fun n369=>(Hp.ldI r355.2 .i64 r91.2.length (0 + 13)).bind fun n370=>(Hp.ldSl r355.2 r91.2.length (0 + 14)).bind fun s371=>(ly n357 n358 s359 n360 n361 s362 n363 n364 s365 n366 n367 s368 n369 n370 s371 1 r355.2).bind fun r372=>((r372.1).asI .i64).bind fun n373=>(bif (decide (n373 < 0)) then (some ((.bool false),r372.2)) else ((bif (n373 != n244) then (some ((.bool false),r372.2)) else (some ((.bool true),r372.2)))))))))))))))))))))) else none)))))))
noncomputable def et.tw (F:Nat) (aa:Int) (ac:Int) (ah:Sl) (H:Hp):OA:=et.twX F (dJ.tw F) (du.tw F) (dL.tw F) (dF.tw F) (dD.tw F) (cT.tw F) (cU.tw F) (dS.tw F) (dG.tw F) aa ac ah H
noncomputable def et.code:Go.Code:=(Try.f6.body).getD .skip
noncomputable def et.lh (F:Nat) (mh:Int→Int→Sl→Int→Hp→OA) (kW:Int→Int→Sl→Hp→OA) (mi:Int→Int→Sl→Hp→OA) (lx:Int→Int→Sl→Hp→OA) (lb:Int→Int→Sl→Int→Int→Sl→Int→Int→Sl→Int→Int→Sl→Int→Int→Sl→Int→Int→Sl→Int→Int→Sl→Int→Int→Sl→Int→Int→Sl→Int→Int→Sl→Hp→OA) (gR:Int→Int→Sl→Int→Int→Sl→Hp→OA) (gS:Int→Int→Sl→Int→Hp→OA) (mj:Int→Int→Sl→Int→Int→Sl→Int→Int→Sl→Int→Int→Sl→Int→Int→Sl→Int→Hp→OA) (ly:Int→Int→Sl→Int→Int→Sl→Int→Int→Sl→Int→Int→Sl→Int→Int→Sl→Int→Hp→OA) (p:Nat) (ks:List Nat) (n:Nat) (tm:Tm) (H:Hp):OA:=none
def et.pn:Nat→List Nat:=fun i=>(([(10,[3])]:List (Nat×List Nat)).lookup i).getD []
def et.tb:Nat→List (List Nat):=fun i=>(([(10,[[],[],[1],[0,1,2],[0,1,2,3]])]:List (Nat×List (List Nat))).lookup i).getD []
noncomputable def et.mk (g:Int→Int→Sl→Hp→OA) (args:List AV) (H:Hp):OA:=match args with
 | [(.agg [(.int .i64 aa),(.int .i64 ac),(.sl ah)])]=>g aa ac ah H
 | _=>none
noncomputable def et.cs (F:Nat) (mh:Int→Int→Sl→Int→Hp→OA) (kW:Int→Int→Sl→Hp→OA) (mi:Int→Int→Sl→Hp→OA) (lx:Int→Int→Sl→Hp→OA) (lb:Int→Int→Sl→Int→Int→Sl→Int→Int→Sl→Int→Int→Sl→Int→Int→Sl→Int→Int→Sl→Int→Int→Sl→Int→Int→Sl→Int→Int→Sl→Int→Int→Sl→Hp→OA) (gR:Int→Int→Sl→Int→Int→Sl→Hp→OA) (gS:Int→Int→Sl→Int→Hp→OA) (mj:Int→Int→Sl→Int→Int→Sl→Int→Int→Sl→Int→Int→Sl→Int→Int→Sl→Int→Hp→OA) (ly:Int→Int→Sl→Int→Int→Sl→Int→Int→Sl→Int→Int→Sl→Int→Int→Sl→Int→Hp→OA):List (FuncId×(List AV→Hp→OA)):=[(23,dJ.mk mh),(25,du.mk kW),(33,dL.mk mi),(16,dF.mk lx),(34,dD.mk lb),(27,cT.mk gR),(30,cU.mk gS),(35,dS.mk mj),(36,dG.mk ly)]
theorem et.loops (F:Nat) (mh:Int→Int→Sl→Int→Hp→OA) (kW:Int→Int→Sl→Hp→OA) (mi:Int→Int→Sl→Hp→OA) (lx:Int→Int→Sl→Hp→OA) (lb:Int→Int→Sl→Int→Int→Sl→Int→Int→Sl→Int→Int→Sl→Int→Int→Sl→Int→Int→Sl→Int→Int→Sl→Int→Int→Sl→Int→Int→Sl→Int→Int→Sl→Hp→OA) (gR:Int→Int→Sl→Int→Int→Sl→Hp→OA) (gS:Int→Int→Sl→Int→Hp→OA) (mj:Int→Int→Sl→Int→Int→Sl→Int→Int→Sl→Int→Int→Sl→Int→Int→Sl→Int→Hp→OA) (ly:Int→Int→Sl→Int→Int→Sl→Int→Int→Sl→Int→Int→Sl→Int→Int→Sl→Int→Hp→OA):LoopsOk tabs (mkOrc (et.cs F mh kW mi lx lb gR gS mj ly)) et.pn (et.lh F mh kW mi lx lb gR gS mj ly) F [] 1 et.code (fun tm H=>aresults tabs.ty H tm Try.f6.results.toList fun v=>some (v,H)) (fun _ _ _=>none) (fun tm H=>aresults tabs.ty H tm Try.f6.results.toList fun v=>some (v,H)):=by
 exact loops_none (by kernel_rfl)
theorem et.eqX (F:Nat) (mh:Int→Int→Sl→Int→Hp→OA) (kW:Int→Int→Sl→Hp→OA) (mi:Int→Int→Sl→Hp→OA) (lx:Int→Int→Sl→Hp→OA) (lb:Int→Int→Sl→Int→Int→Sl→Int→Int→Sl→Int→Int→Sl→Int→Int→Sl→Int→Int→Sl→Int→Int→Sl→Int→Int→Sl→Int→Int→Sl→Int→Int→Sl→Hp→OA) (gR:Int→Int→Sl→Int→Int→Sl→Hp→OA) (gS:Int→Int→Sl→Int→Hp→OA) (mj:Int→Int→Sl→Int→Int→Sl→Int→Int→Sl→Int→Int→Sl→Int→Int→Sl→Int→Hp→OA) (ly:Int→Int→Sl→Int→Int→Sl→Int→Int→Sl→Int→Int→Sl→Int→Int→Sl→Int→Hp→OA) (aa:Int) (ac:Int) (ah:Sl) (H:Hp):aCode tabs (mkOrc (et.cs F mh kW mi lx lb gR gS mj ly)) et.pn (et.lh F mh kW mi lx lb gR gS mj ly) F [] 1 et.code (argTm [(.agg [(.int .i64 aa),(.int .i64 ac),(.sl ah)])]) H (fun tm H=>aresults tabs.ty H tm Try.f6.results.toList fun v=>some (v,H)) (fun _ _ _=>none) (fun tm H=>aresults tabs.ty H tm Try.f6.results.toList fun v=>some (v,H)) = et.twX F mh kW mi lx lb gR gS mj ly aa ac ah H:=by kernel_rfl
theorem et.cs_ok (F:Nat):∀ p ∈ et.cs F (dJ.tw F) (du.tw F) (dL.tw F) (dF.tw F) (dD.tw F) (cT.tw F) (cU.tw F) (dS.tw F) (dG.tw F),∀ args H v H',p.2 args H = some (v,H')→Go.AE.T Try.prog p.1 args H v H':=by
 intro p hp
 simp only [et.cs,List.mem_cons,List.not_mem_nil,or_false] at hp
 rcases hp with rfl | rfl | rfl | rfl | rfl | rfl | rfl | rfl | rfl
 ·exact fun args H v H' h=>dJ.mk_T h
 ·exact fun args H v H' h=>du.mk_T h
 ·exact fun args H v H' h=>dL.mk_T h
 ·exact fun args H v H' h=>dF.mk_T h
 ·exact fun args H v H' h=>dD.mk_T h
 ·exact fun args H v H' h=>cT.mk_T h
 ·exact fun args H v H' h=>cU.mk_T h
 ·exact fun args H v H' h=>dS.mk_T h
 ·exact fun args H v H' h=>dG.mk_T h
theorem et.ok:codeOk et.pn Try.f6.ntmps et.tb et.code = true:=by kernel_rfl
theorem et.T {F:Nat} {aa:Int} {ac:Int} {ah:Sl} {H:Hp} {v:AV} {H':Hp} (h:et.tw F aa ac ah H = some (v,H')):Go.AE.T Try.prog 6 [(.agg [(.int .i64 aa),(.int .i64 ac),(.sl ah)])] H v H':=
 Go.AE.T.of (Y:=tabs) (C:=mkOrc (et.cs F (dJ.tw F) (du.tw F) (dL.tw F) (dF.tw F) (dD.tw F) (cT.tw F) (cU.tw F) (dS.tw F) (dG.tw F))) (PN:=et.pn) (LH:=et.lh F (dJ.tw F) (du.tw F) (dL.tw F) (dF.tw F) (dD.tw F) (cT.tw F) (cU.tw F) (dS.tw F) (dG.tw F)) (F:=F) (TB:=et.tb) (fn:=Try.f6) (code:=et.code) mixed tabs_ok (mkOrc_ok (et.cs_ok F)) Try.func6 (by kernel_rfl) (by kernel_rfl) et.ok (Nat.le_of_ble_eq_true (by kernel_rfl)) (et.loops F (dJ.tw F) (du.tw F) (dL.tw F) (dF.tw F) (dD.tw F) (cT.tw F) (cU.tw F) (dS.tw F) (dG.tw F)) (Eq.trans (et.eqX F (dJ.tw F) (du.tw F) (dL.tw F) (dF.tw F) (dD.tw F) (cT.tw F) (cU.tw F) (dS.tw F) (dG.tw F) aa ac ah H) h)
theorem et.mk_T {F:Nat} {args:List AV} {H:Hp} {v:AV} {H':Hp} (h:et.mk (et.tw F) args H = some (v,H')):Go.AE.T Try.prog 6 args H v H':=by
 unfold et.mk at h
 split at h
 ·exact et.T h
 ·cases h
end Go.Proofs.Ytnkgeongfneafaa.AE
