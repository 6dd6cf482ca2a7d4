import Derived.Test.YthfinhmkgdmelaaT1
import Derived.Test.YthfinhmkgdmelaaTab1
import Derived.Test.YthfinhmkgdmelaaE2
set_option linter.unusedVariables false
set_option linter.unusedSimpArgs false
namespace Go.Proofs.Ythfinhmkgdmelaa.AE
open Go Go.AE Go.Proofs Go.RowKit Go.Maps
set_option linter.unusedVariables false
set_option maxHeartbeats 4000000
set_option maxRecDepth 100000
noncomputable def aQ.lh (F:Nat) (a_:Sl→Int→Sl→Sl→Hp→OA) (ec:Sl→Int→Sl→Sl→Hp→OA) (ed:Bool→Hp→OA) (p:Nat) (ks:List Nat) (n:Nat) (tm:Tm) (H:Hp):OA:=bif p.beq 61 then aQ.lh61 F a_ ec ed ks n tm H else (none)
def aQ.pn:Nat→List Nat:=fun i=>(([(1,[5])]:List (Nat×List Nat)).lookup i).getD []
def aQ.tb:Nat→List (List Nat):=fun i=>(([(1,[[],[],[0,1],[],[],[0,1,2,3,4],[0,1,2,3,4,5],[0,1,2,3,4,5,6]])]:List (Nat×List (List Nat))).lookup i).getD []
noncomputable def aQ.mk (g:Sl→Int→Sl→Sl→Int→Hp→OA) (args:List AV) (H:Hp):OA:=match args with
 | [(.agg [(.sl aa),(.int .i64 ab)]),(.agg [(.sl ae),(.sl aL)]),(.int .i64 bM)]=>g aa ab ae aL bM H
 | _=>none
noncomputable def aQ.cs (F:Nat) (a_:Sl→Int→Sl→Sl→Hp→OA) (ec:Sl→Int→Sl→Sl→Hp→OA) (ed:Bool→Hp→OA):List (FuncId×(List AV→Hp→OA)):=[(127,ap.mk a_),(73,ag.mk ec),(128,bG.mk ed)]
theorem aQ.loops (F:Nat) (a_:Sl→Int→Sl→Sl→Hp→OA) (ec:Sl→Int→Sl→Sl→Hp→OA) (ed:Bool→Hp→OA):LoopsOk tabs (mkOrc (aQ.cs F a_ ec ed)) aQ.pn (aQ.lh F a_ ec ed) F [] 1 aQ.code (fun tm H=>aresults tabs.ty H tm Try.f72.results.toList fun v=>some (v,H)) (fun _ _ _=>none) (fun tm H=>aresults tabs.ty H tm Try.f72.results.toList fun v=>some (v,H)):=by
 refine LoopsOk.seq ?_ ?_
 ·exact loops_none (by kernel_rfl)
 ·refine LoopsOk.seq ?_ ?_
  ·exact loops_none (by kernel_rfl)
  ·refine LoopsOk.seq ?_ ?_
   ·exact loops_none (by kernel_rfl)
   ·refine LoopsOk.seq ?_ ?_
    ·refine LoopsOk.seq ?_ ?_
     ·exact loops_none (by kernel_rfl)
     ·refine LoopsOk.block ?_
      refine LoopsOk.loop (fun tm H=>?_) (fun k61 tm H r h0=>?_) (fun k61=>?_)
      ·refine none_of fun r h0=>?_
       obtain ⟨dA,bR,bY,gV,eX,eF,hks,e2,e7,e8,e9,e19,e20,h⟩:=aQ.lh61_inv (show aQ.lh61 F a_ ec ed [] 0 tm H = some r from h0)
       cases h
      ·obtain ⟨dA,bR,bY,gV,eX,eF,hks,e2,e7,e8,e9,e19,e20,h⟩:=aQ.lh61_inv (show aQ.lh61 F a_ ec ed [] (k61 + 1) tm H = some r from h0)
       have q0:(Tm.put tm 2 (.int .i64 dA)) = tm:=by exact Tm.put_same e2
       have q1:(Tm.put (Tm.put tm 2 (.int .i64 dA)) 7 (.sl bR)) = tm:=by rw [q0]; exact Tm.put_same e7
       have q2:(Tm.put (Tm.put (Tm.put tm 2 (.int .i64 dA)) 7 (.sl bR)) 8 (.sl bY)) = tm:=by rw [q1]; exact Tm.put_same e8
       have q3:(Tm.put (Tm.put (Tm.put (Tm.put tm 2 (.int .i64 dA)) 7 (.sl bR)) 8 (.sl bY)) 9 (.sl gV)) = tm:=by rw [q2]; exact Tm.put_same e9
       have q4:(Tm.put (Tm.put (Tm.put (Tm.put (Tm.put tm 2 (.int .i64 dA)) 7 (.sl bR)) 8 (.sl bY)) 9 (.sl gV)) 19 (.int .i64 eX)) = tm:=by rw [q3]; exact Tm.put_same e19
       have q5:(Tm.put (Tm.put (Tm.put (Tm.put (Tm.put (Tm.put tm 2 (.int .i64 dA)) 7 (.sl bR)) 8 (.sl bY)) 9 (.sl gV)) 19 (.int .i64 eX)) 20 (.int .i64 eF)) = tm:=by rw [q4]; exact Tm.put_same e20
       rw [← q5]
       exact Eq.trans (by kernel_rfl) h
      ·exact loops_none (by kernel_rfl)
    ·exact loops_none (by kernel_rfl)
theorem aQ.eqX (F:Nat) (a_:Sl→Int→Sl→Sl→Hp→OA) (ec:Sl→Int→Sl→Sl→Hp→OA) (ed:Bool→Hp→OA) (aa:Sl) (ab:Int) (ae:Sl) (aL:Sl) (bM:Int) (H:Hp):aCode tabs (mkOrc (aQ.cs F a_ ec ed)) aQ.pn (aQ.lh F a_ ec ed) F [] 1 aQ.code (argTm [(.agg [(.sl aa),(.int .i64 ab)]),(.agg [(.sl ae),(.sl aL)]),(.int .i64 bM)]) H (fun tm H=>aresults tabs.ty H tm Try.f72.results.toList fun v=>some (v,H)) (fun _ _ _=>none) (fun tm H=>aresults tabs.ty H tm Try.f72.results.toList fun v=>some (v,H)) = aQ.twX F a_ ec ed aa ab ae aL bM H:=by kernel_rfl
theorem aQ.cs_ok (F:Nat):∀ p ∈ aQ.cs F (ap.tw F) (ag.tw F) (bG.tw F),∀ args H v H',p.2 args H = some (v,H')→Go.AE.T Try.prog p.1 args H v H':=by
 intro p hp
 simp only [aQ.cs,List.mem_cons,List.not_mem_nil,or_false] at hp
 rcases hp with rfl | rfl | rfl
 ·exact fun args H v H' h=>ap.mk_T h
 ·exact fun args H v H' h=>ag.mk_T h
 ·exact fun args H v H' h=>bG.mk_T h
theorem aQ.ok:codeOk aQ.pn Try.f72.ntmps aQ.tb aQ.code = true:=by kernel_rfl
theorem aQ.T {F:Nat} {aa:Sl} {ab:Int} {ae:Sl} {aL:Sl} {bM:Int} {H:Hp} {v:AV} {H':Hp} (h:aQ.tw F aa ab ae aL bM H = some (v,H')):Go.AE.T Try.prog 72 [(.agg [(.sl aa),(.int .i64 ab)]),(.agg [(.sl ae),(.sl aL)]),(.int .i64 bM)] H v H':=
 Go.AE.T.of (Y:=tabs) (C:=mkOrc (aQ.cs F (ap.tw F) (ag.tw F) (bG.tw F))) (PN:=aQ.pn) (LH:=aQ.lh F (ap.tw F) (ag.tw F) (bG.tw F)) (F:=F) (TB:=aQ.tb) (fn:=Try.f72) (code:=aQ.code) mixed tabs_ok (mkOrc_ok (aQ.cs_ok F)) Try.func72 (by kernel_rfl) (by kernel_rfl) aQ.ok (Nat.le_of_ble_eq_true (by kernel_rfl)) (aQ.loops F (ap.tw F) (ag.tw F) (bG.tw F)) (Eq.trans (aQ.eqX F (ap.tw F) (ag.tw F) (bG.tw F) aa ab ae aL bM H) h)
theorem aQ.mk_T {F:Nat} {args:List AV} {H:Hp} {v:AV} {H':Hp} (h:aQ.mk (aQ.tw F) args H = some (v,H')):Go.AE.T Try.prog 72 args H v H':=by
 unfold aQ.mk at h
 split at h
 ·exact aQ.T h
 ·cases h
noncomputable def aK.j2 (F:Nat) (cW:Sl→Int→Sl→Sl→Int→Hp→OA) (C29_:Nat→Nat→Int→Sl→Int→Int→Hp→OA) (pR:Nat) (Gg:Nat) (lA:Int) (Gh:Sl) (lB:Int) (lC:Int) (H76:Hp):OA:=C29_ pR Gg lA Gh lB (IntKind.i64.wrap (lC + 1)) H76
noncomputable def aK.l29 (F:Nat) (cW:Sl→Int→Sl→Sl→Int→Hp→OA) :Nat→Nat→Nat→Int→Sl→Int→Int→Hp→OA
 | 0,_,_,_,_,_,_,_=>none
 | dG + 1,bX,cu,dB,gA,ev,dp,H28=>(bif (decide (dp < ev)) then ((Sl.idx gA dp 1).bind fun p53=>(Hp.ldI H28 .i64 p53.1 p53.2).bind fun n54=>(Hp.ldSl H28 bX cu).bind fun s55=>(Sl.idx s55 dp 5).bind fun p56=>(Hp.ldI H28 .i64 p56.1 (p56.2 + 4)).bind fun n57=>(bif (n54 == n57) then (aK.j2 F cW (aK.l29 F cW dG) bX cu (IntKind.i64.wrap (dB + n54)) gA ev dp H28) else (aK.j2 F cW (aK.l29 F cW dG) bX cu dB gA ev dp H28))) else (some ((.int .i64 dB),H28)))
termination_by structural n=>n
noncomputable def aK.twX (F:Nat) (cW:Sl→Int→Sl→Sl→Int→Hp→OA) (aa:Sl) (ab:Int) (ae:Sl) (aL:Sl) (bM:Int) (H:Hp):OA:=(Hp.new H [(.sl aa),(.int .i64 ab)]).bind fun H6=>(Hp.new H6 [(.sl ae),(.sl aL)]).bind fun H7=>(Hp.ldSl H7 H.length 0).bind fun s8=>(Hp.ldI H7 .i64 H.length (0 + 1)).bind fun n9=>(Hp.ldSl H7 H6.length 0).bind fun s10=>(Hp.ldSl H7 H6.length (0 + 1)).bind fun s11=>(cW s8 n9 s10 s11 bM H7).bind fun r12=>((r12.1).asSl).bind fun s13=>aK.l29 F cW F H.length 0 0 s13 (s13.n:Int) 0 r12.2
noncomputable def aK.tw (F:Nat) (aa:Sl) (ab:Int) (ae:Sl) (aL:Sl) (bM:Int) (H:Hp):OA:=aK.twX F (aQ.tw F) aa ab ae aL bM H
noncomputable def aK.code:Go.Code:=(Try.f75.body).getD .skip
noncomputable def aK.lh29 (F:Nat) (cW:Sl→Int→Sl→Sl→Int→Hp→OA) (ks:List Nat) (n:Nat) (tm:Tm) (H:Hp):OA:=match ks,tm 3,tm 7,tm 13,tm 14,tm 15 with
 | [],(.ptr bX cu),(.int .i64 dB),(.sl gA),(.int .i64 ev),(.int .i64 dp)=>aK.l29 F cW n bX cu dB gA ev dp H
 | _,_,_,_,_,_=>none
theorem aK.lh29_inv {F:Nat} {cW:Sl→Int→Sl→Sl→Int→Hp→OA} {ks:List Nat} {n:Nat} {tm:Tm} {H:Hp} {r:AV×Hp} (h:aK.lh29 F cW ks n tm H = some r):∃ bX:Nat,∃ cu:Nat,∃ dB:Int,∃ gA:Sl,∃ ev:Int,∃ dp:Int,ks = []∧tm 3 = (.ptr bX cu)∧tm 7 = (.int .i64 dB)∧tm 13 = (.sl gA)∧tm 14 = (.int .i64 ev)∧tm 15 = (.int .i64 dp)∧aK.l29 F cW n bX cu dB gA ev dp H = some r:=by
 unfold aK.lh29 at h
 split at h
 ·exact ⟨_,_,_,_,_,_,rfl,by assumption,by assumption,by assumption,by assumption,by assumption,h⟩
 ·cases h
noncomputable def aK.lh (F:Nat) (cW:Sl→Int→Sl→Sl→Int→Hp→OA) (p:Nat) (ks:List Nat) (n:Nat) (tm:Tm) (H:Hp):OA:=bif p.beq 29 then aK.lh29 F cW ks n tm H else (none)
def aK.pn:Nat→List Nat:=fun i=>(([]:List (Nat×List Nat)).lookup i).getD []
def aK.tb:Nat→List (List Nat):=fun i=>(([]:List (Nat×List (List Nat))).lookup i).getD []
noncomputable def aK.mk (g:Sl→Int→Sl→Sl→Int→Hp→OA) (args:List AV) (H:Hp):OA:=match args with
 | [(.agg [(.sl aa),(.int .i64 ab)]),(.agg [(.sl ae),(.sl aL)]),(.int .i64 bM)]=>g aa ab ae aL bM H
 | _=>none
noncomputable def aK.cs (F:Nat) (cW:Sl→Int→Sl→Sl→Int→Hp→OA):List (FuncId×(List AV→Hp→OA)):=[(72,aQ.mk cW)]
theorem aK.loops (F:Nat) (cW:Sl→Int→Sl→Sl→Int→Hp→OA):LoopsOk tabs (mkOrc (aK.cs F cW)) aK.pn (aK.lh F cW) F [] 1 aK.code (fun tm H=>aresults tabs.ty H tm Try.f75.results.toList fun v=>some (v,H)) (fun _ _ _=>none) (fun tm H=>aresults tabs.ty H tm Try.f75.results.toList fun v=>some (v,H)):=by
 refine LoopsOk.seq ?_ ?_
 ·exact loops_none (by kernel_rfl)
 ·refine LoopsOk.seq ?_ ?_
  ·exact loops_none (by kernel_rfl)
  ·refine LoopsOk.seq ?_ ?_
   ·refine LoopsOk.seq ?_ ?_
    ·exact loops_none (by kernel_rfl)
    ·refine LoopsOk.block ?_
     refine LoopsOk.loop (fun tm H=>?_) (fun k29 tm H r h0=>?_) (fun k29=>?_)
     ·refine none_of fun r h0=>?_
      obtain ⟨bX,cu,dB,gA,ev,dp,hks,e3,e7,e13,e14,e15,h⟩:=aK.lh29_inv (show aK.lh29 F cW [] 0 tm H = some r from h0)
      cases h
     ·obtain ⟨bX,cu,dB,gA,ev,dp,hks,e3,e7,e13,e14,e15,h⟩:=aK.lh29_inv (show aK.lh29 F cW [] (k29 + 1) tm H = some r from h0)
      have q0:(Tm.put tm 3 (.ptr bX cu)) = tm:=by exact Tm.put_same e3
      have q1:(Tm.put (Tm.put tm 3 (.ptr bX cu)) 7 (.int .i64 dB)) = tm:=by rw [q0]; exact Tm.put_same e7
      have q2:(Tm.put (Tm.put (Tm.put tm 3 (.ptr bX cu)) 7 (.int .i64 dB)) 13 (.sl gA)) = tm:=by rw [q1]; exact Tm.put_same e13
      have q3:(Tm.put (Tm.put (Tm.put (Tm.put tm 3 (.ptr bX cu)) 7 (.int .i64 dB)) 13 (.sl gA)) 14 (.int .i64 ev)) = tm:=by rw [q2]; exact Tm.put_same e14
      have q4:(Tm.put (Tm.put (Tm.put (Tm.put (Tm.put tm 3 (.ptr bX cu)) 7 (.int .i64 dB)) 13 (.sl gA)) 14 (.int .i64 ev)) 15 (.int .i64 dp)) = tm:=by rw [q3]; exact Tm.put_same e15
      rw [← q4]
      exact Eq.trans (by kernel_rfl) h
     ·exact loops_none (by kernel_rfl)
   ·exact loops_none (by kernel_rfl)
theorem aK.eqX (F:Nat) (cW:Sl→Int→Sl→Sl→Int→Hp→OA) (aa:Sl) (ab:Int) (ae:Sl) (aL:Sl) (bM:Int) (H:Hp):aCode tabs (mkOrc (aK.cs F cW)) aK.pn (aK.lh F cW) F [] 1 aK.code (argTm [(.agg [(.sl aa),(.int .i64 ab)]),(.agg [(.sl ae),(.sl aL)]),(.int .i64 bM)]) H (fun tm H=>aresults tabs.ty H tm Try.f75.results.toList fun v=>some (v,H)) (fun _ _ _=>none) (fun tm H=>aresults tabs.ty H tm Try.f75.results.toList fun v=>some (v,H)) = aK.twX F cW aa ab ae aL bM H:=by kernel_rfl
theorem aK.cs_ok (F:Nat):∀ p ∈ aK.cs F (aQ.tw F),∀ args H v H',p.2 args H = some (v,H')→Go.AE.T Try.prog p.1 args H v H':=by
 intro p hp
 simp only [aK.cs,List.mem_cons,List.not_mem_nil,or_false] at hp
 subst hp
 exact fun args H v H' h=>aQ.mk_T h
theorem aK.ok:codeOk aK.pn Try.f75.ntmps aK.tb aK.code = true:=by kernel_rfl
theorem aK.T {F:Nat} {aa:Sl} {ab:Int} {ae:Sl} {aL:Sl} {bM:Int} {H:Hp} {v:AV} {H':Hp} (h:aK.tw F aa ab ae aL bM H = some (v,H')):Go.AE.T Try.prog 75 [(.agg [(.sl aa),(.int .i64 ab)]),(.agg [(.sl ae),(.sl aL)]),(.int .i64 bM)] H v H':=
 Go.AE.T.of (Y:=tabs) (C:=mkOrc (aK.cs F (aQ.tw F))) (PN:=aK.pn) (LH:=aK.lh F (aQ.tw F)) (F:=F) (TB:=aK.tb) (fn:=Try.f75) (code:=aK.code) mixed tabs_ok (mkOrc_ok (aK.cs_ok F)) Try.func75 (by kernel_rfl) (by kernel_rfl) aK.ok (Nat.le_of_ble_eq_true (by kernel_rfl)) (aK.loops F (aQ.tw F)) (Eq.trans (aK.eqX F (aQ.tw F) aa ab ae aL bM H) h)
theorem aK.mk_T {F:Nat} {args:List AV} {H:Hp} {v:AV} {H':Hp} (h:aK.mk (aK.tw F) args H = some (v,H')):Go.AE.T Try.prog 75 args H v H':=by
 unfold aK.mk at h
 split at h
 ·exact aK.T h
 ·cases h
noncomputable def bz.twX (F:Nat) (ia:Sl→Int→Hp→OA) (ib:Int→Hp→OA) (ic:Sl→Int→Sl→Sl→Int→Hp→OA) (aa:Sl) (ab:Int) (ae:Int) (H:Hp):OA:=(Hp.new H [(.sl aa),(.int .i64 ab)]).bind fun H4=>(Hp.ldSl H4 H.length 0).bind fun s5=>(Hp.ldI H4 .i64 H.length (0 + 1)).bind fun n6=>(ia s5 n6 H4).bind fun r7=>((r7.1).asTup 2).bind fun l8=>(l8[0]?).bind fun v9=>((v9).asAgg 2).bind fun l10=>(l10[0]?).bind fun v11=>((v11).asSl).bind fun s12=>(l10[1]?).bind fun v13=>((v13).asSl).bind fun s14=>(l8[1]?).bind fun v15=>((v15).asB).bind fun b16=>(Hp.new r7.2 [.sl ⟨none,0,.ex 0⟩,.sl ⟨none,0,.ex 0⟩]).bind fun H17=>(Hp.st H17 r7.2.length 0 (.sl s12)).bind fun H18=>(Hp.st H18 r7.2.length (0 + 1) (.sl s14)).bind fun H19=>(bif (!b16) then (some ((.tup [(.int .i64 0),(.int .i64 1)]),H19)) else ((ib ae H19).bind fun r20=>((r20.1).asB).bind fun b21=>(bif (!b21) then (some ((.tup [(.int .i64 0),(.int .i64 2)]),r20.2)) else ((Hp.ldSl r20.2 H.length 0).bind fun s22=>(Hp.ldI r20.2 .i64 H.length (0 + 1)).bind fun n23=>(Hp.ldSl r20.2 r7.2.length 0).bind fun s24=>(Hp.ldSl r20.2 r7.2.length (0 + 1)).bind fun s25=>(ic s22 n23 s24 s25 ae r20.2).bind fun r26=>((r26.1).asI .i64).bind fun n27=>some ((.tup [(.int .i64 n27),(.int .i64 0)]),r26.2)))))
noncomputable def bz.tw (F:Nat) (aa:Sl) (ab:Int) (ae:Int) (H:Hp):OA:=bz.twX F (bp.tw F) (bF.tw F) (aK.tw F) aa ab ae H
noncomputable def bz.code:Go.Code:=(Try.f29.body).getD .skip
noncomputable def bz.lh (F:Nat) (ia:Sl→Int→Hp→OA) (ib:Int→Hp→OA) (ic:Sl→Int→Sl→Sl→Int→Hp→OA) (p:Nat) (ks:List Nat) (n:Nat) (tm:Tm) (H:Hp):OA:=none
def bz.pn:Nat→List Nat:=fun i=>(([]:List (Nat×List Nat)).lookup i).getD []
def bz.tb:Nat→List (List Nat):=fun i=>(([]:List (Nat×List (List Nat))).lookup i).getD []
noncomputable def bz.mk (g:Sl→Int→Int→Hp→OA) (args:List AV) (H:Hp):OA:=match args with
 | [(.agg [(.sl aa),(.int .i64 ab)]),(.int .i64 ae)]=>g aa ab ae H
 | _=>none
noncomputable def bz.cs (F:Nat) (ia:Sl→Int→Hp→OA) (ib:Int→Hp→OA) (ic:Sl→Int→Sl→Sl→Int→Hp→OA):List (FuncId×(List AV→Hp→OA)):=[(69,bp.mk ia),(71,bF.mk ib),(75,aK.mk ic)]
theorem bz.loops (F:Nat) (ia:Sl→Int→Hp→OA) (ib:Int→Hp→OA) (ic:Sl→Int→Sl→Sl→Int→Hp→OA):LoopsOk tabs (mkOrc (bz.cs F ia ib ic)) bz.pn (bz.lh F ia ib ic) F [] 1 bz.code (fun tm H=>aresults tabs.ty H tm Try.f29.results.toList fun v=>some (v,H)) (fun _ _ _=>none) (fun tm H=>aresults tabs.ty H tm Try.f29.results.toList fun v=>some (v,H)):=by
 exact loops_none (by kernel_rfl)
theorem bz.eqX (F:Nat) (ia:Sl→Int→Hp→OA) (ib:Int→Hp→OA) (ic:Sl→Int→Sl→Sl→Int→Hp→OA) (aa:Sl) (ab:Int) (ae:Int) (H:Hp):aCode tabs (mkOrc (bz.cs F ia ib ic)) bz.pn (bz.lh F ia ib ic) F [] 1 bz.code (argTm [(.agg [(.sl aa),(.int .i64 ab)]),(.int .i64 ae)]) H (fun tm H=>aresults tabs.ty H tm Try.f29.results.toList fun v=>some (v,H)) (fun _ _ _=>none) (fun tm H=>aresults tabs.ty H tm Try.f29.results.toList fun v=>some (v,H)) = bz.twX F ia ib ic aa ab ae H:=by kernel_rfl
theorem bz.cs_ok (F:Nat):∀ p ∈ bz.cs F (bp.tw F) (bF.tw F) (aK.tw F),∀ args H v H',p.2 args H = some (v,H')→Go.AE.T Try.prog p.1 args H v H':=by
 intro p hp
 simp only [bz.cs,List.mem_cons,List.not_mem_nil,or_false] at hp
 rcases hp with rfl | rfl | rfl
 ·exact fun args H v H' h=>bp.mk_T h
 ·exact fun args H v H' h=>bF.mk_T h
 ·exact fun args H v H' h=>aK.mk_T h
theorem bz.ok:codeOk bz.pn Try.f29.ntmps bz.tb bz.code = true:=by kernel_rfl
theorem bz.T {F:Nat} {aa:Sl} {ab:Int} {ae:Int} {H:Hp} {v:AV} {H':Hp} (h:bz.tw F aa ab ae H = some (v,H')):Go.AE.T Try.prog 29 [(.agg [(.sl aa),(.int .i64 ab)]),(.int .i64 ae)] H v H':=
 Go.AE.T.of (Y:=tabs) (C:=mkOrc (bz.cs F (bp.tw F) (bF.tw F) (aK.tw F))) (PN:=bz.pn) (LH:=bz.lh F (bp.tw F) (bF.tw F) (aK.tw F)) (F:=F) (TB:=bz.tb) (fn:=Try.f29) (code:=bz.code) mixed tabs_ok (mkOrc_ok (bz.cs_ok F)) Try.func29 (by kernel_rfl) (by kernel_rfl) bz.ok (Nat.le_of_ble_eq_true (by kernel_rfl)) (bz.loops F (bp.tw F) (bF.tw F) (aK.tw F)) (Eq.trans (bz.eqX F (bp.tw F) (bF.tw F) (aK.tw F) aa ab ae H) h)
theorem bz.mk_T {F:Nat} {args:List AV} {H:Hp} {v:AV} {H':Hp} (h:bz.mk (bz.tw F) args H = some (v,H')):Go.AE.T Try.prog 29 args H v H':=by
 unfold bz.mk at h
 split at h
 ·exact bz.T h
 ·cases h
noncomputable def bH.twX (F:Nat) (aa:Int) (ab:Int) (aA:Int) (aB:Int) (az:Int) (bc:Int) (fx:Int) (fy:Int) (fz:Int) (fA:Int) (H:Hp):OA:=(Hp.new H [(.int .i64 aa),(.int .i64 ab),(.int .i64 aA),(.int .i64 aB),(.int .i64 az)]).bind fun H11=>(Hp.new H11 [(.int .i64 bc),(.int .i64 fx),(.int .i64 fy),(.int .i64 fz),(.int .i64 fA)]).bind fun H12=>(Hp.ldI H12 .i64 H.length 0).bind fun n13=>(Hp.ldI H12 .i64 H11.length 0).bind fun n14=>(bif (n13 != n14) then (some ((.bool false),H12)) else ((Hp.ldI H12 .i64 H.length 1).bind fun n15=>(Hp.ldI H12 .i64 H11.length 1).bind fun n16=>(bif (n15 != n16) then (some ((.bool false),H12)) else ((Hp.ldI H12 .i64 H.length 2).bind fun n17=>(Hp.ldI H12 .i64 H11.length 2).bind fun n18=>(bif (n17 != n18) then (some ((.bool false),H12)) else ((Hp.ldI H12 .i64 H.length 3).bind fun n19=>(Hp.ldI H12 .i64 H11.length 3).bind fun n20=>(bif (n19 != n20) then (some ((.bool false),H12)) else ((Hp.ldI H12 .i64 H.length 4).bind fun n21=>(Hp.ldI H12 .i64 H11.length 4).bind fun n22=>(bif (n21 != n22) then (some ((.bool false),H12)) else (some ((.bool true),H12)))))))))))
noncomputable def bH.tw (F:Nat) (aa:Int) (ab:Int) (aA:Int) (aB:Int) (az:Int) (bc:Int) (fx:Int) (fy:Int) (fz:Int) (fA:Int) (H:Hp):OA:=bH.twX F aa ab aA aB az bc fx fy fz fA H
noncomputable def bH.code:Go.Code:=(Try.f121.body).getD .skip
noncomputable def bH.lh (F:Nat) (p:Nat) (ks:List Nat) (n:Nat) (tm:Tm) (H:Hp):OA:=none
def bH.pn:Nat→List Nat:=fun i=>(([]:List (Nat×List Nat)).lookup i).getD []
def bH.tb:Nat→List (List Nat):=fun i=>(([]:List (Nat×List (List Nat))).lookup i).getD []
noncomputable def bH.mk (g:Int→Int→Int→Int→Int→Int→Int→Int→Int→Int→Hp→OA) (args:List AV) (H:Hp):OA:=match args with
 | [(.agg [(.int .i64 aa),(.int .i64 ab),(.int .i64 aA),(.int .i64 aB),(.int .i64 az)]),(.agg [(.int .i64 bc),(.int .i64 fx),(.int .i64 fy),(.int .i64 fz),(.int .i64 fA)])]=>g aa ab aA aB az bc fx fy fz fA H
 | _=>none
noncomputable def bH.cs (F:Nat):List (FuncId×(List AV→Hp→OA)):=[]
theorem bH.loops (F:Nat):LoopsOk tabs (mkOrc (bH.cs F)) bH.pn (bH.lh F) F [] 1 bH.code (fun tm H=>aresults tabs.ty H tm Try.f121.results.toList fun v=>some (v,H)) (fun _ _ _=>none) (fun tm H=>aresults tabs.ty H tm Try.f121.results.toList fun v=>some (v,H)):=by
 exact loops_none (by kernel_rfl)
theorem bH.eqX (F:Nat) (aa:Int) (ab:Int) (aA:Int) (aB:Int) (az:Int) (bc:Int) (fx:Int) (fy:Int) (fz:Int) (fA:Int) (H:Hp):aCode tabs (mkOrc (bH.cs F)) bH.pn (bH.lh F) F [] 1 bH.code (argTm [(.agg [(.int .i64 aa),(.int .i64 ab),(.int .i64 aA),(.int .i64 aB),(.int .i64 az)]),(.agg [(.int .i64 bc),(.int .i64 fx),(.int .i64 fy),(.int .i64 fz),(.int .i64 fA)])]) H (fun tm H=>aresults tabs.ty H tm Try.f121.results.toList fun v=>some (v,H)) (fun _ _ _=>none) (fun tm H=>aresults tabs.ty H tm Try.f121.results.toList fun v=>some (v,H)) = bH.twX F aa ab aA aB az bc fx fy fz fA H:=by kernel_rfl
theorem bH.cs_ok (F:Nat):∀ p ∈ bH.cs F,∀ args H v H',p.2 args H = some (v,H')→Go.AE.T Try.prog p.1 args H v H':=by
 intro p hp
 exact absurd (show p ∈ [] from hp) List.not_mem_nil
theorem bH.ok:codeOk bH.pn Try.f121.ntmps bH.tb bH.code = true:=by kernel_rfl
theorem bH.T {F:Nat} {aa:Int} {ab:Int} {aA:Int} {aB:Int} {az:Int} {bc:Int} {fx:Int} {fy:Int} {fz:Int} {fA:Int} {H:Hp} {v:AV} {H':Hp} (h:bH.tw F aa ab aA aB az bc fx fy fz fA H = some (v,H')):Go.AE.T Try.prog 121 [(.agg [(.int .i64 aa),(.int .i64 ab),(.int .i64 aA),(.int .i64 aB),(.int .i64 az)]),(.agg [(.int .i64 bc),(.int .i64 fx),(.int .i64 fy),(.int .i64 fz),(.int .i64 fA)])] H v H':=
 Go.AE.T.of (Y:=tabs) (C:=mkOrc (bH.cs F)) (PN:=bH.pn) (LH:=bH.lh F) (F:=F) (TB:=bH.tb) (fn:=Try.f121) (code:=bH.code) mixed tabs_ok (mkOrc_ok (bH.cs_ok F)) Try.func121 (by kernel_rfl) (by kernel_rfl) bH.ok (Nat.le_of_ble_eq_true (by kernel_rfl)) (bH.loops F) (Eq.trans (bH.eqX F aa ab aA aB az bc fx fy fz fA H) h)
theorem bH.mk_T {F:Nat} {args:List AV} {H:Hp} {v:AV} {H':Hp} (h:bH.mk (bH.tw F) args H = some (v,H')):Go.AE.T Try.prog 121 args H v H':=by
 unfold bH.mk at h
 split at h
 ·exact bH.T h
 ·cases h
noncomputable def aW.l29 (F:Nat) (ee:Int→Int→Int→Int→Int→Int→Int→Int→Int→Int→Hp→OA) :Nat→Sl→Sl→Int→Hp→OA
 | 0,_,_,_,_=>none
 | dG + 1,cK,ie,ef,H8=>(bif (decide (ef < (cK.n:Int))) then ((Sl.idx cK ef 5).bind fun p23=>(Hp.ldI H8 .i64 p23.1 p23.2).bind fun n24=>(Hp.ldI H8 .i64 p23.1 (p23.2 + 1)).bind fun n25=>(Hp.ldI H8 .i64 p23.1 (p23.2 + 2)).bind fun n26=>(Hp.ldI H8 .i64 p23.1 (p23.2 + 3)).bind fun n27=>(Hp.ldI H8 .i64 p23.1 (p23.2 + 4)).bind fun n28=>(Sl.idx ie ef 5).bind fun p29=>(Hp.ldI H8 .i64 p29.1 p29.2).bind fun n30=>(Hp.ldI H8 .i64 p29.1 (p29.2 + 1)).bind fun n31=>(Hp.ldI H8 .i64 p29.1 (p29.2 + 2)).bind fun n32=>(Hp.ldI H8 .i64 p29.1 (p29.2 + 3)).bind fun n33=>(Hp.ldI H8 .i64 p29.1 (p29.2 + 4)).bind fun n34=>(ee n24 n25 n26 n27 n28 n30 n31 n32 n33 n34 H8).bind fun r35=>((r35.1).asB).bind fun b36=>(bif (!b36) then (some ((.bool false),r35.2)) else (aW.l29 F ee dG cK ie (IntKind.i64.wrap (ef + 1)) r35.2))) else (some ((.bool true),H8)))
termination_by structural n=>n
noncomputable def aW.twX (F:Nat) (ee:Int→Int→Int→Int→Int→Int→Int→Int→Int→Int→Hp→OA) (aa:Sl) (ai:Sl) (H:Hp):OA:=(bif ((aa.n:Int) != (ai.n:Int)) then (some ((.bool false),H)) else (aW.l29 F ee F aa ai 0 H))
noncomputable def aW.tw (F:Nat) (aa:Sl) (ai:Sl) (H:Hp):OA:=aW.twX F (bH.tw F) aa ai H
noncomputable def aW.code:Go.Code:=(Try.f63.body).getD .skip
noncomputable def aW.lh29 (F:Nat) (ee:Int→Int→Int→Int→Int→Int→Int→Int→Int→Int→Hp→OA) (ks:List Nat) (n:Nat) (tm:Tm) (H:Hp):OA:=match ks,tm 0,tm 1,tm 5 with
 | [],(.sl cK),(.sl ie),(.int .i64 ef)=>aW.l29 F ee n cK ie ef H
 | _,_,_,_=>none
theorem aW.lh29_inv {F:Nat} {ee:Int→Int→Int→Int→Int→Int→Int→Int→Int→Int→Hp→OA} {ks:List Nat} {n:Nat} {tm:Tm} {H:Hp} {r:AV×Hp} (h:aW.lh29 F ee ks n tm H = some r):∃ cK:Sl,∃ ie:Sl,∃ ef:Int,ks = []∧tm 0 = (.sl cK)∧tm 1 = (.sl ie)∧tm 5 = (.int .i64 ef)∧aW.l29 F ee n cK ie ef H = some r:=by
 unfold aW.lh29 at h
 split at h
 ·exact ⟨_,_,_,rfl,by assumption,by assumption,by assumption,h⟩
 ·cases h
noncomputable def aW.lh (F:Nat) (ee:Int→Int→Int→Int→Int→Int→Int→Int→Int→Int→Hp→OA) (p:Nat) (ks:List Nat) (n:Nat) (tm:Tm) (H:Hp):OA:=bif p.beq 29 then aW.lh29 F ee ks n tm H else (none)
def aW.pn:Nat→List Nat:=fun i=>(([(6,[8])]:List (Nat×List Nat)).lookup i).getD []
def aW.tb:Nat→List (List Nat):=fun i=>(([(6,[[],[],[0,1],[0,1,2],[],[],[4,5],[4,5,6],[0,1,2,3,4,5,6,7],[0,1,2,3,4,5,6,7,8]])]:List (Nat×List (List Nat))).lookup i).getD []
noncomputable def aW.mk (g:Sl→Sl→Hp→OA) (args:List AV) (H:Hp):OA:=match args with
 | [(.sl aa),(.sl ai)]=>g aa ai H
 | _=>none
noncomputable def aW.cs (F:Nat) (ee:Int→Int→Int→Int→Int→Int→Int→Int→Int→Int→Hp→OA):List (FuncId×(List AV→Hp→OA)):=[(121,bH.mk ee)]
theorem aW.loops (F:Nat) (ee:Int→Int→Int→Int→Int→Int→Int→Int→Int→Int→Hp→OA):LoopsOk tabs (mkOrc (aW.cs F ee)) aW.pn (aW.lh F ee) F [] 1 aW.code (fun tm H=>aresults tabs.ty H tm Try.f63.results.toList fun v=>some (v,H)) (fun _ _ _=>none) (fun tm H=>aresults tabs.ty H tm Try.f63.results.toList fun v=>some (v,H)):=by
 refine LoopsOk.seq ?_ ?_
 ·exact loops_none (by kernel_rfl)
 ·refine LoopsOk.seq ?_ ?_
  ·exact loops_none (by kernel_rfl)
  ·refine LoopsOk.seq ?_ ?_
   ·refine LoopsOk.seq ?_ ?_
    ·exact loops_none (by kernel_rfl)
    ·refine LoopsOk.block ?_
     refine LoopsOk.loop (fun tm H=>?_) (fun k29 tm H r h0=>?_) (fun k29=>?_)
     ·refine none_of fun r h0=>?_
      obtain ⟨cK,ie,ef,hks,e0,e1,e5,h⟩:=aW.lh29_inv (show aW.lh29 F ee [] 0 tm H = some r from h0)
      cases h
     ·obtain ⟨cK,ie,ef,hks,e0,e1,e5,h⟩:=aW.lh29_inv (show aW.lh29 F ee [] (k29 + 1) tm H = some r from h0)
      have q0:(Tm.put tm 0 (.sl cK)) = tm:=by exact Tm.put_same e0
      have q1:(Tm.put (Tm.put tm 0 (.sl cK)) 1 (.sl ie)) = tm:=by rw [q0]; exact Tm.put_same e1
      have q2:(Tm.put (Tm.put (Tm.put tm 0 (.sl cK)) 1 (.sl ie)) 5 (.int .i64 ef)) = tm:=by rw [q1]; exact Tm.put_same e5
      rw [← q2]
      exact Eq.trans (by kernel_rfl) h
     ·exact loops_none (by kernel_rfl)
   ·exact loops_none (by kernel_rfl)
theorem aW.eqX (F:Nat) (ee:Int→Int→Int→Int→Int→Int→Int→Int→Int→Int→Hp→OA) (aa:Sl) (ai:Sl) (H:Hp):aCode tabs (mkOrc (aW.cs F ee)) aW.pn (aW.lh F ee) F [] 1 aW.code (argTm [(.sl aa),(.sl ai)]) H (fun tm H=>aresults tabs.ty H tm Try.f63.results.toList fun v=>some (v,H)) (fun _ _ _=>none) (fun tm H=>aresults tabs.ty H tm Try.f63.results.toList fun v=>some (v,H)) = aW.twX F ee aa ai H:=by kernel_rfl
theorem aW.cs_ok (F:Nat):∀ p ∈ aW.cs F (bH.tw F),∀ args H v H',p.2 args H = some (v,H')→Go.AE.T Try.prog p.1 args H v H':=by
 intro p hp
 simp only [aW.cs,List.mem_cons,List.not_mem_nil,or_false] at hp
 subst hp
 exact fun args H v H' h=>bH.mk_T h
theorem aW.ok:codeOk aW.pn Try.f63.ntmps aW.tb aW.code = true:=by kernel_rfl
theorem aW.T {F:Nat} {aa:Sl} {ai:Sl} {H:Hp} {v:AV} {H':Hp} (h:aW.tw F aa ai H = some (v,H')):Go.AE.T Try.prog 63 [(.sl aa),(.sl ai)] H v H':=
 Go.AE.T.of (Y:=tabs) (C:=mkOrc (aW.cs F (bH.tw F))) (PN:=aW.pn) (LH:=aW.lh F (bH.tw F)) (F:=F) (TB:=aW.tb) (fn:=Try.f63) (code:=aW.code) mixed tabs_ok (mkOrc_ok (aW.cs_ok F)) Try.func63 (by kernel_rfl) (by kernel_rfl) aW.ok (Nat.le_of_ble_eq_true (by kernel_rfl)) (aW.loops F (bH.tw F)) (Eq.trans (aW.eqX F (bH.tw F) aa ai H) h)
theorem aW.mk_T {F:Nat} {args:List AV} {H:Hp} {v:AV} {H':Hp} (h:aW.mk (aW.tw F) args H = some (v,H')):Go.AE.T Try.prog 63 args H v H':=by
 unfold aW.mk at h
 split at h
 ·exact aW.T h
 ·cases h
noncomputable def bA.twX (F:Nat) (ig:Sl→Sl→Hp→OA) (aa:Sl) (ab:Int) (ae:Sl) (aL:Int) (H:Hp):OA:=(Hp.new H [(.sl aa),(.int .i64 ab)]).bind fun H5=>(Hp.new H5 [(.sl ae),(.int .i64 aL)]).bind fun H6=>(Hp.ldSl H6 H.length 0).bind fun s7=>(Hp.ldSl H6 H5.length 0).bind fun s8=>(ig s7 s8 H6).bind fun r9=>((r9.1).asB).bind fun b10=>(bif (!b10) then (some ((.bool false),r9.2)) else ((Hp.ldI r9.2 .i64 H.length 1).bind fun n11=>(Hp.ldI r9.2 .i64 H5.length 1).bind fun n12=>(bif (n11 != n12) then (some ((.bool false),r9.2)) else (some ((.bool true),r9.2)))))
noncomputable def bA.tw (F:Nat) (aa:Sl) (ab:Int) (ae:Sl) (aL:Int) (H:Hp):OA:=bA.twX F (aW.tw F) aa ab ae aL H
noncomputable def bA.code:Go.Code:=(Try.f20.body).getD .skip
noncomputable def bA.lh (F:Nat) (ig:Sl→Sl→Hp→OA) (p:Nat) (ks:List Nat) (n:Nat) (tm:Tm) (H:Hp):OA:=none
def bA.pn:Nat→List Nat:=fun i=>(([]:List (Nat×List Nat)).lookup i).getD []
def bA.tb:Nat→List (List Nat):=fun i=>(([]:List (Nat×List (List Nat))).lookup i).getD []
noncomputable def bA.mk (g:Sl→Int→Sl→Int→Hp→OA) (args:List AV) (H:Hp):OA:=match args with
 | [(.agg [(.sl aa),(.int .i64 ab)]),(.agg [(.sl ae),(.int .i64 aL)])]=>g aa ab ae aL H
 | _=>none
noncomputable def bA.cs (F:Nat) (ig:Sl→Sl→Hp→OA):List (FuncId×(List AV→Hp→OA)):=[(63,aW.mk ig)]
theorem bA.loops (F:Nat) (ig:Sl→Sl→Hp→OA):LoopsOk tabs (mkOrc (bA.cs F ig)) bA.pn (bA.lh F ig) F [] 1 bA.code (fun tm H=>aresults tabs.ty H tm Try.f20.results.toList fun v=>some (v,H)) (fun _ _ _=>none) (fun tm H=>aresults tabs.ty H tm Try.f20.results.toList fun v=>some (v,H)):=by
 exact loops_none (by kernel_rfl)
theorem bA.eqX (F:Nat) (ig:Sl→Sl→Hp→OA) (aa:Sl) (ab:Int) (ae:Sl) (aL:Int) (H:Hp):aCode tabs (mkOrc (bA.cs F ig)) bA.pn (bA.lh F ig) F [] 1 bA.code (argTm [(.agg [(.sl aa),(.int .i64 ab)]),(.agg [(.sl ae),(.int .i64 aL)])]) H (fun tm H=>aresults tabs.ty H tm Try.f20.results.toList fun v=>some (v,H)) (fun _ _ _=>none) (fun tm H=>aresults tabs.ty H tm Try.f20.results.toList fun v=>some (v,H)) = bA.twX F ig aa ab ae aL H:=by kernel_rfl
theorem bA.cs_ok (F:Nat):∀ p ∈ bA.cs F (aW.tw F),∀ args H v H',p.2 args H = some (v,H')→Go.AE.T Try.prog p.1 args H v H':=by
 intro p hp
 simp only [bA.cs,List.mem_cons,List.not_mem_nil,or_false] at hp
 subst hp
 exact fun args H v H' h=>aW.mk_T h
theorem bA.ok:codeOk bA.pn Try.f20.ntmps bA.tb bA.code = true:=by kernel_rfl
theorem bA.T {F:Nat} {aa:Sl} {ab:Int} {ae:Sl} {aL:Int} {H:Hp} {v:AV} {H':Hp} (h:bA.tw F aa ab ae aL H = some (v,H')):Go.AE.T Try.prog 20 [(.agg [(.sl aa),(.int .i64 ab)]),(.agg [(.sl ae),(.int .i64 aL)])] H v H':=
 Go.AE.T.of (Y:=tabs) (C:=mkOrc (bA.cs F (aW.tw F))) (PN:=bA.pn) (LH:=bA.lh F (aW.tw F)) (F:=F) (TB:=bA.tb) (fn:=Try.f20) (code:=bA.code) mixed tabs_ok (mkOrc_ok (bA.cs_ok F)) Try.func20 (by kernel_rfl) (by kernel_rfl) bA.ok (Nat.le_of_ble_eq_true (by kernel_rfl)) (bA.loops F (aW.tw F)) (Eq.trans (bA.eqX F (aW.tw F) aa ab ae aL H) h)
theorem bA.mk_T {F:Nat} {args:List AV} {H:Hp} {v:AV} {H':Hp} (h:bA.mk (bA.tw F) args H = some (v,H')):Go.AE.T Try.prog 20 args H v H':=by
 unfold bA.mk at h
 split at h
 ·exact bA.T h
 ·cases h
noncomputable def bL.twX (F:Nat) (ii:Sl→Int→Int→Hp→OA) (gB:Sl→Int→Hp→OA) (ij:Sl→Int→Int→Hp→OA) (ik:Sl→Int→Int→Hp→OA) (il:Sl→Int→Sl→Int→Hp→OA) (aa:Sl) (ab:Int) (ae:Int) (H:Hp):OA:=(Hp.new H [(.sl aa),(.int .i64 ab)]).bind fun H4=>(Hp.ldSl H4 H.length 0).bind fun s5=>(Hp.ldI H4 .i64 H.length (0 + 1)).bind fun n6=>(ii s5 n6 1048576 H4).bind fun r7=>((r7.1).asI .i64).bind fun n8=>(bif (decide (n8 < 0)) then (some ((.bool true),r7.2)) else ((Hp.ldSl r7.2 H.length 0).bind fun s9=>(Hp.ldI r7.2 .i64 H.length (0 + 1)).bind fun n10=>(gB s9 n10 r7.2).bind fun r11=>((r11.1).asAgg 2).bind fun l12=>(l12[0]?).bind fun v13=>((v13).asSl).bind fun s14=>(l12[1]?).bind fun v15=>((v15).asI .i64).bind fun n16=>(ij s14 n16 ae r11.2).bind fun r17=>((r17.1).asTup 2).bind fun l18=>(l18[0]?).bind fun v19=>((v19).asI .i64).bind fun n20=>(l18[1]?).bind fun v21=>((v21).asI .i64).bind fun n22=>(Hp.ldSl r17.2 H.length 0).bind fun s23=>(Hp.ldI r17.2 .i64 H.length (0 + 1)).bind fun n24=>(gB s23 n24 r17.2).bind fun r25=>((r25.1).asAgg 2).bind fun l26=>(l26[0]?).bind fun v27=>((v27).asSl).bind fun s28=>(l26[1]?).bind fun v29=>((v29).asI .i64).bind fun n30=>(Hp.new r25.2 [.sl ⟨none,0,.ex 0⟩,.int .i64 0]).bind fun H31=>(Hp.st H31 r25.2.length 0 (.sl s28)).bind fun H32=>(Hp.st H32 r25.2.length (0 + 1) (.int .i64 n30)).bind fun H33=>(Hp.ldSl H33 r25.2.length 0).bind fun s34=>(Hp.ldI H33 .i64 r25.2.length (0 + 1)).bind fun n35=>(ik s34 n35 ae H33).bind fun r36=>((r36.1).asTup 2).bind fun l37=>(l37[0]?).bind fun v38=>((v38).asI .i64).bind fun n39=>(l37[1]?).bind fun v40=>((v40).asI .i64).bind fun n41=>(bif (n39 != n20) then (some ((.bool false),r36.2)) else ((bif (n41 != n22) then (some ((.bool false),r36.2)) else ((Hp.ldSl r36.2 r25.2.length 0).bind fun s42=>(Hp.ldI r36.2 .i64 r25.2.length (0 + 1)).bind fun n43=>(Hp.ldSl r36.2 H.length 0).bind fun s44=>(Hp.ldI r36.2 .i64 H.length (0 + 1)).bind fun n45=>(gB s44 n45 r36.2).bind fun r46=>((r46.1).asAgg 2).bind fun l47=>(l47[0]?).bind fun v48=>((v48).asSl).bind fun s49=>(l47[1]?).bind fun v50=>((v50).asI .i64).bind fun n51=>(if Cons r36.2 r46.2 then ((il s42 n43 s49 n51 r46.2).bind fun r52=>((r52.1).asB).bind fun b53=>(bif (!b53) then (some ((.bool false),r52.2)) else (some ((.bool true),r52.2)))) else none)))))))
noncomputable def bL.tw (F:Nat) (aa:Sl) (ab:Int) (ae:Int) (H:Hp):OA:=bL.twX F (bt.tw F) (br.tw F) (bw.tw F) (bz.tw F) (bA.tw F) aa ab ae H
noncomputable def bL.code:Go.Code:=(Try.f6.body).getD .skip
noncomputable def bL.lh (F:Nat) (ii:Sl→Int→Int→Hp→OA) (gB:Sl→Int→Hp→OA) (ij:Sl→Int→Int→Hp→OA) (ik:Sl→Int→Int→Hp→OA) (il:Sl→Int→Sl→Int→Hp→OA) (p:Nat) (ks:List Nat) (n:Nat) (tm:Tm) (H:Hp):OA:=none
def bL.pn:Nat→List Nat:=fun i=>(([(10,[3])]:List (Nat×List Nat)).lookup i).getD []
def bL.tb:Nat→List (List Nat):=fun i=>(([(10,[[],[],[1],[0,1,2],[0,1,2,3]])]:List (Nat×List (List Nat))).lookup i).getD []
noncomputable def bL.mk (g:Sl→Int→Int→Hp→OA) (args:List AV) (H:Hp):OA:=match args with
 | [(.agg [(.sl aa),(.int .i64 ab)]),(.int .i64 ae)]=>g aa ab ae H
 | _=>none
noncomputable def bL.cs (F:Nat) (ii:Sl→Int→Int→Hp→OA) (gB:Sl→Int→Hp→OA) (ij:Sl→Int→Int→Hp→OA) (ik:Sl→Int→Int→Hp→OA) (il:Sl→Int→Sl→Int→Hp→OA):List (FuncId×(List AV→Hp→OA)):=[(15,bt.mk ii),(17,br.mk gB),(28,bw.mk ij),(29,bz.mk ik),(20,bA.mk il)]
theorem bL.loops (F:Nat) (ii:Sl→Int→Int→Hp→OA) (gB:Sl→Int→Hp→OA) (ij:Sl→Int→Int→Hp→OA) (ik:Sl→Int→Int→Hp→OA) (il:Sl→Int→Sl→Int→Hp→OA):LoopsOk tabs (mkOrc (bL.cs F ii gB ij ik il)) bL.pn (bL.lh F ii gB ij ik il) F [] 1 bL.code (fun tm H=>aresults tabs.ty H tm Try.f6.results.toList fun v=>some (v,H)) (fun _ _ _=>none) (fun tm H=>aresults tabs.ty H tm Try.f6.results.toList fun v=>some (v,H)):=by
 exact loops_none (by kernel_rfl)
theorem bL.eqX (F:Nat) (ii:Sl→Int→Int→Hp→OA) (gB:Sl→Int→Hp→OA) (ij:Sl→Int→Int→Hp→OA) (ik:Sl→Int→Int→Hp→OA) (il:Sl→Int→Sl→Int→Hp→OA) (aa:Sl) (ab:Int) (ae:Int) (H:Hp):aCode tabs (mkOrc (bL.cs F ii gB ij ik il)) bL.pn (bL.lh F ii gB ij ik il) F [] 1 bL.code (argTm [(.agg [(.sl aa),(.int .i64 ab)]),(.int .i64 ae)]) H (fun tm H=>aresults tabs.ty H tm Try.f6.results.toList fun v=>some (v,H)) (fun _ _ _=>none) (fun tm H=>aresults tabs.ty H tm Try.f6.results.toList fun v=>some (v,H)) = bL.twX F ii gB ij ik il aa ab ae H:=by kernel_rfl
theorem bL.cs_ok (F:Nat):∀ p ∈ bL.cs F (bt.tw F) (br.tw F) (bw.tw F) (bz.tw F) (bA.tw F),∀ args H v H',p.2 args H = some (v,H')→Go.AE.T Try.prog p.1 args H v H':=by
 intro p hp
 simp only [bL.cs,List.mem_cons,List.not_mem_nil,or_false] at hp
 rcases hp with rfl | rfl | rfl | rfl | rfl
 ·exact fun args H v H' h=>bt.mk_T h
 ·exact fun args H v H' h=>br.mk_T h
 ·exact fun args H v H' h=>bw.mk_T h
 ·exact fun args H v H' h=>bz.mk_T h
 ·exact fun args H v H' h=>bA.mk_T h
theorem bL.ok:codeOk bL.pn Try.f6.ntmps bL.tb bL.code = true:=by kernel_rfl
theorem bL.T {F:Nat} {aa:Sl} {ab:Int} {ae:Int} {H:Hp} {v:AV} {H':Hp} (h:bL.tw F aa ab ae H = some (v,H')):Go.AE.T Try.prog 6 [(.agg [(.sl aa),(.int .i64 ab)]),(.int .i64 ae)] H v H':=
 Go.AE.T.of (Y:=tabs) (C:=mkOrc (bL.cs F (bt.tw F) (br.tw F) (bw.tw F) (bz.tw F) (bA.tw F))) (PN:=bL.pn) (LH:=bL.lh F (bt.tw F) (br.tw F) (bw.tw F) (bz.tw F) (bA.tw F)) (F:=F) (TB:=bL.tb) (fn:=Try.f6) (code:=bL.code) mixed tabs_ok (mkOrc_ok (bL.cs_ok F)) Try.func6 (by kernel_rfl) (by kernel_rfl) bL.ok (Nat.le_of_ble_eq_true (by kernel_rfl)) (bL.loops F (bt.tw F) (br.tw F) (bw.tw F) (bz.tw F) (bA.tw F)) (Eq.trans (bL.eqX F (bt.tw F) (br.tw F) (bw.tw F) (bz.tw F) (bA.tw F) aa ab ae H) h)
theorem bL.mk_T {F:Nat} {args:List AV} {H:Hp} {v:AV} {H':Hp} (h:bL.mk (bL.tw F) args H = some (v,H')):Go.AE.T Try.prog 6 args H v H':=by
 unfold bL.mk at h
 split at h
 ·exact bL.T h
 ·cases h
end Go.Proofs.Ythfinhmkgdmelaa.AE
