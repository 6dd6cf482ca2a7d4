import Derived.Test.YtnkgeongfneafaaT1
import Derived.Test.YtnkgeongfneafaaTab1
set_option linter.unusedVariables false
set_option linter.unusedSimpArgs false
namespace Go.Proofs.Ytnkgeongfneafaa.AE
open Go Go.AE Go.Proofs
set_option linter.unusedVariables false
set_option maxHeartbeats 4000000
set_option maxRecDepth 100000
noncomputable section
def cZ.cs (F:Nat) (ie:Nat→Nat→Int→Int→Sl→Int→Int→Int→Hp→OA) (ig:Nat→Nat→Int→Int→Sl→Int→Int→Int→Hp→OA):List (FuncId×(List AV→Hp→OA)):=[(157,bJ.mk ie),(158,bK.mk ig)]
theorem cZ.loops (F:Nat) (ie:Nat→Nat→Int→Int→Sl→Int→Int→Int→Hp→OA) (ig:Nat→Nat→Int→Int→Sl→Int→Int→Int→Hp→OA):LoopsOk tabs (mkOrc (cZ.cs F ie ig)) cZ.pn (cZ.lh F ie ig) F [] 1 cZ.code (fun tm H=>aresults tabs.ty H tm Try.f137.results.toList fun v=>some (v,H)) (fun _ _ _=>none) (fun tm H=>aresults tabs.ty H tm Try.f137.results.toList fun v=>some (v,H)):=by
 exact loops_none (by kernel_rfl)
theorem cZ.eqX (F:Nat) (ie:Nat→Nat→Int→Int→Sl→Int→Int→Int→Hp→OA) (ig:Nat→Nat→Int→Int→Sl→Int→Int→Int→Hp→OA) (aa:Nat) (ac:Nat) (ae:Int) (bG:Int) (cA:Int) (H:Hp):aCode tabs (mkOrc (cZ.cs F ie ig)) cZ.pn (cZ.lh F ie ig) F [] 1 cZ.code (argTm [(.ptr aa ac),(.int .i64 ae),(.int .i64 bG),(.int .i64 cA)]) H (fun tm H=>aresults tabs.ty H tm Try.f137.results.toList fun v=>some (v,H)) (fun _ _ _=>none) (fun tm H=>aresults tabs.ty H tm Try.f137.results.toList fun v=>some (v,H)) = cZ.twX F ie ig aa ac ae bG cA H:=by kernel_rfl
theorem cZ.cs_ok (F:Nat):∀ p ∈ cZ.cs F (bJ.tw F) (bK.tw F),∀ args H v H',p.2 args H = some (v,H')→Go.AE.T Try.prog p.1 args H v H':=by
 intro p hp
 simp only [cZ.cs,List.mem_cons,List.not_mem_nil,or_false] at hp
 rcases hp with rfl | rfl
 ·exact fun args H v H' h=>bJ.mk_T h
 ·exact fun args H v H' h=>bK.mk_T h
theorem cZ.ok:codeOk cZ.pn Try.f137.ntmps cZ.tb cZ.code = true:=by kernel_rfl
theorem cZ.T {F:Nat} {aa:Nat} {ac:Nat} {ae:Int} {bG:Int} {cA:Int} {H:Hp} {v:AV} {H':Hp} (h:cZ.tw F aa ac ae bG cA H = some (v,H')):Go.AE.T Try.prog 137 [(.ptr aa ac),(.int .i64 ae),(.int .i64 bG),(.int .i64 cA)] H v H':=
 Go.AE.T.of (Y:=tabs) (C:=mkOrc (cZ.cs F (bJ.tw F) (bK.tw F))) (PN:=cZ.pn) (LH:=cZ.lh F (bJ.tw F) (bK.tw F)) (F:=F) (TB:=cZ.tb) (fn:=Try.f137) (code:=cZ.code) mixed tabs_ok (mkOrc_ok (cZ.cs_ok F)) Try.func137 (by kernel_rfl) (by kernel_rfl) cZ.ok (Nat.le_of_ble_eq_true (by kernel_rfl)) (cZ.loops F (bJ.tw F) (bK.tw F)) (Eq.trans (cZ.eqX F (bJ.tw F) (bK.tw F) aa ac ae bG cA H) h)
theorem cZ.mk_T {F:Nat} {args:List AV} {H:Hp} {v:AV} {H':Hp} (h:cZ.mk (cZ.tw F) args H = some (v,H')):Go.AE.T Try.prog 137 args H v H':=by
 unfold cZ.mk at h
 split at h
 ·exact cZ.T h
 ·cases h
def dH.twX (F:Nat) (ig:Nat→Nat→Int→Int→Sl→Int→Int→Int→Hp→OA) (ie:Nat→Nat→Int→Int→Sl→Int→Int→Int→Hp→OA) (aa:Nat) (ac:Nat) (ae:Int) (bG:Int) (cA:Int) (H:Hp):OA:=(Hp.ldI H .i64 aa (ac + 6)).bind fun n6=>(Hp.ldI H .i64 aa ((ac + 6) + 1)).bind fun n7=>(Hp.ldSl H aa ((ac + 6) + 2)).bind fun s8=>(ig aa ac n6 n7 s8 ae bG cA H).bind fun r9=>(Hp.ldI r9.2 .i64 aa (ac + 9)).bind fun n10=>(Hp.ldI r9.2 .i64 aa ((ac + 9) + 1)).bind fun n11=>(Hp.ldSl r9.2 aa ((ac + 9) + 2)).bind fun s12=>(ig aa ac n10 n11 s12 ae bG cA r9.2).bind fun r13=>(Hp.ldI r13.2 .i64 aa (ac + 12)).bind fun n14=>(Hp.ldI r13.2 .i64 aa ((ac + 12) + 1)).bind fun n15=>(Hp.ldSl r13.2 aa ((ac + 12) + 2)).bind fun s16=>(ie aa ac n14 n15 s16 bG ae (IntKind.i64.wrap (0 - cA)) r13.2).bind fun r17=>some ((.tup []),r17.2)
def dH.tw (F:Nat) (aa:Nat) (ac:Nat) (ae:Int) (bG:Int) (cA:Int) (H:Hp):OA:=dH.twX F (bK.tw F) (bJ.tw F) aa ac ae bG cA H
def dH.code:Go.Code:=(Try.f154.body).getD .skip
def dH.lh (F:Nat) (ig:Nat→Nat→Int→Int→Sl→Int→Int→Int→Hp→OA) (ie:Nat→Nat→Int→Int→Sl→Int→Int→Int→Hp→OA) (p:Nat) (ks:List Nat) (n:Nat) (tm:Tm) (H:Hp):OA:=none
def dH.pn:Nat→List Nat:=fun i=>(([]:List (Nat×List Nat)).lookup i).getD []
def dH.tb:Nat→List (List Nat):=fun i=>(([]:List (Nat×List (List Nat))).lookup i).getD []
def dH.mk (g:Nat→Nat→Int→Int→Int→Hp→OA) (args:List AV) (H:Hp):OA:=match args with
 | [(.ptr aa ac),(.int .i64 ae),(.int .i64 bG),(.int .i64 cA)]=>g aa ac ae bG cA H
 | _=>none
def dH.cs (F:Nat) (ig:Nat→Nat→Int→Int→Sl→Int→Int→Int→Hp→OA) (ie:Nat→Nat→Int→Int→Sl→Int→Int→Int→Hp→OA):List (FuncId×(List AV→Hp→OA)):=[(158,bK.mk ig),(157,bJ.mk ie)]
theorem dH.loops (F:Nat) (ig:Nat→Nat→Int→Int→Sl→Int→Int→Int→Hp→OA) (ie:Nat→Nat→Int→Int→Sl→Int→Int→Int→Hp→OA):LoopsOk tabs (mkOrc (dH.cs F ig ie)) dH.pn (dH.lh F ig ie) F [] 1 dH.code (fun tm H=>aresults tabs.ty H tm Try.f154.results.toList fun v=>some (v,H)) (fun _ _ _=>none) (fun tm H=>aresults tabs.ty H tm Try.f154.results.toList fun v=>some (v,H)):=by
 exact loops_none (by kernel_rfl)
theorem dH.eqX (F:Nat) (ig:Nat→Nat→Int→Int→Sl→Int→Int→Int→Hp→OA) (ie:Nat→Nat→Int→Int→Sl→Int→Int→Int→Hp→OA) (aa:Nat) (ac:Nat) (ae:Int) (bG:Int) (cA:Int) (H:Hp):aCode tabs (mkOrc (dH.cs F ig ie)) dH.pn (dH.lh F ig ie) F [] 1 dH.code (argTm [(.ptr aa ac),(.int .i64 ae),(.int .i64 bG),(.int .i64 cA)]) H (fun tm H=>aresults tabs.ty H tm Try.f154.results.toList fun v=>some (v,H)) (fun _ _ _=>none) (fun tm H=>aresults tabs.ty H tm Try.f154.results.toList fun v=>some (v,H)) = dH.twX F ig ie aa ac ae bG cA H:=by kernel_rfl
theorem dH.cs_ok (F:Nat):∀ p ∈ dH.cs F (bK.tw F) (bJ.tw F),∀ args H v H',p.2 args H = some (v,H')→Go.AE.T Try.prog p.1 args H v H':=by
 intro p hp
 simp only [dH.cs,List.mem_cons,List.not_mem_nil,or_false] at hp
 rcases hp with rfl | rfl
 ·exact fun args H v H' h=>bK.mk_T h
 ·exact fun args H v H' h=>bJ.mk_T h
theorem dH.ok:codeOk dH.pn Try.f154.ntmps dH.tb dH.code = true:=by kernel_rfl
theorem dH.T {F:Nat} {aa:Nat} {ac:Nat} {ae:Int} {bG:Int} {cA:Int} {H:Hp} {v:AV} {H':Hp} (h:dH.tw F aa ac ae bG cA H = some (v,H')):Go.AE.T Try.prog 154 [(.ptr aa ac),(.int .i64 ae),(.int .i64 bG),(.int .i64 cA)] H v H':=
 Go.AE.T.of (Y:=tabs) (C:=mkOrc (dH.cs F (bK.tw F) (bJ.tw F))) (PN:=dH.pn) (LH:=dH.lh F (bK.tw F) (bJ.tw F)) (F:=F) (TB:=dH.tb) (fn:=Try.f154) (code:=dH.code) mixed tabs_ok (mkOrc_ok (dH.cs_ok F)) Try.func154 (by kernel_rfl) (by kernel_rfl) dH.ok (Nat.le_of_ble_eq_true (by kernel_rfl)) (dH.loops F (bK.tw F) (bJ.tw F)) (Eq.trans (dH.eqX F (bK.tw F) (bJ.tw F) aa ac ae bG cA H) h)
theorem dH.mk_T {F:Nat} {args:List AV} {H:Hp} {v:AV} {H':Hp} (h:dH.mk (dH.tw F) args H = some (v,H')):Go.AE.T Try.prog 154 args H v H':=by
 unfold dH.mk at h
 split at h
 ·exact dH.T h
 ·cases h
def aJ.j3 (F:Nat) (ah:Int→Int→Sl→Int→Int→Hp→OA) (fx:Int→Int→Hp→OA) (db:Nat→Nat→Int→Int→Int→Hp→OA) (fy:Nat→Nat→Int→Int→Int→Hp→OA) (C15_:Nat→Nat→Int→Nat→Nat→Int→Hp→OA) (AL:Nat) (AM:Nat) (pu:Int) (rz:Nat) (AN:Nat) (pv:Int) (H119:Hp):OA:=C15_ AL AM pu rz AN (IntKind.i64.wrap (pv + 1)) H119
def aJ.l15 (F:Nat) (ah:Int→Int→Sl→Int→Int→Hp→OA) (fx:Int→Int→Hp→OA) (db:Nat→Nat→Int→Int→Int→Hp→OA) (fy:Nat→Nat→Int→Int→Int→Hp→OA) :Nat→Nat→Nat→Int→Nat→Nat→Int→Hp→OA
 | 0,_,_,_,_,_,_,_=>none
 | ws + 1,gE,gF,fK,iu,km,ii,H61=>(Hp.ldI H61 .i64 iu (km + 1)).bind fun n91=>(bif (decide (ii < n91)) then ((Hp.ldB H61 gE (gF + 15)).bind fun b92=>(bif (!b92) then ((Hp.ldI H61 .i64 iu km).bind fun n93=>(Hp.ldI H61 .i64 iu (km + 1)).bind fun n94=>(Hp.ldSl H61 iu (km + 2)).bind fun s95=>(ah n93 n94 s95 fK ii H61).bind fun r96=>((r96.1).asP).bind fun p97=>(if Cons H61 r96.2 then ((Hp.ldI r96.2 .i64 p97.1 p97.2).bind fun n98=>(Hp.ldI r96.2 .i64 iu km).bind fun n99=>(Hp.ldI r96.2 .i64 iu (km + 1)).bind fun n100=>(Hp.ldSl r96.2 iu (km + 2)).bind fun s101=>(ah n99 n100 s101 fK fK r96.2).bind fun r102=>((r102.1).asP).bind fun p103=>(if Cons r96.2 r102.2 then ((Hp.ldI r102.2 .i64 p103.1 p103.2).bind fun n104=>(fx n98 n104 r102.2).bind fun r105=>((r105.1).asI .i64).bind fun n106=>(bif (n106 != 0) then ((fy gE gF ii fK (IntKind.i64.wrap (0 - n106)) r105.2).bind fun r107=>aJ.j3 F ah fx db fy (aJ.l15 F ah fx db fy ws) gE gF fK iu km ii r107.2) else (aJ.j3 F ah fx db fy (aJ.l15 F ah fx db fy ws) gE gF fK iu km ii r105.2))) else none)) else none)) else (some ((.tup []),H61)))) else (some ((.tup []),H61)))
termination_by structural n=>n
def aJ.j4 (F:Nat) (ah:Int→Int→Sl→Int→Int→Hp→OA) (fx:Int→Int→Hp→OA) (db:Nat→Nat→Int→Int→Int→Hp→OA) (fy:Nat→Nat→Int→Int→Int→Hp→OA) (AO:Nat) (AP:Nat) (nw:Int) (rA:Nat) (AQ:Nat) (H52:Hp):OA:=aJ.l15 F ah fx db fy F AO AP nw rA AQ (IntKind.i64.wrap (nw + 1)) H52
def aJ.j5 (F:Nat) (ah:Int→Int→Sl→Int→Int→Hp→OA) (fx:Int→Int→Hp→OA) (db:Nat→Nat→Int→Int→Int→Hp→OA) (fy:Nat→Nat→Int→Int→Int→Hp→OA) (C13_:Nat→Nat→Int→Nat→Nat→Int→Hp→OA) (AR:Nat) (AS:Nat) (pw:Int) (rB:Nat) (nv:Nat) (px:Int) (H146:Hp):OA:=C13_ AR AS pw rB nv (IntKind.i64.wrap (px + 1)) H146
def aJ.l13 (F:Nat) (ah:Int→Int→Sl→Int→Int→Hp→OA) (fx:Int→Int→Hp→OA) (db:Nat→Nat→Int→Int→Int→Hp→OA) (fy:Nat→Nat→Int→Int→Int→Hp→OA) :Nat→Nat→Nat→Int→Nat→Nat→Int→Hp→OA
 | 0,_,_,_,_,_,_,_=>none
 | hE + 1,cU,eY,da,fe,jA,fY,H17=>(Hp.ldI H17 .i64 fe jA).bind fun n120=>(bif (decide (fY < n120)) then ((Hp.ldB H17 cU (eY + 15)).bind fun b121=>(bif (!b121) then ((Hp.ldI H17 .i64 fe jA).bind fun n122=>(Hp.ldI H17 .i64 fe (jA + 1)).bind fun n123=>(Hp.ldSl H17 fe (jA + 2)).bind fun s124=>(ah n122 n123 s124 fY da H17).bind fun r125=>((r125.1).asP).bind fun p126=>(if Cons H17 r125.2 then ((Hp.ldI r125.2 .i64 p126.1 p126.2).bind fun n127=>(Hp.ldI r125.2 .i64 fe jA).bind fun n128=>(Hp.ldI r125.2 .i64 fe (jA + 1)).bind fun n129=>(Hp.ldSl r125.2 fe (jA + 2)).bind fun s130=>(ah n128 n129 s130 da da r125.2).bind fun r131=>((r131.1).asP).bind fun p132=>(if Cons r125.2 r131.2 then ((Hp.ldI r131.2 .i64 p132.1 p132.2).bind fun n133=>(fx n127 n133 r131.2).bind fun r134=>((r134.1).asI .i64).bind fun n135=>(bif (n135 != 0) then ((db cU eY fY da (IntKind.i64.wrap (0 - n135)) r134.2).bind fun r136=>aJ.j5 F ah fx db fy (aJ.l13 F ah fx db fy hE) cU eY da fe jA fY r136.2) else (aJ.j5 F ah fx db fy (aJ.l13 F ah fx db fy hE) cU eY da fe jA fY r134.2))) else none)) else none)) else (aJ.j4 F ah fx db fy cU eY da fe jA H17))) else (aJ.j4 F ah fx db fy cU eY da fe jA H17))
termination_by structural n=>n
def aJ.twX (F:Nat) (ah:Int→Int→Sl→Int→Int→Hp→OA) (fx:Int→Int→Hp→OA) (db:Nat→Nat→Int→Int→Int→Hp→OA) (fy:Nat→Nat→Int→Int→Int→Hp→OA) (aa:Nat) (ac:Nat) (ae:Int) (H:Hp):OA:=(Hp.ldI H .i64 aa (ac + 6)).bind fun n4=>(Hp.ldI H .i64 aa ((ac + 6) + 1)).bind fun n5=>(Hp.ldSl H aa ((ac + 6) + 2)).bind fun s6=>(Hp.new H [.int .i64 0,.int .i64 0,.sl ⟨none,0,.ex 0⟩]).bind fun H7=>(Hp.st H7 H.length 0 (.int .i64 n4)).bind fun H8=>(Hp.st H8 H.length (0 + 1) (.int .i64 n5)).bind fun H9=>(Hp.st H9 H.length (0 + 1 + 1) (.sl s6)).bind fun H10=>aJ.l13 F ah fx db fy F aa ac ae H.length 0 (IntKind.i64.wrap (ae + 1)) H10
def aJ.tw (F:Nat) (aa:Nat) (ac:Nat) (ae:Int) (H:Hp):OA:=aJ.twX F (aO.tw F) (dC.tw F) (cZ.tw F) (dH.tw F) aa ac ae H
def aJ.code:Go.Code:=(Try.f134.body).getD .skip
def aJ.lh13 (F:Nat) (ah:Int→Int→Sl→Int→Int→Hp→OA) (fx:Int→Int→Hp→OA) (db:Nat→Nat→Int→Int→Int→Hp→OA) (fy:Nat→Nat→Int→Int→Int→Hp→OA) (ks:List Nat) (n:Nat) (tm:Tm) (H:Hp):OA:=match ks,tm 0,tm 1,tm 4,tm 5 with
 | [],(.ptr cU eY),(.int .i64 da),(.ptr fe jA),(.int .i64 fY)=>aJ.l13 F ah fx db fy n cU eY da fe jA fY H
 | _,_,_,_,_=>none
theorem aJ.lh13_inv {F:Nat} {ah:Int→Int→Sl→Int→Int→Hp→OA} {fx:Int→Int→Hp→OA} {db:Nat→Nat→Int→Int→Int→Hp→OA} {fy:Nat→Nat→Int→Int→Int→Hp→OA} {ks:List Nat} {n:Nat} {tm:Tm} {H:Hp} {r:AV×Hp} (h:aJ.lh13 F ah fx db fy ks n tm H = some r):∃ cU:Nat,∃ eY:Nat,∃ da:Int,∃ fe:Nat,∃ jA:Nat,∃ fY:Int,ks = []∧tm 0 = (.ptr cU eY)∧tm 1 = (.int .i64 da)∧tm 4 = (.ptr fe jA)∧tm 5 = (.int .i64 fY)∧aJ.l13 F ah fx db fy n cU eY da fe jA fY H = some r:=by
 unfold aJ.lh13 at h
 split at h
 ·exact ⟨_,_,_,_,_,_,rfl,by assumption,by assumption,by assumption,by assumption,h⟩
 ·cases h
def aJ.lh15 (F:Nat) (ah:Int→Int→Sl→Int→Int→Hp→OA) (fx:Int→Int→Hp→OA) (db:Nat→Nat→Int→Int→Int→Hp→OA) (fy:Nat→Nat→Int→Int→Int→Hp→OA) (ks:List Nat) (n:Nat) (tm:Tm) (H:Hp):OA:=match ks,tm 0,tm 1,tm 4,tm 7 with
 | [],(.ptr gE gF),(.int .i64 fK),(.ptr iu km),(.int .i64 ii)=>aJ.l15 F ah fx db fy n gE gF fK iu km ii H
 | _,_,_,_,_=>none
theorem aJ.lh15_inv {F:Nat} {ah:Int→Int→Sl→Int→Int→Hp→OA} {fx:Int→Int→Hp→OA} {db:Nat→Nat→Int→Int→Int→Hp→OA} {fy:Nat→Nat→Int→Int→Int→Hp→OA} {ks:List Nat} {n:Nat} {tm:Tm} {H:Hp} {r:AV×Hp} (h:aJ.lh15 F ah fx db fy ks n tm H = some r):∃ gE:Nat,∃ gF:Nat,∃ fK:Int,∃ iu:Nat,∃ km:Nat,∃ ii:Int,ks = []∧tm 0 = (.ptr gE gF)∧tm 1 = (.int .i64 fK)∧tm 4 = (.ptr iu km)∧tm 7 = (.int .i64 ii)∧aJ.l15 F ah fx db fy n gE gF fK iu km ii H = some r:=by
 unfold aJ.lh15 at h
 split at h
 ·exact ⟨_,_,_,_,_,_,rfl,by assumption,by assumption,by assumption,by assumption,h⟩
 ·cases h
def aJ.lh (F:Nat) (ah:Int→Int→Sl→Int→Int→Hp→OA) (fx:Int→Int→Hp→OA) (db:Nat→Nat→Int→Int→Int→Hp→OA) (fy:Nat→Nat→Int→Int→Int→Hp→OA) (p:Nat) (ks:List Nat) (n:Nat) (tm:Tm) (H:Hp):OA:=bif p.beq 15 then aJ.lh15 F ah fx db fy ks n tm H else (bif p.beq 13 then aJ.lh13 F ah fx db fy ks n tm H else (none))
def aJ.pn:Nat→List Nat:=fun i=>(([(4,[12]),(10,[12])]:List (Nat×List Nat)).lookup i).getD []
def aJ.tb:Nat→List (List Nat):=fun i=>(([(4,[[],[],[],[0,1,2],[0,1,2,3],[0,1,2,3,4],[],[],[],[0,1,2,3,6,7,8],[0,1,2,3,6,7,8,9],[0,1,2,3,6,7,8,9,10],[0,1,2,3,4,5,6,7,8,9,10,11],[0,1,2,3,4,5,6,7,8,9,10,11,12]]),(10,[[],[],[],[0,1,2],[0,1,2,3],[0,1,2,3,4],[],[],[],[0,1,2,3,6,7,8],[0,1,2,3,6,7,8,9],[0,1,2,3,6,7,8,9,10],[0,1,2,3,4,5,6,7,8,9,10,11],[0,1,2,3,4,5,6,7,8,9,10,11,12]])]:List (Nat×List (List Nat))).lookup i).getD []
def aJ.mk (g:Nat→Nat→Int→Hp→OA) (args:List AV) (H:Hp):OA:=match args with
 | [(.ptr aa ac),(.int .i64 ae)]=>g aa ac ae H
 | _=>none
def aJ.cs (F:Nat) (ah:Int→Int→Sl→Int→Int→Hp→OA) (fx:Int→Int→Hp→OA) (db:Nat→Nat→Int→Int→Int→Hp→OA) (fy:Nat→Nat→Int→Int→Int→Hp→OA):List (FuncId×(List AV→Hp→OA)):=[(95,aO.mk ah),(153,dC.mk fx),(137,cZ.mk db),(154,dH.mk fy)]
theorem aJ.loops (F:Nat) (ah:Int→Int→Sl→Int→Int→Hp→OA) (fx:Int→Int→Hp→OA) (db:Nat→Nat→Int→Int→Int→Hp→OA) (fy:Nat→Nat→Int→Int→Int→Hp→OA):LoopsOk tabs (mkOrc (aJ.cs F ah fx db fy)) aJ.pn (aJ.lh F ah fx db fy) F [] 1 aJ.code (fun tm H=>aresults tabs.ty H tm Try.f134.results.toList fun v=>some (v,H)) (fun _ _ _=>none) (fun tm H=>aresults tabs.ty H tm Try.f134.results.toList fun v=>some (v,H)):=by
 refine LoopsOk.seq ?_ ?_
 ·exact loops_none (by kernel_rfl)
 ·refine LoopsOk.seq ?_ ?_
  ·refine LoopsOk.seq ?_ ?_
   ·exact loops_none (by kernel_rfl)
   ·refine LoopsOk.block ?_
    refine LoopsOk.loop (fun tm H=>?_) (fun k13 tm H r h0=>?_) (fun k13=>?_)
    ·refine none_of fun r h0=>?_
     obtain ⟨cU,eY,da,fe,jA,fY,hks,e0,e1,e4,e5,h⟩:=aJ.lh13_inv (show aJ.lh13 F ah fx db fy [] 0 tm H = some r from h0)
     cases h
    ·obtain ⟨cU,eY,da,fe,jA,fY,hks,e0,e1,e4,e5,h⟩:=aJ.lh13_inv (show aJ.lh13 F ah fx db fy [] (k13 + 1) tm H = some r from h0)
     have q0:(Tm.put tm 0 (.ptr cU eY)) = tm:=by exact Tm.put_same e0
     have q1:(Tm.put (Tm.put tm 0 (.ptr cU eY)) 1 (.int .i64 da)) = tm:=by rw [q0]; exact Tm.put_same e1
     have q2:(Tm.put (Tm.put (Tm.put tm 0 (.ptr cU eY)) 1 (.int .i64 da)) 4 (.ptr fe jA)) = tm:=by rw [q1]; exact Tm.put_same e4
     have q3:(Tm.put (Tm.put (Tm.put (Tm.put tm 0 (.ptr cU eY)) 1 (.int .i64 da)) 4 (.ptr fe jA)) 5 (.int .i64 fY)) = tm:=by rw [q2]; exact Tm.put_same e5
     rw [← q3]
     exact Eq.trans (by kernel_rfl) h
    ·exact loops_none (by kernel_rfl)
  ·refine LoopsOk.seq ?_ ?_
   ·exact loops_none (by kernel_rfl)
   ·refine LoopsOk.block ?_
    refine LoopsOk.loop (fun tm H=>?_) (fun k15 tm H r h0=>?_) (fun k15=>?_)
    ·refine none_of fun r h0=>?_
     obtain ⟨gE,gF,fK,iu,km,ii,hks,e0,e1,e4,e7,h⟩:=aJ.lh15_inv (show aJ.lh15 F ah fx db fy [] 0 tm H = some r from h0)
     cases h
    ·obtain ⟨gE,gF,fK,iu,km,ii,hks,e0,e1,e4,e7,h⟩:=aJ.lh15_inv (show aJ.lh15 F ah fx db fy [] (k15 + 1) tm H = some r from h0)
     have q0:(Tm.put tm 0 (.ptr gE gF)) = tm:=by exact Tm.put_same e0
     have q1:(Tm.put (Tm.put tm 0 (.ptr gE gF)) 1 (.int .i64 fK)) = tm:=by rw [q0]; exact Tm.put_same e1
     have q2:(Tm.put (Tm.put (Tm.put tm 0 (.ptr gE gF)) 1 (.int .i64 fK)) 4 (.ptr iu km)) = tm:=by rw [q1]; exact Tm.put_same e4
     have q3:(Tm.put (Tm.put (Tm.put (Tm.put tm 0 (.ptr gE gF)) 1 (.int .i64 fK)) 4 (.ptr iu km)) 7 (.int .i64 ii)) = tm:=by rw [q2]; exact Tm.put_same e7
     rw [← q3]
     exact Eq.trans (by kernel_rfl) h
    ·exact loops_none (by kernel_rfl)
theorem aJ.eqX (F:Nat) (ah:Int→Int→Sl→Int→Int→Hp→OA) (fx:Int→Int→Hp→OA) (db:Nat→Nat→Int→Int→Int→Hp→OA) (fy:Nat→Nat→Int→Int→Int→Hp→OA) (aa:Nat) (ac:Nat) (ae:Int) (H:Hp):aCode tabs (mkOrc (aJ.cs F ah fx db fy)) aJ.pn (aJ.lh F ah fx db fy) F [] 1 aJ.code (argTm [(.ptr aa ac),(.int .i64 ae)]) H (fun tm H=>aresults tabs.ty H tm Try.f134.results.toList fun v=>some (v,H)) (fun _ _ _=>none) (fun tm H=>aresults tabs.ty H tm Try.f134.results.toList fun v=>some (v,H)) = aJ.twX F ah fx db fy aa ac ae H:=by kernel_rfl
theorem aJ.cs_ok (F:Nat):∀ p ∈ aJ.cs F (aO.tw F) (dC.tw F) (cZ.tw F) (dH.tw F),∀ args H v H',p.2 args H = some (v,H')→Go.AE.T Try.prog p.1 args H v H':=by
 intro p hp
 simp only [aJ.cs,List.mem_cons,List.not_mem_nil,or_false] at hp
 rcases hp with rfl | rfl | rfl | rfl
 ·exact fun args H v H' h=>aO.mk_T h
 ·exact fun args H v H' h=>dC.mk_T h
 ·exact fun args H v H' h=>cZ.mk_T h
 ·exact fun args H v H' h=>dH.mk_T h
theorem aJ.ok:codeOk aJ.pn Try.f134.ntmps aJ.tb aJ.code = true:=by kernel_rfl
theorem aJ.T {F:Nat} {aa:Nat} {ac:Nat} {ae:Int} {H:Hp} {v:AV} {H':Hp} (h:aJ.tw F aa ac ae H = some (v,H')):Go.AE.T Try.prog 134 [(.ptr aa ac),(.int .i64 ae)] H v H':=
 Go.AE.T.of (Y:=tabs) (C:=mkOrc (aJ.cs F (aO.tw F) (dC.tw F) (cZ.tw F) (dH.tw F))) (PN:=aJ.pn) (LH:=aJ.lh F (aO.tw F) (dC.tw F) (cZ.tw F) (dH.tw F)) (F:=F) (TB:=aJ.tb) (fn:=Try.f134) (code:=aJ.code) mixed tabs_ok (mkOrc_ok (aJ.cs_ok F)) Try.func134 (by kernel_rfl) (by kernel_rfl) aJ.ok (Nat.le_of_ble_eq_true (by kernel_rfl)) (aJ.loops F (aO.tw F) (dC.tw F) (cZ.tw F) (dH.tw F)) (Eq.trans (aJ.eqX F (aO.tw F) (dC.tw F) (cZ.tw F) (dH.tw F) aa ac ae H) h)
theorem aJ.mk_T {F:Nat} {args:List AV} {H:Hp} {v:AV} {H':Hp} (h:aJ.mk (aJ.tw F) args H = some (v,H')):Go.AE.T Try.prog 134 args H v H':=by
 unfold aJ.mk at h
 split at h
 ·exact aJ.T h
 ·cases h
def ek.twX (F:Nat) (aa:Int) (H:Hp):OA:=some ((.bool (aa != 0)),H)
def ek.tw (F:Nat) (aa:Int) (H:Hp):OA:=ek.twX F aa H
def ek.code:Go.Code:=(Try.f155.body).getD .skip
def ek.lh (F:Nat) (p:Nat) (ks:List Nat) (n:Nat) (tm:Tm) (H:Hp):OA:=none
def ek.pn:Nat→List Nat:=fun i=>(([]:List (Nat×List Nat)).lookup i).getD []
def ek.tb:Nat→List (List Nat):=fun i=>(([]:List (Nat×List (List Nat))).lookup i).getD []
def ek.mk (g:Int→Hp→OA) (args:List AV) (H:Hp):OA:=match args with
 | [(.int .i64 aa)]=>g aa H
 | _=>none
def ek.cs (F:Nat):List (FuncId×(List AV→Hp→OA)):=[]
theorem ek.loops (F:Nat):LoopsOk tabs (mkOrc (ek.cs F)) ek.pn (ek.lh F) F [] 1 ek.code (fun tm H=>aresults tabs.ty H tm Try.f155.results.toList fun v=>some (v,H)) (fun _ _ _=>none) (fun tm H=>aresults tabs.ty H tm Try.f155.results.toList fun v=>some (v,H)):=by
 exact loops_none (by kernel_rfl)
theorem ek.eqX (F:Nat) (aa:Int) (H:Hp):aCode tabs (mkOrc (ek.cs F)) ek.pn (ek.lh F) F [] 1 ek.code (argTm [(.int .i64 aa)]) H (fun tm H=>aresults tabs.ty H tm Try.f155.results.toList fun v=>some (v,H)) (fun _ _ _=>none) (fun tm H=>aresults tabs.ty H tm Try.f155.results.toList fun v=>some (v,H)) = ek.twX F aa H:=by kernel_rfl
theorem ek.cs_ok (F:Nat):∀ p ∈ ek.cs F,∀ args H v H',p.2 args H = some (v,H')→Go.AE.T Try.prog p.1 args H v H':=by
 intro p hp
 exact absurd (show p ∈ [] from hp) List.not_mem_nil
theorem ek.ok:codeOk ek.pn Try.f155.ntmps ek.tb ek.code = true:=by kernel_rfl
theorem ek.T {F:Nat} {aa:Int} {H:Hp} {v:AV} {H':Hp} (h:ek.tw F aa H = some (v,H')):Go.AE.T Try.prog 155 [(.int .i64 aa)] H v H':=
 Go.AE.T.of (Y:=tabs) (C:=mkOrc (ek.cs F)) (PN:=ek.pn) (LH:=ek.lh F) (F:=F) (TB:=ek.tb) (fn:=Try.f155) (code:=ek.code) mixed tabs_ok (mkOrc_ok (ek.cs_ok F)) Try.func155 (by kernel_rfl) (by kernel_rfl) ek.ok (Nat.le_of_ble_eq_true (by kernel_rfl)) (ek.loops F) (Eq.trans (ek.eqX F aa H) h)
theorem ek.mk_T {F:Nat} {args:List AV} {H:Hp} {v:AV} {H':Hp} (h:ek.mk (ek.tw F) args H = some (v,H')):Go.AE.T Try.prog 155 args H v H':=by
 unfold ek.mk at h
 split at h
 ·exact ek.T h
 ·cases h
def cD.l13 (F:Nat) (jc:Int→Hp→OA) :Nat→Sl→Int→Int→Hp→OA
 | 0,_,_,_,_=>none
 | hE + 1,fI,eB,dF,H6=>(bif (decide (dF < eB)) then ((Sl.idx fI dF 1).bind fun p11=>(Hp.ldI H6 .i64 p11.1 p11.2).bind fun n12=>(jc n12 H6).bind fun r13=>((r13.1).asB).bind fun b14=>(bif b14 then (some ((.int .i64 dF),r13.2)) else (cD.l13 F jc hE fI eB (IntKind.i64.wrap (dF + 1)) r13.2))) else (some ((.int .i64 (-1)),H6)))
termination_by structural n=>n
def cD.twX (F:Nat) (jc:Int→Hp→OA) (aa:Sl) (H:Hp):OA:=cD.l13 F jc F aa (aa.n:Int) 0 H
def cD.tw (F:Nat) (aa:Sl) (H:Hp):OA:=cD.twX F (ek.tw F) aa H
def cD.code:Go.Code:=(Try.f117.body).getD .skip
def cD.lh13 (F:Nat) (jc:Int→Hp→OA) (ks:List Nat) (n:Nat) (tm:Tm) (H:Hp):OA:=match ks,tm 0,tm 1,tm 7,tm 8 with
 | [],(.sl fI),(.fn 155 []),(.int .i64 eB),(.int .i64 dF)=>cD.l13 F jc n fI eB dF H
 | _,_,_,_,_=>none
theorem cD.lh13_inv {F:Nat} {jc:Int→Hp→OA} {ks:List Nat} {n:Nat} {tm:Tm} {H:Hp} {r:AV×Hp} (h:cD.lh13 F jc ks n tm H = some r):∃ fI:Sl,∃ eB:Int,∃ dF:Int,ks = []∧tm 0 = (.sl fI)∧tm 1 = (.fn 155 [])∧tm 7 = (.int .i64 eB)∧tm 8 = (.int .i64 dF)∧cD.l13 F jc n fI eB dF H = some r:=by
 unfold cD.lh13 at h
 split at h
 ·exact ⟨_,_,_,rfl,by assumption,by assumption,by assumption,by assumption,h⟩
 ·cases h
def cD.lh (F:Nat) (jc:Int→Hp→OA) (p:Nat) (ks:List Nat) (n:Nat) (tm:Tm) (H:Hp):OA:=bif p.beq 13 then cD.lh13 F jc ks n tm H else (none)
def cD.pn:Nat→List Nat:=fun i=>(([]:List (Nat×List Nat)).lookup i).getD []
def cD.tb:Nat→List (List Nat):=fun i=>(([]:List (Nat×List (List Nat))).lookup i).getD []
def cD.mk (g:Sl→Hp→OA) (args:List AV) (H:Hp):OA:=match args with
 | [(.sl aa),(.fn 155 [])]=>g aa H
 | _=>none
def cD.cs (F:Nat) (jc:Int→Hp→OA):List (FuncId×(List AV→Hp→OA)):=[(155,ek.mk jc)]
theorem cD.loops (F:Nat) (jc:Int→Hp→OA):LoopsOk tabs (mkOrc (cD.cs F jc)) cD.pn (cD.lh F jc) F [] 1 cD.code (fun tm H=>aresults tabs.ty H tm Try.f117.results.toList fun v=>some (v,H)) (fun _ _ _=>none) (fun tm H=>aresults tabs.ty H tm Try.f117.results.toList fun v=>some (v,H)):=by
 refine LoopsOk.seq ?_ ?_
 ·exact loops_none (by kernel_rfl)
 ·refine LoopsOk.seq ?_ ?_
  ·refine LoopsOk.seq ?_ ?_
   ·exact loops_none (by kernel_rfl)
   ·refine LoopsOk.block ?_
    refine LoopsOk.loop (fun tm H=>?_) (fun k13 tm H r h0=>?_) (fun k13=>?_)
    ·refine none_of fun r h0=>?_
     obtain ⟨fI,eB,dF,hks,e0,e1,e7,e8,h⟩:=cD.lh13_inv (show cD.lh13 F jc [] 0 tm H = some r from h0)
     cases h
    ·obtain ⟨fI,eB,dF,hks,e0,e1,e7,e8,h⟩:=cD.lh13_inv (show cD.lh13 F jc [] (k13 + 1) tm H = some r from h0)
     have q0:(Tm.put tm 0 (.sl fI)) = tm:=by exact Tm.put_same e0
     have q1:(Tm.put (Tm.put tm 0 (.sl fI)) 1 (.fn 155 [])) = tm:=by rw [q0]; exact Tm.put_same e1
     have q2:(Tm.put (Tm.put (Tm.put tm 0 (.sl fI)) 1 (.fn 155 [])) 7 (.int .i64 eB)) = tm:=by rw [q1]; exact Tm.put_same e7
     have q3:(Tm.put (Tm.put (Tm.put (Tm.put tm 0 (.sl fI)) 1 (.fn 155 [])) 7 (.int .i64 eB)) 8 (.int .i64 dF)) = tm:=by rw [q2]; exact Tm.put_same e8
     rw [← q3]
     exact Eq.trans (by kernel_rfl) h
    ·exact loops_none (by kernel_rfl)
  ·exact loops_none (by kernel_rfl)
theorem cD.eqX (F:Nat) (jc:Int→Hp→OA) (aa:Sl) (H:Hp):aCode tabs (mkOrc (cD.cs F jc)) cD.pn (cD.lh F jc) F [] 1 cD.code (argTm [(.sl aa),(.fn 155 [])]) H (fun tm H=>aresults tabs.ty H tm Try.f117.results.toList fun v=>some (v,H)) (fun _ _ _=>none) (fun tm H=>aresults tabs.ty H tm Try.f117.results.toList fun v=>some (v,H)) = cD.twX F jc aa H:=by kernel_rfl
theorem cD.cs_ok (F:Nat):∀ p ∈ cD.cs F (ek.tw F),∀ args H v H',p.2 args H = some (v,H')→Go.AE.T Try.prog p.1 args H v H':=by
 intro p hp
 simp only [cD.cs,List.mem_cons,List.not_mem_nil,or_false] at hp
 subst hp
 exact fun args H v H' h=>ek.mk_T h
theorem cD.ok:codeOk cD.pn Try.f117.ntmps cD.tb cD.code = true:=by kernel_rfl
theorem cD.T {F:Nat} {aa:Sl} {H:Hp} {v:AV} {H':Hp} (h:cD.tw F aa H = some (v,H')):Go.AE.T Try.prog 117 [(.sl aa),(.fn 155 [])] H v H':=
 Go.AE.T.of (Y:=tabs) (C:=mkOrc (cD.cs F (ek.tw F))) (PN:=cD.pn) (LH:=cD.lh F (ek.tw F)) (F:=F) (TB:=cD.tb) (fn:=Try.f117) (code:=cD.code) mixed tabs_ok (mkOrc_ok (cD.cs_ok F)) Try.func117 (by kernel_rfl) (by kernel_rfl) cD.ok (Nat.le_of_ble_eq_true (by kernel_rfl)) (cD.loops F (ek.tw F)) (Eq.trans (cD.eqX F (ek.tw F) aa H) h)
theorem cD.mk_T {F:Nat} {args:List AV} {H:Hp} {v:AV} {H':Hp} (h:cD.mk (cD.tw F) args H = some (v,H')):Go.AE.T Try.prog 117 args H v H':=by
 unfold cD.mk at h
 split at h
 ·exact cD.T h
 ·cases h
def dQ.twX (F:Nat) (lO:Sl→Hp→OA) (aa:Sl) (H:Hp):OA:=(lO aa H).bind fun r2=>((r2.1).asI .i64).bind fun n3=>some ((.bool (decide (n3 ≥ 0))),r2.2)
def dQ.tw (F:Nat) (aa:Sl) (H:Hp):OA:=dQ.twX F (cD.tw F) aa H
def dQ.code:Go.Code:=(Try.f81.body).getD .skip
def dQ.lh (F:Nat) (lO:Sl→Hp→OA) (p:Nat) (ks:List Nat) (n:Nat) (tm:Tm) (H:Hp):OA:=none
def dQ.pn:Nat→List Nat:=fun i=>(([]:List (Nat×List Nat)).lookup i).getD []
def dQ.tb:Nat→List (List Nat):=fun i=>(([]:List (Nat×List (List Nat))).lookup i).getD []
def dQ.mk (g:Sl→Hp→OA) (args:List AV) (H:Hp):OA:=match args with
 | [(.sl aa),(.fn 155 [])]=>g aa H
 | _=>none
def dQ.cs (F:Nat) (lO:Sl→Hp→OA):List (FuncId×(List AV→Hp→OA)):=[(117,cD.mk lO)]
theorem dQ.loops (F:Nat) (lO:Sl→Hp→OA):LoopsOk tabs (mkOrc (dQ.cs F lO)) dQ.pn (dQ.lh F lO) F [] 1 dQ.code (fun tm H=>aresults tabs.ty H tm Try.f81.results.toList fun v=>some (v,H)) (fun _ _ _=>none) (fun tm H=>aresults tabs.ty H tm Try.f81.results.toList fun v=>some (v,H)):=by
 exact loops_none (by kernel_rfl)
theorem dQ.eqX (F:Nat) (lO:Sl→Hp→OA) (aa:Sl) (H:Hp):aCode tabs (mkOrc (dQ.cs F lO)) dQ.pn (dQ.lh F lO) F [] 1 dQ.code (argTm [(.sl aa),(.fn 155 [])]) H (fun tm H=>aresults tabs.ty H tm Try.f81.results.toList fun v=>some (v,H)) (fun _ _ _=>none) (fun tm H=>aresults tabs.ty H tm Try.f81.results.toList fun v=>some (v,H)) = dQ.twX F lO aa H:=by kernel_rfl
theorem dQ.cs_ok (F:Nat):∀ p ∈ dQ.cs F (cD.tw F),∀ args H v H',p.2 args H = some (v,H')→Go.AE.T Try.prog p.1 args H v H':=by
 intro p hp
 simp only [dQ.cs,List.mem_cons,List.not_mem_nil,or_false] at hp
 subst hp
 exact fun args H v H' h=>cD.mk_T h
theorem dQ.ok:codeOk dQ.pn Try.f81.ntmps dQ.tb dQ.code = true:=by kernel_rfl
theorem dQ.T {F:Nat} {aa:Sl} {H:Hp} {v:AV} {H':Hp} (h:dQ.tw F aa H = some (v,H')):Go.AE.T Try.prog 81 [(.sl aa),(.fn 155 [])] H v H':=
 Go.AE.T.of (Y:=tabs) (C:=mkOrc (dQ.cs F (cD.tw F))) (PN:=dQ.pn) (LH:=dQ.lh F (cD.tw F)) (F:=F) (TB:=dQ.tb) (fn:=Try.f81) (code:=dQ.code) mixed tabs_ok (mkOrc_ok (dQ.cs_ok F)) Try.func81 (by kernel_rfl) (by kernel_rfl) dQ.ok (Nat.le_of_ble_eq_true (by kernel_rfl)) (dQ.loops F (cD.tw F)) (Eq.trans (dQ.eqX F (cD.tw F) aa H) h)
theorem dQ.mk_T {F:Nat} {args:List AV} {H:Hp} {v:AV} {H':Hp} (h:dQ.mk (dQ.tw F) args H = some (v,H')):Go.AE.T Try.prog 81 args H v H':=by
 unfold dQ.mk at h
 split at h
 ·exact dQ.T h
 ·cases h
def bF.j1 (F:Nat) (ah:Int→Int→Sl→Int→Int→Hp→OA) (bQ:Int→Int→Sl→Int→Hp→OA) (ij:Sl→Hp→OA) (nx:Int) (py:Nat) (uA:Nat) (H34:Hp):OA:=(Hp.ldI H34 .i64 py uA).bind fun n35=>(Hp.ldI H34 .i64 py (uA + 1)).bind fun n36=>(Hp.ldSl H34 py (uA + 2)).bind fun s37=>(bQ n35 n36 s37 nx H34).bind fun r38=>((r38.1).asSl).bind fun s39=>(Sl.cut s39 1 (IntKind.i64.wrap (nx + 1)) (s39.n:Int)).bind fun s40=>(ij s40 r38.2).bind fun r41=>((r41.1).asB).bind fun b42=>some ((.bool (!b42)),r41.2)
def bF.l29 (F:Nat) (ah:Int→Int→Sl→Int→Int→Hp→OA) (bQ:Int→Int→Sl→Int→Hp→OA) (ij:Sl→Hp→OA) :Nat→Int→Nat→Nat→Int→Hp→OA
 | 0,_,_,_,_,_=>none
 | fa + 1,da,fJ,fY,jB,H18=>(Hp.ldI H18 .i64 fJ fY).bind fun n43=>(bif (decide (jB < n43)) then ((Hp.ldI H18 .i64 fJ fY).bind fun n44=>(Hp.ldI H18 .i64 fJ (fY + 1)).bind fun n45=>(Hp.ldSl H18 fJ (fY + 2)).bind fun s46=>(ah n44 n45 s46 jB da H18).bind fun r47=>((r47.1).asP).bind fun p48=>(Hp.ldI r47.2 .i64 p48.1 p48.2).bind fun n49=>(bif (n49 != 0) then (some ((.bool false),r47.2)) else (bF.l29 F ah bQ ij fa da fJ fY (IntKind.i64.wrap (jB + 1)) r47.2))) else (bF.j1 F ah bQ ij da fJ fY H18))
termination_by structural n=>n
def bF.twX (F:Nat) (ah:Int→Int→Sl→Int→Int→Hp→OA) (bQ:Int→Int→Sl→Int→Hp→OA) (ij:Sl→Hp→OA) (aa:Nat) (ac:Nat) (ae:Int) (H:Hp):OA:=(Hp.ldI H .i64 aa (ac + 6)).bind fun n4=>(Hp.ldI H .i64 aa ((ac + 6) + 1)).bind fun n5=>(Hp.ldSl H aa ((ac + 6) + 2)).bind fun s6=>(Hp.new H [.int .i64 0,.int .i64 0,.sl ⟨none,0,.ex 0⟩]).bind fun H7=>(Hp.st H7 H.length 0 (.int .i64 n4)).bind fun H8=>(Hp.st H8 H.length (0 + 1) (.int .i64 n5)).bind fun H9=>(Hp.st H9 H.length (0 + 1 + 1) (.sl s6)).bind fun H10=>bF.l29 F ah bQ ij F ae H.length 0 (IntKind.i64.wrap (ae + 1)) H10
def bF.tw (F:Nat) (aa:Nat) (ac:Nat) (ae:Int) (H:Hp):OA:=bF.twX F (aO.tw F) (cC.tw F) (dQ.tw F) aa ac ae H
def bF.code:Go.Code:=(Try.f135.body).getD .skip
def bF.lh29 (F:Nat) (ah:Int→Int→Sl→Int→Int→Hp→OA) (bQ:Int→Int→Sl→Int→Hp→OA) (ij:Sl→Hp→OA) (ks:List Nat) (n:Nat) (tm:Tm) (H:Hp):OA:=match ks,tm 1,tm 5,tm 6 with
 | [],(.int .i64 da),(.ptr fJ fY),(.int .i64 jB)=>bF.l29 F ah bQ ij n da fJ fY jB H
 | _,_,_,_=>none
theorem bF.lh29_inv {F:Nat} {ah:Int→Int→Sl→Int→Int→Hp→OA} {bQ:Int→Int→Sl→Int→Hp→OA} {ij:Sl→Hp→OA} {ks:List Nat} {n:Nat} {tm:Tm} {H:Hp} {r:AV×Hp} (h:bF.lh29 F ah bQ ij ks n tm H = some r):∃ da:Int,∃ fJ:Nat,∃ fY:Nat,∃ jB:Int,ks = []∧tm 1 = (.int .i64 da)∧tm 5 = (.ptr fJ fY)∧tm 6 = (.int .i64 jB)∧bF.l29 F ah bQ ij n da fJ fY jB H = some r:=by
 unfold bF.lh29 at h
 split at h
 ·exact ⟨_,_,_,_,rfl,by assumption,by assumption,by assumption,h⟩
 ·cases h
def bF.lh (F:Nat) (ah:Int→Int→Sl→Int→Int→Hp→OA) (bQ:Int→Int→Sl→Int→Hp→OA) (ij:Sl→Hp→OA) (p:Nat) (ks:List Nat) (n:Nat) (tm:Tm) (H:Hp):OA:=bif p.beq 29 then bF.lh29 F ah bQ ij ks n tm H else (none)
def bF.pn:Nat→List Nat:=fun i=>(([]:List (Nat×List Nat)).lookup i).getD []
def bF.tb:Nat→List (List Nat):=fun i=>(([]:List (Nat×List (List Nat))).lookup i).getD []
def bF.mk (g:Nat→Nat→Int→Hp→OA) (args:List AV) (H:Hp):OA:=match args with
 | [(.ptr aa ac),(.int .i64 ae)]=>g aa ac ae H
 | _=>none
def bF.cs (F:Nat) (ah:Int→Int→Sl→Int→Int→Hp→OA) (bQ:Int→Int→Sl→Int→Hp→OA) (ij:Sl→Hp→OA):List (FuncId×(List AV→Hp→OA)):=[(95,aO.mk ah),(120,cC.mk bQ),(81,dQ.mk ij)]
theorem bF.loops (F:Nat) (ah:Int→Int→Sl→Int→Int→Hp→OA) (bQ:Int→Int→Sl→Int→Hp→OA) (ij:Sl→Hp→OA):LoopsOk tabs (mkOrc (bF.cs F ah bQ ij)) bF.pn (bF.lh F ah bQ ij) F [] 1 bF.code (fun tm H=>aresults tabs.ty H tm Try.f135.results.toList fun v=>some (v,H)) (fun _ _ _=>none) (fun tm H=>aresults tabs.ty H tm Try.f135.results.toList fun v=>some (v,H)):=by
 refine LoopsOk.seq ?_ ?_
 ·exact loops_none (by kernel_rfl)
 ·refine LoopsOk.seq ?_ ?_
  ·exact loops_none (by kernel_rfl)
  ·refine LoopsOk.seq ?_ ?_
   ·refine LoopsOk.seq ?_ ?_
    ·exact loops_none (by kernel_rfl)
    ·refine LoopsOk.block ?_
     refine LoopsOk.loop (fun tm H=>?_) (fun k29 tm H r h0=>?_) (fun k29=>?_)
     ·refine none_of fun r h0=>?_
      obtain ⟨da,fJ,fY,jB,hks,e1,e5,e6,h⟩:=bF.lh29_inv (show bF.lh29 F ah bQ ij [] 0 tm H = some r from h0)
      cases h
     ·obtain ⟨da,fJ,fY,jB,hks,e1,e5,e6,h⟩:=bF.lh29_inv (show bF.lh29 F ah bQ ij [] (k29 + 1) tm H = some r from h0)
      have q0:(Tm.put tm 1 (.int .i64 da)) = tm:=by exact Tm.put_same e1
      have q1:(Tm.put (Tm.put tm 1 (.int .i64 da)) 5 (.ptr fJ fY)) = tm:=by rw [q0]; exact Tm.put_same e5
      have q2:(Tm.put (Tm.put (Tm.put tm 1 (.int .i64 da)) 5 (.ptr fJ fY)) 6 (.int .i64 jB)) = tm:=by rw [q1]; exact Tm.put_same e6
      rw [← q2]
      exact Eq.trans (by kernel_rfl) h
     ·exact loops_none (by kernel_rfl)
   ·exact loops_none (by kernel_rfl)
theorem bF.eqX (F:Nat) (ah:Int→Int→Sl→Int→Int→Hp→OA) (bQ:Int→Int→Sl→Int→Hp→OA) (ij:Sl→Hp→OA) (aa:Nat) (ac:Nat) (ae:Int) (H:Hp):aCode tabs (mkOrc (bF.cs F ah bQ ij)) bF.pn (bF.lh F ah bQ ij) F [] 1 bF.code (argTm [(.ptr aa ac),(.int .i64 ae)]) H (fun tm H=>aresults tabs.ty H tm Try.f135.results.toList fun v=>some (v,H)) (fun _ _ _=>none) (fun tm H=>aresults tabs.ty H tm Try.f135.results.toList fun v=>some (v,H)) = bF.twX F ah bQ ij aa ac ae H:=by kernel_rfl
theorem bF.cs_ok (F:Nat):∀ p ∈ bF.cs F (aO.tw F) (cC.tw F) (dQ.tw F),∀ args H v H',p.2 args H = some (v,H')→Go.AE.T Try.prog p.1 args H v H':=by
 intro p hp
 simp only [bF.cs,List.mem_cons,List.not_mem_nil,or_false] at hp
 rcases hp with rfl | rfl | rfl
 ·exact fun args H v H' h=>aO.mk_T h
 ·exact fun args H v H' h=>cC.mk_T h
 ·exact fun args H v H' h=>dQ.mk_T h
theorem bF.ok:codeOk bF.pn Try.f135.ntmps bF.tb bF.code = true:=by kernel_rfl
theorem bF.T {F:Nat} {aa:Nat} {ac:Nat} {ae:Int} {H:Hp} {v:AV} {H':Hp} (h:bF.tw F aa ac ae H = some (v,H')):Go.AE.T Try.prog 135 [(.ptr aa ac),(.int .i64 ae)] H v H':=
 Go.AE.T.of (Y:=tabs) (C:=mkOrc (bF.cs F (aO.tw F) (cC.tw F) (dQ.tw F))) (PN:=bF.pn) (LH:=bF.lh F (aO.tw F) (cC.tw F) (dQ.tw F)) (F:=F) (TB:=bF.tb) (fn:=Try.f135) (code:=bF.code) mixed tabs_ok (mkOrc_ok (bF.cs_ok F)) Try.func135 (by kernel_rfl) (by kernel_rfl) bF.ok (Nat.le_of_ble_eq_true (by kernel_rfl)) (bF.loops F (aO.tw F) (cC.tw F) (dQ.tw F)) (Eq.trans (bF.eqX F (aO.tw F) (cC.tw F) (dQ.tw F) aa ac ae H) h)
theorem bF.mk_T {F:Nat} {args:List AV} {H:Hp} {v:AV} {H':Hp} (h:bF.mk (bF.tw F) args H = some (v,H')):Go.AE.T Try.prog 135 args H v H':=by
 unfold bF.mk at h
 split at h
 ·exact bF.T h
 ·cases h
def dZ.twX (F:Nat) (ah:Int→Int→Sl→Int→Int→Hp→OA) (aa:Int) (ag:Nat) (ae:Nat) (bG:Nat) (bi:Nat) (H:Hp):OA:=(Hp.ldI H .i64 ag ae).bind fun n6=>(Hp.ldI H .i64 ag (ae + 1)).bind fun n7=>(Hp.ldSl H ag (ae + 2)).bind fun s8=>(Hp.ldI H .i64 bG bi).bind fun n9=>(Hp.ldI H .i64 bG bi).bind fun n10=>(ah n6 n7 s8 n9 n10 H).bind fun r11=>((r11.1).asP).bind fun p12=>(Hp.ldI r11.2 .i64 p12.1 p12.2).bind fun n13=>(if n13 = 0 then none else (some ((.bool ((Int.tmod aa n13) != 0)),r11.2)))
def dZ.tw (F:Nat) (aa:Int) (ag:Nat) (ae:Nat) (bG:Nat) (bi:Nat) (H:Hp):OA:=dZ.twX F (aO.tw F) aa ag ae bG bi H
def dZ.code:Go.Code:=(Try.f156.body).getD .skip
def dZ.lh (F:Nat) (ah:Int→Int→Sl→Int→Int→Hp→OA) (p:Nat) (ks:List Nat) (n:Nat) (tm:Tm) (H:Hp):OA:=none
def dZ.pn:Nat→List Nat:=fun i=>(([]:List (Nat×List Nat)).lookup i).getD []
def dZ.tb:Nat→List (List Nat):=fun i=>(([]:List (Nat×List (List Nat))).lookup i).getD []
def dZ.mk (g:Int→Nat→Nat→Nat→Nat→Hp→OA) (args:List AV) (H:Hp):OA:=match args with
 | [(.int .i64 aa),(.ptr ag ae),(.ptr bG bi)]=>g aa ag ae bG bi H
 | _=>none
def dZ.cs (F:Nat) (ah:Int→Int→Sl→Int→Int→Hp→OA):List (FuncId×(List AV→Hp→OA)):=[(95,aO.mk ah)]
theorem dZ.loops (F:Nat) (ah:Int→Int→Sl→Int→Int→Hp→OA):LoopsOk tabs (mkOrc (dZ.cs F ah)) dZ.pn (dZ.lh F ah) F [] 1 dZ.code (fun tm H=>aresults tabs.ty H tm Try.f156.results.toList fun v=>some (v,H)) (fun _ _ _=>none) (fun tm H=>aresults tabs.ty H tm Try.f156.results.toList fun v=>some (v,H)):=by
 exact loops_none (by kernel_rfl)
theorem dZ.eqX (F:Nat) (ah:Int→Int→Sl→Int→Int→Hp→OA) (aa:Int) (ag:Nat) (ae:Nat) (bG:Nat) (bi:Nat) (H:Hp):aCode tabs (mkOrc (dZ.cs F ah)) dZ.pn (dZ.lh F ah) F [] 1 dZ.code (argTm [(.int .i64 aa),(.ptr ag ae),(.ptr bG bi)]) H (fun tm H=>aresults tabs.ty H tm Try.f156.results.toList fun v=>some (v,H)) (fun _ _ _=>none) (fun tm H=>aresults tabs.ty H tm Try.f156.results.toList fun v=>some (v,H)) = dZ.twX F ah aa ag ae bG bi H:=by kernel_rfl
theorem dZ.cs_ok (F:Nat):∀ p ∈ dZ.cs F (aO.tw F),∀ args H v H',p.2 args H = some (v,H')→Go.AE.T Try.prog p.1 args H v H':=by
 intro p hp
 simp only [dZ.cs,List.mem_cons,List.not_mem_nil,or_false] at hp
 subst hp
 exact fun args H v H' h=>aO.mk_T h
theorem dZ.ok:codeOk dZ.pn Try.f156.ntmps dZ.tb dZ.code = true:=by kernel_rfl
theorem dZ.T {F:Nat} {aa:Int} {ag:Nat} {ae:Nat} {bG:Nat} {bi:Nat} {H:Hp} {v:AV} {H':Hp} (h:dZ.tw F aa ag ae bG bi H = some (v,H')):Go.AE.T Try.prog 156 [(.int .i64 aa),(.ptr ag ae),(.ptr bG bi)] H v H':=
 Go.AE.T.of (Y:=tabs) (C:=mkOrc (dZ.cs F (aO.tw F))) (PN:=dZ.pn) (LH:=dZ.lh F (aO.tw F)) (F:=F) (TB:=dZ.tb) (fn:=Try.f156) (code:=dZ.code) mixed tabs_ok (mkOrc_ok (dZ.cs_ok F)) Try.func156 (by kernel_rfl) (by kernel_rfl) dZ.ok (Nat.le_of_ble_eq_true (by kernel_rfl)) (dZ.loops F (aO.tw F)) (Eq.trans (dZ.eqX F (aO.tw F) aa ag ae bG bi H) h)
theorem dZ.mk_T {F:Nat} {args:List AV} {H:Hp} {v:AV} {H':Hp} (h:dZ.mk (dZ.tw F) args H = some (v,H')):Go.AE.T Try.prog 156 args H v H':=by
 unfold dZ.mk at h
 split at h
 ·exact dZ.T h
 ·cases h
def cE.l13 (F:Nat) (jd:Int→Nat→Nat→Nat→Nat→Hp→OA) :Nat→Sl→Nat→Nat→Nat→Nat→Int→Int→Hp→OA
 | 0,_,_,_,_,_,_,_,_=>none
 | hE + 1,gf,ag,ae,af,bu,jP,je,H10=>(bif (decide (je < jP)) then ((Sl.idx gf je 1).bind fun p15=>(Hp.ldI H10 .i64 p15.1 p15.2).bind fun n16=>(jd n16 ag ae af bu H10).bind fun r17=>((r17.1).asB).bind fun b18=>(bif b18 then (some ((.int .i64 je),r17.2)) else (cE.l13 F jd hE gf ag ae af bu jP (IntKind.i64.wrap (je + 1)) r17.2))) else (some ((.int .i64 (-1)),H10)))
termination_by structural n=>n
def cE.twX (F:Nat) (jd:Int→Nat→Nat→Nat→Nat→Hp→OA) (aa:Sl) (ag:Nat) (ae:Nat) (af:Nat) (bu:Nat) (H:Hp):OA:=cE.l13 F jd F aa ag ae af bu (aa.n:Int) 0 H
def cE.tw (F:Nat) (aa:Sl) (ag:Nat) (ae:Nat) (af:Nat) (bu:Nat) (H:Hp):OA:=cE.twX F (dZ.tw F) aa ag ae af bu H
def cE.code:Go.Code:=(Try.f117.body).getD .skip
def cE.lh13 (F:Nat) (jd:Int→Nat→Nat→Nat→Nat→Hp→OA) (ks:List Nat) (n:Nat) (tm:Tm) (H:Hp):OA:=match ks,tm 0,tm 1,tm 7,tm 8 with
 | [],(.sl gf),(.fn 156 [(.ptr ag ae),(.ptr af bu)]),(.int .i64 jP),(.int .i64 je)=>cE.l13 F jd n gf ag ae af bu jP je H
 | _,_,_,_,_=>none
theorem cE.lh13_inv {F:Nat} {jd:Int→Nat→Nat→Nat→Nat→Hp→OA} {ks:List Nat} {n:Nat} {tm:Tm} {H:Hp} {r:AV×Hp} (h:cE.lh13 F jd ks n tm H = some r):∃ gf:Sl,∃ ag:Nat,∃ ae:Nat,∃ af:Nat,∃ bu:Nat,∃ jP:Int,∃ je:Int,ks = []∧tm 0 = (.sl gf)∧tm 1 = (.fn 156 [(.ptr ag ae),(.ptr af bu)])∧tm 7 = (.int .i64 jP)∧tm 8 = (.int .i64 je)∧cE.l13 F jd n gf ag ae af bu jP je H = some r:=by
 unfold cE.lh13 at h
 split at h
 ·exact ⟨_,_,_,_,_,_,_,rfl,by assumption,by assumption,by assumption,by assumption,h⟩
 ·cases h
def cE.lh (F:Nat) (jd:Int→Nat→Nat→Nat→Nat→Hp→OA) (p:Nat) (ks:List Nat) (n:Nat) (tm:Tm) (H:Hp):OA:=bif p.beq 13 then cE.lh13 F jd ks n tm H else (none)
def cE.pn:Nat→List Nat:=fun i=>(([]:List (Nat×List Nat)).lookup i).getD []
def cE.tb:Nat→List (List Nat):=fun i=>(([]:List (Nat×List (List Nat))).lookup i).getD []
def cE.mk (g:Sl→Nat→Nat→Nat→Nat→Hp→OA) (args:List AV) (H:Hp):OA:=match args with
 | [(.sl aa),(.fn 156 [(.ptr ag ae),(.ptr af bu)])]=>g aa ag ae af bu H
 | _=>none
def cE.cs (F:Nat) (jd:Int→Nat→Nat→Nat→Nat→Hp→OA):List (FuncId×(List AV→Hp→OA)):=[(156,dZ.mk jd)]
theorem cE.loops (F:Nat) (jd:Int→Nat→Nat→Nat→Nat→Hp→OA):LoopsOk tabs (mkOrc (cE.cs F jd)) cE.pn (cE.lh F jd) F [] 1 cE.code (fun tm H=>aresults tabs.ty H tm Try.f117.results.toList fun v=>some (v,H)) (fun _ _ _=>none) (fun tm H=>aresults tabs.ty H tm Try.f117.results.toList fun v=>some (v,H)):=by
 refine LoopsOk.seq ?_ ?_
 ·exact loops_none (by kernel_rfl)
 ·refine LoopsOk.seq ?_ ?_
  ·refine LoopsOk.seq ?_ ?_
   ·exact loops_none (by kernel_rfl)
   ·refine LoopsOk.block ?_
    refine LoopsOk.loop (fun tm H=>?_) (fun k13 tm H r h0=>?_) (fun k13=>?_)
    ·refine none_of fun r h0=>?_
     obtain ⟨gf,ag,ae,af,bu,jP,je,hks,e0,e1,e7,e8,h⟩:=cE.lh13_inv (show cE.lh13 F jd [] 0 tm H = some r from h0)
     cases h
    ·obtain ⟨gf,ag,ae,af,bu,jP,je,hks,e0,e1,e7,e8,h⟩:=cE.lh13_inv (show cE.lh13 F jd [] (k13 + 1) tm H = some r from h0)
     have q0:(Tm.put tm 0 (.sl gf)) = tm:=by exact Tm.put_same e0
     have q1:(Tm.put (Tm.put tm 0 (.sl gf)) 1 (.fn 156 [(.ptr ag ae),(.ptr af bu)])) = tm:=by rw [q0]; exact Tm.put_same e1
     have q2:(Tm.put (Tm.put (Tm.put tm 0 (.sl gf)) 1 (.fn 156 [(.ptr ag ae),(.ptr af bu)])) 7 (.int .i64 jP)) = tm:=by rw [q1]; exact Tm.put_same e7
     have q3:(Tm.put (Tm.put (Tm.put (Tm.put tm 0 (.sl gf)) 1 (.fn 156 [(.ptr ag ae),(.ptr af bu)])) 7 (.int .i64 jP)) 8 (.int .i64 je)) = tm:=by rw [q2]; exact Tm.put_same e8
     rw [← q3]
     exact Eq.trans (by kernel_rfl) h
    ·exact loops_none (by kernel_rfl)
  ·exact loops_none (by kernel_rfl)
theorem cE.eqX (F:Nat) (jd:Int→Nat→Nat→Nat→Nat→Hp→OA) (aa:Sl) (ag:Nat) (ae:Nat) (af:Nat) (bu:Nat) (H:Hp):aCode tabs (mkOrc (cE.cs F jd)) cE.pn (cE.lh F jd) F [] 1 cE.code (argTm [(.sl aa),(.fn 156 [(.ptr ag ae),(.ptr af bu)])]) H (fun tm H=>aresults tabs.ty H tm Try.f117.results.toList fun v=>some (v,H)) (fun _ _ _=>none) (fun tm H=>aresults tabs.ty H tm Try.f117.results.toList fun v=>some (v,H)) = cE.twX F jd aa ag ae af bu H:=by kernel_rfl
theorem cE.cs_ok (F:Nat):∀ p ∈ cE.cs F (dZ.tw F),∀ args H v H',p.2 args H = some (v,H')→Go.AE.T Try.prog p.1 args H v H':=by
 intro p hp
 simp only [cE.cs,List.mem_cons,List.not_mem_nil,or_false] at hp
 subst hp
 exact fun args H v H' h=>dZ.mk_T h
theorem cE.ok:codeOk cE.pn Try.f117.ntmps cE.tb cE.code = true:=by kernel_rfl
theorem cE.T {F:Nat} {aa:Sl} {ag:Nat} {ae:Nat} {af:Nat} {bu:Nat} {H:Hp} {v:AV} {H':Hp} (h:cE.tw F aa ag ae af bu H = some (v,H')):Go.AE.T Try.prog 117 [(.sl aa),(.fn 156 [(.ptr ag ae),(.ptr af bu)])] H v H':=
 Go.AE.T.of (Y:=tabs) (C:=mkOrc (cE.cs F (dZ.tw F))) (PN:=cE.pn) (LH:=cE.lh F (dZ.tw F)) (F:=F) (TB:=cE.tb) (fn:=Try.f117) (code:=cE.code) mixed tabs_ok (mkOrc_ok (cE.cs_ok F)) Try.func117 (by kernel_rfl) (by kernel_rfl) cE.ok (Nat.le_of_ble_eq_true (by kernel_rfl)) (cE.loops F (dZ.tw F)) (Eq.trans (cE.eqX F (dZ.tw F) aa ag ae af bu H) h)
theorem cE.mk_T {F:Nat} {args:List AV} {H:Hp} {v:AV} {H':Hp} (h:cE.mk (cE.tw F) args H = some (v,H')):Go.AE.T Try.prog 117 args H v H':=by
 unfold cE.mk at h
 split at h
 ·exact cE.T h
 ·cases h
def d_.twX (F:Nat) (lP:Sl→Nat→Nat→Nat→Nat→Hp→OA) (aa:Sl) (ag:Nat) (ae:Nat) (af:Nat) (bu:Nat) (H:Hp):OA:=(lP aa ag ae af bu H).bind fun r6=>((r6.1).asI .i64).bind fun n7=>some ((.bool (decide (n7 ≥ 0))),r6.2)
def d_.tw (F:Nat) (aa:Sl) (ag:Nat) (ae:Nat) (af:Nat) (bu:Nat) (H:Hp):OA:=d_.twX F (cE.tw F) aa ag ae af bu H
def d_.code:Go.Code:=(Try.f81.body).getD .skip
def d_.lh (F:Nat) (lP:Sl→Nat→Nat→Nat→Nat→Hp→OA) (p:Nat) (ks:List Nat) (n:Nat) (tm:Tm) (H:Hp):OA:=none
def d_.pn:Nat→List Nat:=fun i=>(([]:List (Nat×List Nat)).lookup i).getD []
def d_.tb:Nat→List (List Nat):=fun i=>(([]:List (Nat×List (List Nat))).lookup i).getD []
def d_.mk (g:Sl→Nat→Nat→Nat→Nat→Hp→OA) (args:List AV) (H:Hp):OA:=match args with
 | [(.sl aa),(.fn 156 [(.ptr ag ae),(.ptr af bu)])]=>g aa ag ae af bu H
 | _=>none
def d_.cs (F:Nat) (lP:Sl→Nat→Nat→Nat→Nat→Hp→OA):List (FuncId×(List AV→Hp→OA)):=[(117,cE.mk lP)]
theorem d_.loops (F:Nat) (lP:Sl→Nat→Nat→Nat→Nat→Hp→OA):LoopsOk tabs (mkOrc (d_.cs F lP)) d_.pn (d_.lh F lP) F [] 1 d_.code (fun tm H=>aresults tabs.ty H tm Try.f81.results.toList fun v=>some (v,H)) (fun _ _ _=>none) (fun tm H=>aresults tabs.ty H tm Try.f81.results.toList fun v=>some (v,H)):=by
 exact loops_none (by kernel_rfl)
theorem d_.eqX (F:Nat) (lP:Sl→Nat→Nat→Nat→Nat→Hp→OA) (aa:Sl) (ag:Nat) (ae:Nat) (af:Nat) (bu:Nat) (H:Hp):aCode tabs (mkOrc (d_.cs F lP)) d_.pn (d_.lh F lP) F [] 1 d_.code (argTm [(.sl aa),(.fn 156 [(.ptr ag ae),(.ptr af bu)])]) H (fun tm H=>aresults tabs.ty H tm Try.f81.results.toList fun v=>some (v,H)) (fun _ _ _=>none) (fun tm H=>aresults tabs.ty H tm Try.f81.results.toList fun v=>some (v,H)) = d_.twX F lP aa ag ae af bu H:=by kernel_rfl
theorem d_.cs_ok (F:Nat):∀ p ∈ d_.cs F (cE.tw F),∀ args H v H',p.2 args H = some (v,H')→Go.AE.T Try.prog p.1 args H v H':=by
 intro p hp
 simp only [d_.cs,List.mem_cons,List.not_mem_nil,or_false] at hp
 subst hp
 exact fun args H v H' h=>cE.mk_T h
theorem d_.ok:codeOk d_.pn Try.f81.ntmps d_.tb d_.code = true:=by kernel_rfl
theorem d_.T {F:Nat} {aa:Sl} {ag:Nat} {ae:Nat} {af:Nat} {bu:Nat} {H:Hp} {v:AV} {H':Hp} (h:d_.tw F aa ag ae af bu H = some (v,H')):Go.AE.T Try.prog 81 [(.sl aa),(.fn 156 [(.ptr ag ae),(.ptr af bu)])] H v H':=
 Go.AE.T.of (Y:=tabs) (C:=mkOrc (d_.cs F (cE.tw F))) (PN:=d_.pn) (LH:=d_.lh F (cE.tw F)) (F:=F) (TB:=d_.tb) (fn:=Try.f81) (code:=d_.code) mixed tabs_ok (mkOrc_ok (d_.cs_ok F)) Try.func81 (by kernel_rfl) (by kernel_rfl) d_.ok (Nat.le_of_ble_eq_true (by kernel_rfl)) (d_.loops F (cE.tw F)) (Eq.trans (d_.eqX F (cE.tw F) aa ag ae af bu H) h)
theorem d_.mk_T {F:Nat} {args:List AV} {H:Hp} {v:AV} {H':Hp} (h:d_.mk (d_.tw F) args H = some (v,H')):Go.AE.T Try.prog 81 args H v H':=by
 unfold d_.mk at h
 split at h
 ·exact d_.T h
 ·cases h
def cn.l29 (F:Nat) (bQ:Int→Int→Sl→Int→Hp→OA) (jf:Sl→Nat→Nat→Nat→Nat→Hp→OA) :Nat→Nat→Nat→Nat→Nat→Int→Hp→OA
 | 0,_,_,_,_,_,_=>none
 | fa + 1,eg,dY,jC,gJ,fh,H22=>(Hp.ldI H22 .i64 jC gJ).bind fun n33=>(bif (decide (fh < n33)) then ((Hp.ldI H22 .i64 jC gJ).bind fun n34=>(Hp.ldI H22 .i64 jC (gJ + 1)).bind fun n35=>(Hp.ldSl H22 jC (gJ + 2)).bind fun s36=>(bQ n34 n35 s36 fh H22).bind fun r37=>((r37.1).asSl).bind fun s38=>(if Cons H22 r37.2 then ((Hp.ldI r37.2 .i64 eg dY).bind fun n39=>(Sl.cut s38 1 (IntKind.i64.wrap (n39 + 1)) (s38.n:Int)).bind fun s40=>(jf s40 jC gJ eg dY r37.2).bind fun r41=>((r41.1).asB).bind fun b42=>(bif b42 then (some ((.int .i64 fh),r41.2)) else (cn.l29 F bQ jf fa eg dY jC gJ (IntKind.i64.wrap (fh + 1)) r41.2))) else none)) else (some ((.int .i64 (-1)),H22)))
termination_by structural n=>n
def cn.twX (F:Nat) (bQ:Int→Int→Sl→Int→Hp→OA) (jf:Sl→Nat→Nat→Nat→Nat→Hp→OA) (aa:Nat) (ac:Nat) (ae:Int) (H:Hp):OA:=(Hp.new H [(.int .i64 ae)]).bind fun H4=>(Hp.ldI H4 .i64 aa (ac + 6)).bind fun n5=>(Hp.ldI H4 .i64 aa ((ac + 6) + 1)).bind fun n6=>(Hp.ldSl H4 aa ((ac + 6) + 2)).bind fun s7=>(Hp.new H4 [.int .i64 0,.int .i64 0,.sl ⟨none,0,.ex 0⟩]).bind fun H8=>(Hp.st H8 H4.length 0 (.int .i64 n5)).bind fun H9=>(Hp.st H9 H4.length (0 + 1) (.int .i64 n6)).bind fun H10=>(Hp.st H10 H4.length (0 + 1 + 1) (.sl s7)).bind fun H11=>(Hp.ldI H11 .i64 H.length 0).bind fun n12=>cn.l29 F bQ jf F H.length 0 H4.length 0 (IntKind.i64.wrap (n12 + 1)) H11
def cn.tw (F:Nat) (aa:Nat) (ac:Nat) (ae:Int) (H:Hp):OA:=cn.twX F (cC.tw F) (d_.tw F) aa ac ae H
def cn.code:Go.Code:=(Try.f136.body).getD .skip
def cn.lh29 (F:Nat) (bQ:Int→Int→Sl→Int→Hp→OA) (jf:Sl→Nat→Nat→Nat→Nat→Hp→OA) (ks:List Nat) (n:Nat) (tm:Tm) (H:Hp):OA:=match ks,tm 3,tm 5,tm 6 with
 | [],(.ptr eg dY),(.ptr jC gJ),(.int .i64 fh)=>cn.l29 F bQ jf n eg dY jC gJ fh H
 | _,_,_,_=>none
theorem cn.lh29_inv {F:Nat} {bQ:Int→Int→Sl→Int→Hp→OA} {jf:Sl→Nat→Nat→Nat→Nat→Hp→OA} {ks:List Nat} {n:Nat} {tm:Tm} {H:Hp} {r:AV×Hp} (h:cn.lh29 F bQ jf ks n tm H = some r):∃ eg:Nat,∃ dY:Nat,∃ jC:Nat,∃ gJ:Nat,∃ fh:Int,ks = []∧tm 3 = (.ptr eg dY)∧tm 5 = (.ptr jC gJ)∧tm 6 = (.int .i64 fh)∧cn.l29 F bQ jf n eg dY jC gJ fh H = some r:=by
 unfold cn.lh29 at h
 split at h
 ·exact ⟨_,_,_,_,_,rfl,by assumption,by assumption,by assumption,h⟩
 ·cases h
def cn.lh (F:Nat) (bQ:Int→Int→Sl→Int→Hp→OA) (jf:Sl→Nat→Nat→Nat→Nat→Hp→OA) (p:Nat) (ks:List Nat) (n:Nat) (tm:Tm) (H:Hp):OA:=bif p.beq 29 then cn.lh29 F bQ jf ks n tm H else (none)
def cn.pn:Nat→List Nat:=fun i=>(([(5,[7])]:List (Nat×List Nat)).lookup i).getD []
def cn.tb:Nat→List (List Nat):=fun i=>(([(5,[[],[],[0,1],[],[3],[0,1,2,3,4],[],[0,1,2,3,4,5,6]])]:List (Nat×List (List Nat))).lookup i).getD []
def cn.mk (g:Nat→Nat→Int→Hp→OA) (args:List AV) (H:Hp):OA:=match args with
 | [(.ptr aa ac),(.int .i64 ae)]=>g aa ac ae H
 | _=>none
def cn.cs (F:Nat) (bQ:Int→Int→Sl→Int→Hp→OA) (jf:Sl→Nat→Nat→Nat→Nat→Hp→OA):List (FuncId×(List AV→Hp→OA)):=[(120,cC.mk bQ),(81,d_.mk jf)]
theorem cn.loops (F:Nat) (bQ:Int→Int→Sl→Int→Hp→OA) (jf:Sl→Nat→Nat→Nat→Nat→Hp→OA):LoopsOk tabs (mkOrc (cn.cs F bQ jf)) cn.pn (cn.lh F bQ jf) F [] 1 cn.code (fun tm H=>aresults tabs.ty H tm Try.f136.results.toList fun v=>some (v,H)) (fun _ _ _=>none) (fun tm H=>aresults tabs.ty H tm Try.f136.results.toList fun v=>some (v,H)):=by
 refine LoopsOk.seq ?_ ?_
 ·exact loops_none (by kernel_rfl)
 ·refine LoopsOk.seq ?_ ?_
  ·exact loops_none (by kernel_rfl)
  ·refine LoopsOk.seq ?_ ?_
   ·refine LoopsOk.seq ?_ ?_
    ·exact loops_none (by kernel_rfl)
    ·refine LoopsOk.block ?_
     refine LoopsOk.loop (fun tm H=>?_) (fun k29 tm H r h0=>?_) (fun k29=>?_)
     ·refine none_of fun r h0=>?_
      obtain ⟨eg,dY,jC,gJ,fh,hks,e3,e5,e6,h⟩:=cn.lh29_inv (show cn.lh29 F bQ jf [] 0 tm H = some r from h0)
      cases h
     ·obtain ⟨eg,dY,jC,gJ,fh,hks,e3,e5,e6,h⟩:=cn.lh29_inv (show cn.lh29 F bQ jf [] (k29 + 1) tm H = some r from h0)
      have q0:(Tm.put tm 3 (.ptr eg dY)) = tm:=by exact Tm.put_same e3
      have q1:(Tm.put (Tm.put tm 3 (.ptr eg dY)) 5 (.ptr jC gJ)) = tm:=by rw [q0]; exact Tm.put_same e5
      have q2:(Tm.put (Tm.put (Tm.put tm 3 (.ptr eg dY)) 5 (.ptr jC gJ)) 6 (.int .i64 fh)) = tm:=by rw [q1]; exact Tm.put_same e6
      rw [← q2]
      exact Eq.trans (by kernel_rfl) h
     ·exact loops_none (by kernel_rfl)
   ·exact loops_none (by kernel_rfl)
theorem cn.eqX (F:Nat) (bQ:Int→Int→Sl→Int→Hp→OA) (jf:Sl→Nat→Nat→Nat→Nat→Hp→OA) (aa:Nat) (ac:Nat) (ae:Int) (H:Hp):aCode tabs (mkOrc (cn.cs F bQ jf)) cn.pn (cn.lh F bQ jf) F [] 1 cn.code (argTm [(.ptr aa ac),(.int .i64 ae)]) H (fun tm H=>aresults tabs.ty H tm Try.f136.results.toList fun v=>some (v,H)) (fun _ _ _=>none) (fun tm H=>aresults tabs.ty H tm Try.f136.results.toList fun v=>some (v,H)) = cn.twX F bQ jf aa ac ae H:=by kernel_rfl
theorem cn.cs_ok (F:Nat):∀ p ∈ cn.cs F (cC.tw F) (d_.tw F),∀ args H v H',p.2 args H = some (v,H')→Go.AE.T Try.prog p.1 args H v H':=by
 intro p hp
 simp only [cn.cs,List.mem_cons,List.not_mem_nil,or_false] at hp
 rcases hp with rfl | rfl
 ·exact fun args H v H' h=>cC.mk_T h
 ·exact fun args H v H' h=>d_.mk_T h
theorem cn.ok:codeOk cn.pn Try.f136.ntmps cn.tb cn.code = true:=by kernel_rfl
theorem cn.T {F:Nat} {aa:Nat} {ac:Nat} {ae:Int} {H:Hp} {v:AV} {H':Hp} (h:cn.tw F aa ac ae H = some (v,H')):Go.AE.T Try.prog 136 [(.ptr aa ac),(.int .i64 ae)] H v H':=
 Go.AE.T.of (Y:=tabs) (C:=mkOrc (cn.cs F (cC.tw F) (d_.tw F))) (PN:=cn.pn) (LH:=cn.lh F (cC.tw F) (d_.tw F)) (F:=F) (TB:=cn.tb) (fn:=Try.f136) (code:=cn.code) mixed tabs_ok (mkOrc_ok (cn.cs_ok F)) Try.func136 (by kernel_rfl) (by kernel_rfl) cn.ok (Nat.le_of_ble_eq_true (by kernel_rfl)) (cn.loops F (cC.tw F) (d_.tw F)) (Eq.trans (cn.eqX F (cC.tw F) (d_.tw F) aa ac ae H) h)
theorem cn.mk_T {F:Nat} {args:List AV} {H:Hp} {v:AV} {H':Hp} (h:cn.mk (cn.tw F) args H = some (v,H')):Go.AE.T Try.prog 136 args H v H':=by
 unfold cn.mk at h
 split at h
 ·exact cn.T h
 ·cases h
def aV.j4 (F:Nat) (gm:Nat→Nat→Int→Hp→OA) (gn:Nat→Nat→Int→Hp→OA) (gp:Nat→Nat→Int→Hp→OA) (gq:Nat→Nat→Int→Hp→OA) (db:Nat→Nat→Int→Int→Int→Hp→OA) (C3_:Nat→Nat→Int→Hp→OA) (AT:Nat) (AU:Nat) (pz:Int) (H57:Hp):OA:=C3_ AT AU pz H57
def aV.j5 (F:Nat) (gm:Nat→Nat→Int→Hp→OA) (gn:Nat→Nat→Int→Hp→OA) (gp:Nat→Nat→Int→Hp→OA) (gq:Nat→Nat→Int→Hp→OA) (db:Nat→Nat→Int→Int→Int→Hp→OA) (C3_:Nat→Nat→Int→Hp→OA) (AW:Nat) (AX:Nat) (pA:Int) (H80:Hp):OA:=C3_ AW AX pA H80
def aV.j6 (F:Nat) (gm:Nat→Nat→Int→Hp→OA) (gn:Nat→Nat→Int→Hp→OA) (gp:Nat→Nat→Int→Hp→OA) (gq:Nat→Nat→Int→Hp→OA) (db:Nat→Nat→Int→Int→Int→Hp→OA) (C3_:Nat→Nat→Int→Hp→OA) (oT:Nat) (oU:Nat) (pB:Int) (H71:Hp):OA:=aV.j5 F gm gn gp gq db C3_ oT oU pB H71
def aV.l3 (F:Nat) (gm:Nat→Nat→Int→Hp→OA) (gn:Nat→Nat→Int→Hp→OA) (gp:Nat→Nat→Int→Hp→OA) (gq:Nat→Nat→Int→Hp→OA) (db:Nat→Nat→Int→Int→Int→Hp→OA) :Nat→Nat→Nat→Int→Hp→OA
 | 0,_,_,_,_=>none
 | rC + 1,ct,cT,gi,H6=>(Hp.ldB H6 ct (cT + 15)).bind fun b44=>(bif (!b44) then ((Hp.ldI H6 .i64 ct (cT + 6)).bind fun n45=>(Hp.ldI H6 .i64 ct ((cT + 6) + 1)).bind fun n46=>(bif (decide (gi < (if n46 < n45 then n46 else n45))) then ((gm ct cT gi H6).bind fun r47=>((r47.1).asB).bind fun b48=>(bif (!b48) then (some ((.tup []),r47.2)) else ((gn ct cT gi r47.2).bind fun r49=>(Hp.ldB r49.2 ct (cT + 15)).bind fun b50=>(bif b50 then (aV.j4 F gm gn gp gq db (aV.l3 F gm gn gp gq db rC) ct cT gi r49.2) else ((gp ct cT gi r49.2).bind fun r58=>((r58.1).asB).bind fun b59=>(bif (!b59) then (aV.j4 F gm gn gp gq db (aV.l3 F gm gn gp gq db rC) ct cT gi r58.2) else ((gq ct cT gi r58.2).bind fun r60=>((r60.1).asI .i64).bind fun n61=>(bif (decide (n61 ≥ 0)) then ((db ct cT gi n61 1 r60.2).bind fun r62=>aV.j6 F gm gn gp gq db (aV.l3 F gm gn gp gq db rC) ct cT gi r62.2) else (aV.j6 F gm gn gp gq db (aV.l3 F gm gn gp gq db rC) ct cT (IntKind.i64.wrap (gi + 1)) r60.2))))))))) else (some ((.tup []),H6)))) else (some ((.tup []),H6)))
termination_by structural n=>n
def aV.twX (F:Nat) (gm:Nat→Nat→Int→Hp→OA) (gn:Nat→Nat→Int→Hp→OA) (gp:Nat→Nat→Int→Hp→OA) (gq:Nat→Nat→Int→Hp→OA) (db:Nat→Nat→Int→Int→Int→Hp→OA) (aa:Nat) (ac:Nat) (H:Hp):OA:=aV.l3 F gm gn gp gq db F aa ac 0 H
def aV.tw (F:Nat) (aa:Nat) (ac:Nat) (H:Hp):OA:=aV.twX F (aW.tw F) (aJ.tw F) (bF.tw F) (cn.tw F) (cZ.tw F) aa ac H
def aV.code:Go.Code:=(Try.f109.body).getD .skip
def aV.lh3 (F:Nat) (gm:Nat→Nat→Int→Hp→OA) (gn:Nat→Nat→Int→Hp→OA) (gp:Nat→Nat→Int→Hp→OA) (gq:Nat→Nat→Int→Hp→OA) (db:Nat→Nat→Int→Int→Int→Hp→OA) (ks:List Nat) (n:Nat) (tm:Tm) (H:Hp):OA:=match ks,tm 0,tm 2 with
 | [],(.ptr ct cT),(.int .i64 gi)=>aV.l3 F gm gn gp gq db n ct cT gi H
 | _,_,_=>none
theorem aV.lh3_inv {F:Nat} {gm:Nat→Nat→Int→Hp→OA} {gn:Nat→Nat→Int→Hp→OA} {gp:Nat→Nat→Int→Hp→OA} {gq:Nat→Nat→Int→Hp→OA} {db:Nat→Nat→Int→Int→Int→Hp→OA} {ks:List Nat} {n:Nat} {tm:Tm} {H:Hp} {r:AV×Hp} (h:aV.lh3 F gm gn gp gq db ks n tm H = some r):∃ ct:Nat,∃ cT:Nat,∃ gi:Int,ks = []∧tm 0 = (.ptr ct cT)∧tm 2 = (.int .i64 gi)∧aV.l3 F gm gn gp gq db n ct cT gi H = some r:=by
 unfold aV.lh3 at h
 split at h
 ·exact ⟨_,_,_,rfl,by assumption,by assumption,h⟩
 ·cases h
def aV.lh (F:Nat) (gm:Nat→Nat→Int→Hp→OA) (gn:Nat→Nat→Int→Hp→OA) (gp:Nat→Nat→Int→Hp→OA) (gq:Nat→Nat→Int→Hp→OA) (db:Nat→Nat→Int→Int→Int→Hp→OA) (p:Nat) (ks:List Nat) (n:Nat) (tm:Tm) (H:Hp):OA:=bif p.beq 3 then aV.lh3 F gm gn gp gq db ks n tm H else (none)
def aV.pn:Nat→List Nat:=fun i=>(([(1,[])]:List (Nat×List Nat)).lookup i).getD []
def aV.tb:Nat→List (List Nat):=fun i=>(([(1,[[],[0],[0,1],[0,1,2],[0,1,2,3],[0,1,2,3,4],[0,1,2,3,4,5],[0,1,2,3,4,5],[0,1,2,3,4,5,7],[0,1,2,3,4,5,7,8],[0,1,2,3,4,5,7,8,9],[0,1,2,3,4,5,7,8,9,10],[0,1,2,3,4,5,7,8,9,10,11],[0,1,2,3,4,5],[0,1,2,3,4,5,13],[0,1,2,3,4,5,13,14],[0,1,2,3,4,5,13,14,15],[0,1,2,3,4,5,13,14,15,16],[0,1,2,3,4,5,13,14,15,16,17],[0,1,2,3,4,5,7,8,9,10,11,12,13,14,15,16,17,18],[0,1,2,3,4,5,6,7,8,9,10,11,12,13,14,15,16,17,18,19],[0,1,2,3,4,5,6,7,8,9,10,11,12,13,14,15,16,17,18,19,20]])]:List (Nat×List (List Nat))).lookup i).getD []
def aV.mk (g:Nat→Nat→Hp→OA) (args:List AV) (H:Hp):OA:=match args with
 | [(.ptr aa ac)]=>g aa ac H
 | _=>none
def aV.cs (F:Nat) (gm:Nat→Nat→Int→Hp→OA) (gn:Nat→Nat→Int→Hp→OA) (gp:Nat→Nat→Int→Hp→OA) (gq:Nat→Nat→Int→Hp→OA) (db:Nat→Nat→Int→Int→Int→Hp→OA):List (FuncId×(List AV→Hp→OA)):=[(133,aW.mk gm),(134,aJ.mk gn),(135,bF.mk gp),(136,cn.mk gq),(137,cZ.mk db)]
theorem aV.loops (F:Nat) (gm:Nat→Nat→Int→Hp→OA) (gn:Nat→Nat→Int→Hp→OA) (gp:Nat→Nat→Int→Hp→OA) (gq:Nat→Nat→Int→Hp→OA) (db:Nat→Nat→Int→Int→Int→Hp→OA):LoopsOk tabs (mkOrc (aV.cs F gm gn gp gq db)) aV.pn (aV.lh F gm gn gp gq db) F [] 1 aV.code (fun tm H=>aresults tabs.ty H tm Try.f109.results.toList fun v=>some (v,H)) (fun _ _ _=>none) (fun tm H=>aresults tabs.ty H tm Try.f109.results.toList fun v=>some (v,H)):=by
 refine LoopsOk.seq ?_ ?_
 ·exact loops_none (by kernel_rfl)
 ·refine LoopsOk.block ?_
  refine LoopsOk.loop (fun tm H=>?_) (fun k3 tm H r h0=>?_) (fun k3=>?_)
  ·refine none_of fun r h0=>?_
   obtain ⟨ct,cT,gi,hks,e0,e2,h⟩:=aV.lh3_inv (show aV.lh3 F gm gn gp gq db [] 0 tm H = some r from h0)
   cases h
  ·obtain ⟨ct,cT,gi,hks,e0,e2,h⟩:=aV.lh3_inv (show aV.lh3 F gm gn gp gq db [] (k3 + 1) tm H = some r from h0)
   have q0:(Tm.put tm 0 (.ptr ct cT)) = tm:=by exact Tm.put_same e0
   have q1:(Tm.put (Tm.put tm 0 (.ptr ct cT)) 2 (.int .i64 gi)) = tm:=by rw [q0]; exact Tm.put_same e2
   rw [← q1]
   exact Eq.trans (by kernel_rfl) h
  ·exact loops_none (by kernel_rfl)
theorem aV.eqX (F:Nat) (gm:Nat→Nat→Int→Hp→OA) (gn:Nat→Nat→Int→Hp→OA) (gp:Nat→Nat→Int→Hp→OA) (gq:Nat→Nat→Int→Hp→OA) (db:Nat→Nat→Int→Int→Int→Hp→OA) (aa:Nat) (ac:Nat) (H:Hp):aCode tabs (mkOrc (aV.cs F gm gn gp gq db)) aV.pn (aV.lh F gm gn gp gq db) F [] 1 aV.code (argTm [(.ptr aa ac)]) H (fun tm H=>aresults tabs.ty H tm Try.f109.results.toList fun v=>some (v,H)) (fun _ _ _=>none) (fun tm H=>aresults tabs.ty H tm Try.f109.results.toList fun v=>some (v,H)) = aV.twX F gm gn gp gq db aa ac H:=by kernel_rfl
theorem aV.cs_ok (F:Nat):∀ p ∈ aV.cs F (aW.tw F) (aJ.tw F) (bF.tw F) (cn.tw F) (cZ.tw F),∀ args H v H',p.2 args H = some (v,H')→Go.AE.T Try.prog p.1 args H v H':=by
 intro p hp
 simp only [aV.cs,List.mem_cons,List.not_mem_nil,or_false] at hp
 rcases hp with rfl | rfl | rfl | rfl | rfl
 ·exact fun args H v H' h=>aW.mk_T h
 ·exact fun args H v H' h=>aJ.mk_T h
 ·exact fun args H v H' h=>bF.mk_T h
 ·exact fun args H v H' h=>cn.mk_T h
 ·exact fun args H v H' h=>cZ.mk_T h
theorem aV.ok:codeOk aV.pn Try.f109.ntmps aV.tb aV.code = true:=by kernel_rfl
theorem aV.T {F:Nat} {aa:Nat} {ac:Nat} {H:Hp} {v:AV} {H':Hp} (h:aV.tw F aa ac H = some (v,H')):Go.AE.T Try.prog 109 [(.ptr aa ac)] H v H':=
 Go.AE.T.of (Y:=tabs) (C:=mkOrc (aV.cs F (aW.tw F) (aJ.tw F) (bF.tw F) (cn.tw F) (cZ.tw F))) (PN:=aV.pn) (LH:=aV.lh F (aW.tw F) (aJ.tw F) (bF.tw F) (cn.tw F) (cZ.tw F)) (F:=F) (TB:=aV.tb) (fn:=Try.f109) (code:=aV.code) mixed tabs_ok (mkOrc_ok (aV.cs_ok F)) Try.func109 (by kernel_rfl) (by kernel_rfl) aV.ok (Nat.le_of_ble_eq_true (by kernel_rfl)) (aV.loops F (aW.tw F) (aJ.tw F) (bF.tw F) (cn.tw F) (cZ.tw F)) (Eq.trans (aV.eqX F (aW.tw F) (aJ.tw F) (bF.tw F) (cn.tw F) (cZ.tw F) aa ac H) h)
theorem aV.mk_T {F:Nat} {args:List AV} {H:Hp} {v:AV} {H':Hp} (h:aV.mk (aV.tw F) args H = some (v,H')):Go.AE.T Try.prog 109 args H v H':=by
 unfold aV.mk at h
 split at h
 ·exact aV.T h
 ·cases h
def dK.twX (F:Nat) (lQ:Int→Int→Sl→Hp→OA) (lR:Nat→Nat→Hp→OA) (aa:Int) (ac:Int) (aj:Sl) (H:Hp):OA:=(Hp.new H [(.int .i64 aa),(.int .i64 ac),(.sl aj)]).bind fun H4=>(Hp.new H4 [.int .i64 0,.int .i64 0,.sl ⟨none,0,.ex 0⟩,.int .i64 0,.int .i64 0,.sl ⟨none,0,.ex 0⟩,.int .i64 0,.int .i64 0,.sl ⟨none,0,.ex 0⟩,.int .i64 0,.int .i64 0,.sl ⟨none,0,.ex 0⟩,.int .i64 0,.int .i64 0,.sl ⟨none,0,.ex 0⟩]).bind fun H5=>(Hp.ldI H5 .i64 H.length 0).bind fun n6=>(Hp.ldI H5 .i64 H.length (0 + 1)).bind fun n7=>(Hp.ldSl H5 H.length (0 + 2)).bind fun s8=>(lQ n6 n7 s8 H5).bind fun r9=>((r9.1).asP).bind fun p10=>(lR p10.1 p10.2 r9.2).bind fun r11=>(Hp.ldB r11.2 p10.1 (p10.2 + 15)).bind fun b12=>(bif b12 then ((Hp.st r11.2 H4.length 0 (.int .i64 0)).bind fun H13=>(Hp.st H13 H4.length (0 + 1) (.int .i64 0)).bind fun H14=>(Hp.st H14 H4.length (0 + 1 + 1) (.sl (⟨none,0,.ex 0⟩:Sl))).bind fun H15=>(Hp.st H15 H4.length (0 + 1 + 1 + 1) (.int .i64 0)).bind fun H16=>(Hp.st H16 H4.length (0 + 1 + 1 + 1 + 1) (.int .i64 0)).bind fun H17=>(Hp.st H17 H4.length (0 + 1 + 1 + 1 + 1 + 1) (.sl (⟨none,0,.ex 0⟩:Sl))).bind fun H18=>(Hp.st H18 H4.length (0 + 1 + 1 + 1 + 1 + 1 + 1) (.int .i64 0)).bind fun H19=>(Hp.st H19 H4.length (0 + 1 + 1 + 1 + 1 + 1 + 1 + 1) (.int .i64 0)).bind fun H20=>(Hp.st H20 H4.length (0 + 1 + 1 + 1 + 1 + 1 + 1 + 1 + 1) (.sl (⟨none,0,.ex 0⟩:Sl))).bind fun H21=>(Hp.st H21 H4.length (0 + 1 + 1 + 1 + 1 + 1 + 1 + 1 + 1 + 1) (.int .i64 0)).bind fun H22=>(Hp.st H22 H4.length (0 + 1 + 1 + 1 + 1 + 1 + 1 + 1 + 1 + 1 + 1) (.int .i64 0)).bind fun H23=>(Hp.st H23 H4.length (0 + 1 + 1 + 1 + 1 + 1 + 1 + 1 + 1 + 1 + 1 + 1) (.sl (⟨none,0,.ex 0⟩:Sl))).bind fun H24=>(Hp.st H24 H4.length (0 + 1 + 1 + 1 + 1 + 1 + 1 + 1 + 1 + 1 + 1 + 1 + 1) (.int .i64 0)).bind fun H25=>(Hp.st H25 H4.length (0 + 1 + 1 + 1 + 1 + 1 + 1 + 1 + 1 + 1 + 1 + 1 + 1 + 1) (.int .i64 0)).bind fun H26=>(Hp.st H26 H4.length (0 + 1 + 1 + 1 + 1 + 1 + 1 + 1 + 1 + 1 + 1 + 1 + 1 + 1 + 1) (.sl (⟨none,0,.ex 0⟩:Sl))).bind fun H27=>(Hp.ldI H27 .i64 H4.length 0).bind fun n28=>(Hp.ldI H27 .i64 H4.length (0 + 1)).bind fun n29=>(Hp.ldSl H27 H4.length (0 + 2)).bind fun s30=>(Hp.ldI H27 .i64 H4.length (0 + 3)).bind fun n31=>(Hp.ldI H27 .i64 H4.length (0 + 4)).bind fun n32=>(Hp.ldSl H27 H4.length (0 + 5)).bind fun s33=>(Hp.ldI H27 .i64 H4.length (0 + 6)).bind fun n34=>(Hp.ldI H27 .i64 H4.length (0 + 7)).bind fun n35=>(Hp.ldSl H27 H4.length (0 + 8)).bind fun s36=>(Hp.ldI H27 .i64 H4.length (0 + 9)).bind fun n37=>(Hp.ldI H27 .i64 H4.length (0 + 10)).bind fun n38=>(Hp.ldSl H27 H4.length (0 + 11)).bind fun s39=>(Hp.ldI H27 .i64 H4.length (0 + 12)).bind fun n40=>(Hp.ldI H27 .i64 H4.length (0 + 13)).bind fun n41=>(Hp.ldSl H27 H4.length (0 + 14)).bind fun s42=>some ((.tup [(.agg [(.int .i64 n28),(.int .i64 n29),(.sl s30),(.int .i64 n31),(.int .i64 n32),(.sl s33),(.int .i64 n34),(.int .i64 n35),(.sl s36),(.int .i64 n37),(.int .i64 n38),(.sl s39),(.int .i64 n40),(.int .i64 n41),(.sl s42)]),(.int .i64 3)]),H27)) else ((Hp.ldI r11.2 .i64 p10.1 p10.2).bind fun n43=>(Hp.ldI r11.2 .i64 p10.1 (p10.2 + 1)).bind fun n44=>(Hp.ldSl r11.2 p10.1 (p10.2 + 2)).bind fun s45=>(Hp.ldI r11.2 .i64 p10.1 (p10.2 + 3)).bind fun n46=>(Hp.ldI r11.2 .i64 p10.1 (p10.2 + 4)).bind fun n47=>(Hp.ldSl r11.2 p10.1 (p10.2 + 5)).bind fun s48=>(Hp.ldI r11.2 .i64 p10.1 (p10.2 + 6)).bind fun n49=>(Hp.ldI r11.2 .i64 p10.1 (p10.2 + 7)).bind fun n50=>(Hp.ldSl r11.2 p10.1 (p10.2 + 8)).bind fun s51=>(Hp.ldI r11.2 .i64 p10.1 (p10.2 + 9)).bind fun n52=>(Hp.ldI r11.2 .i64 p10.1 (p10.2 + 10)).bind fun n53=>(Hp.ldSl r11.2 p10.1 (p10.2 + 11)).bind fun s54=>(Hp.ldI r11.2 .i64 p10.1 (p10.2 + 12)).bind fun n55=>(Hp.ldI r11.2 .i64 p10.1 (p10.2 + 13)).bind fun n56=>(Hp.ldSl r11.2 p10.1 (p10.2 + 14)).bind fun s57=>(Hp.st r11.2 H4.length 0 (.int .i64 n43)).bind fun H58=>(Hp.st H58 H4.length (0 + 1) (.int .i64 n44)).bind fun H59=>(Hp.st H59 H4.length (0 + 1 + 1) (.sl s45)).bind fun H60=>(Hp.st H60 H4.length (0 + 1 + 1 + 1) (.int .i64 n46)).bind fun H61=>(Hp.st H61 H4.length (0 + 1 + 1 + 1 + 1) (.int .i64 n47)).bind fun H62=>(Hp.st H62 H4.length (0 + 1 + 1 + 1 + 1 + 1) (.sl s48)).bind fun H63=>(Hp.st H63 H4.length (0 + 1 + 1 + 1 + 1 + 1 + 1) (.int .i64 n49)).bind fun H64=>(Hp.st H64 H4.length (0 + 1 + 1 + 1 + 1 + 1 + 1 + 1) (.int .i64 n50)).bind fun H65=>(Hp.st H65 H4.length (0 + 1 + 1 + 1 + 1 + 1 + 1 + 1 + 1) (.sl s51)).bind fun H66=>(Hp.st H66 H4.length (0 + 1 + 1 + 1 + 1 + 1 + 1 + 1 + 1 + 1) (.int .i64 n52)).bind fun H67=>(Hp.st H67 H4.length (0 + 1 + 1 + 1 + 1 + 1 + 1 + 1 + 1 + 1 + 1) (.int .i64 n53)).bind fun H68=>(Hp.st H68 H4.length (0 + 1 + 1 + 1 + 1 + 1 + 1 + 1 + 1 + 1 + 1 + 1) (.sl s54)).bind fun H69=>(Hp.st H69 H4.length (0 + 1 + 1 + 1 + 1 + 1 + 1 + 1 + 1 + 1 + 1 + 1 + 1) (.int .i64 n55)).bind fun H70=>(Hp.st H70 H4.length (0 + 1 + 1 + 1 + 1 + 1 + 1 + 1 + 1 + 1 + 1 + 1 + 1 + 1) (.int .i64 n56)).bind fun H71=>(Hp.st H71 H4.length (0 + 1 + 1 + 1 + 1 + 1 + 1 + 1 + 1 + 1 + 1 + 1 + 1 + 1 + 1) (.sl s57)).bind fun H72=>(Hp.ldI H72 .i64 H4.length 0).bind fun n73=>(Hp.ldI H72 .i64 H4.length (0 + 1)).bind fun n74=>(Hp.ldSl H72 H4.length (0 + 2)).bind fun s75=>(Hp.ldI H72 .i64 H4.length (0 + 3)).bind fun n76=>(Hp.ldI H72 .i64 H4.length (0 + 4)).bind fun n77=>(Hp.ldSl H72 H4.length (0 + 5)).bind fun s78=>(Hp.ldI H72 .i64 H4.length (0 + 6)).bind fun n79=>(Hp.ldI H72 .i64 H4.length (0 + 7)).bind fun n80=>(Hp.ldSl H72 H4.length (0 + 8)).bind fun s81=>(Hp.ldI H72 .i64 H4.length (0 + 9)).bind fun n82=>(Hp.ldI H72 .i64 H4.length (0 + 10)).bind fun n83=>(Hp.ldSl H72 H4.length (0 + 11)).bind fun s84=>(Hp.ldI H72 .i64 H4.length (0 + 12)).bind fun n85=>(Hp.ldI H72 .i64 H4.length (0 + 13)).bind fun n86=>(Hp.ldSl H72 H4.length (0 + 14)).bind fun s87=>some ((.tup [(.agg [(.int .i64 n73),(.int .i64 n74),(.sl s75),(.int .i64 n76),(.int .i64 n77),(.sl s78),(.int .i64 n79),(.int .i64 n80),(.sl s81),(.int .i64 n82),(.int .i64 n83),(.sl s84),(.int .i64 n85),(.int .i64 n86),(.sl s87)]),(.int .i64 0)]),H72)))
def dK.tw (F:Nat) (aa:Int) (ac:Int) (aj:Sl) (H:Hp):OA:=dK.twX F (eT.tw F) (aV.tw F) aa ac aj H
def dK.code:Go.Code:=(Try.f62.body).getD .skip
def dK.lh (F:Nat) (lQ:Int→Int→Sl→Hp→OA) (lR:Nat→Nat→Hp→OA) (p:Nat) (ks:List Nat) (n:Nat) (tm:Tm) (H:Hp):OA:=none
def dK.pn:Nat→List Nat:=fun i=>(([]:List (Nat×List Nat)).lookup i).getD []
def dK.tb:Nat→List (List Nat):=fun i=>(([]:List (Nat×List (List Nat))).lookup i).getD []
def dK.mk (g:Int→Int→Sl→Hp→OA) (args:List AV) (H:Hp):OA:=match args with
 | [(.agg [(.int .i64 aa),(.int .i64 ac),(.sl aj)])]=>g aa ac aj H
 | _=>none
def dK.cs (F:Nat) (lQ:Int→Int→Sl→Hp→OA) (lR:Nat→Nat→Hp→OA):List (FuncId×(List AV→Hp→OA)):=[(108,eT.mk lQ),(109,aV.mk lR)]
theorem dK.loops (F:Nat) (lQ:Int→Int→Sl→Hp→OA) (lR:Nat→Nat→Hp→OA):LoopsOk tabs (mkOrc (dK.cs F lQ lR)) dK.pn (dK.lh F lQ lR) F [] 1 dK.code (fun tm H=>aresults tabs.ty H tm Try.f62.results.toList fun v=>some (v,H)) (fun _ _ _=>none) (fun tm H=>aresults tabs.ty H tm Try.f62.results.toList fun v=>some (v,H)):=by
 exact loops_none (by kernel_rfl)
theorem dK.eqX (F:Nat) (lQ:Int→Int→Sl→Hp→OA) (lR:Nat→Nat→Hp→OA) (aa:Int) (ac:Int) (aj:Sl) (H:Hp):aCode tabs (mkOrc (dK.cs F lQ lR)) dK.pn (dK.lh F lQ lR) F [] 1 dK.code (argTm [(.agg [(.int .i64 aa),(.int .i64 ac),(.sl aj)])]) H (fun tm H=>aresults tabs.ty H tm Try.f62.results.toList fun v=>some (v,H)) (fun _ _ _=>none) (fun tm H=>aresults tabs.ty H tm Try.f62.results.toList fun v=>some (v,H)) = dK.twX F lQ lR aa ac aj H:=by kernel_rfl
theorem dK.cs_ok (F:Nat):∀ p ∈ dK.cs F (eT.tw F) (aV.tw F),∀ args H v H',p.2 args H = some (v,H')→Go.AE.T Try.prog p.1 args H v H':=by
 intro p hp
 simp only [dK.cs,List.mem_cons,List.not_mem_nil,or_false] at hp
 rcases hp with rfl | rfl
 ·exact fun args H v H' h=>eT.mk_T h
 ·exact fun args H v H' h=>aV.mk_T h
theorem dK.ok:codeOk dK.pn Try.f62.ntmps dK.tb dK.code = true:=by kernel_rfl
theorem dK.T {F:Nat} {aa:Int} {ac:Int} {aj:Sl} {H:Hp} {v:AV} {H':Hp} (h:dK.tw F aa ac aj H = some (v,H')):Go.AE.T Try.prog 62 [(.agg [(.int .i64 aa),(.int .i64 ac),(.sl aj)])] H v H':=
 Go.AE.T.of (Y:=tabs) (C:=mkOrc (dK.cs F (eT.tw F) (aV.tw F))) (PN:=dK.pn) (LH:=dK.lh F (eT.tw F) (aV.tw F)) (F:=F) (TB:=dK.tb) (fn:=Try.f62) (code:=dK.code) mixed tabs_ok (mkOrc_ok (dK.cs_ok F)) Try.func62 (by kernel_rfl) (by kernel_rfl) dK.ok (Nat.le_of_ble_eq_true (by kernel_rfl)) (dK.loops F (eT.tw F) (aV.tw F)) (Eq.trans (dK.eqX F (eT.tw F) (aV.tw F) aa ac aj H) h)
theorem dK.mk_T {F:Nat} {args:List AV} {H:Hp} {v:AV} {H':Hp} (h:dK.mk (dK.tw F) args H = some (v,H')):Go.AE.T Try.prog 62 args H v H':=by
 unfold dK.mk at h
 split at h
 ·exact dK.T h
 ·cases h
def bB.j2 (F:Nat) (hH:Int→Int→Sl→Hp→OA) (ah:Int→Int→Sl→Int→Int→Hp→OA) (C125_:Nat→Nat→Sl→Int→Int→Hp→OA) (rD:Nat) (AY:Nat) (AZ:Sl) (pE:Int) (pF:Int) (H132:Hp):OA:=C125_ rD AY AZ pE (IntKind.i64.wrap (pF + 1)) H132
def bB.l125 (F:Nat) (hH:Int→Int→Sl→Hp→OA) (ah:Int→Int→Sl→Int→Int→Hp→OA) :Nat→Nat→Nat→Sl→Int→Int→Hp→OA
 | 0,_,_,_,_,_,_=>none
 | wt + 1,jm,kF,lb,jn,ik,H76=>(bif (decide (ik < jn)) then ((Hp.ldI H76 .i64 jm (kF + 6)).bind fun n105=>(Hp.ldI H76 .i64 jm ((kF + 6) + 1)).bind fun n106=>(Hp.ldSl H76 jm ((kF + 6) + 2)).bind fun s107=>(ah n105 n106 s107 ik ik H76).bind fun r108=>((r108.1).asP).bind fun p109=>(Hp.ldI r108.2 .i64 p109.1 p109.2).bind fun n110=>(bif (n110 != 0) then ((Hp.new r108.2 [(.int .i64 n110)]).bind fun H111=>(Sl.row H111 (⟨some (r108.2.length,0),1,.ex 1⟩:Sl) 1).bind fun xs113=>(Hp.app H111 1 8 lb (⟨some (r108.2.length,0),1,.ex 1⟩:Sl).n xs113).bind fun a112=>bB.j2 F hH ah (bB.l125 F hH ah wt) jm kF a112.1 jn ik a112.2) else (bB.j2 F hH ah (bB.l125 F hH ah wt) jm kF lb jn ik r108.2))) else (some ((.tup [(.sl lb),(.int .i64 0)]),H76)))
termination_by structural n=>n
def bB.twX (F:Nat) (hH:Int→Int→Sl→Hp→OA) (ah:Int→Int→Sl→Int→Int→Hp→OA) (aa:Int) (ac:Int) (aj:Sl) (H:Hp):OA:=(Hp.new H [(.int .i64 aa),(.int .i64 ac),(.sl aj)]).bind fun H4=>(Hp.ldI H4 .i64 H.length 0).bind fun n5=>(Hp.ldI H4 .i64 H.length (0 + 1)).bind fun n6=>(Hp.ldSl H4 H.length (0 + 2)).bind fun s7=>(hH n5 n6 s7 H4).bind fun r8=>((r8.1).asTup 2).bind fun l9=>(l9[0]?).bind fun v10=>((v10).asAgg 15).bind fun l11=>(l11[0]?).bind fun v12=>((v12).asI .i64).bind fun n13=>(l11[1]?).bind fun v14=>((v14).asI .i64).bind fun n15=>(l11[2]?).bind fun v16=>((v16).asSl).bind fun s17=>(l11[3]?).bind fun v18=>((v18).asI .i64).bind fun n19=>(l11[4]?).bind fun v20=>((v20).asI .i64).bind fun n21=>(l11[5]?).bind fun v22=>((v22).asSl).bind fun s23=>(l11[6]?).bind fun v24=>((v24).asI .i64).bind fun n25=>(l11[7]?).bind fun v26=>((v26).asI .i64).bind fun n27=>(l11[8]?).bind fun v28=>((v28).asSl).bind fun s29=>(l11[9]?).bind fun v30=>((v30).asI .i64).bind fun n31=>(l11[10]?).bind fun v32=>((v32).asI .i64).bind fun n33=>(l11[11]?).bind fun v34=>((v34).asSl).bind fun s35=>(l11[12]?).bind fun v36=>((v36).asI .i64).bind fun n37=>(l11[13]?).bind fun v38=>((v38).asI .i64).bind fun n39=>(l11[14]?).bind fun v40=>((v40).asSl).bind fun s41=>(l9[1]?).bind fun v42=>((v42).asI .i64).bind fun n43=>(Hp.new r8.2 [.int .i64 0,.int .i64 0,.sl ⟨none,0,.ex 0⟩,.int .i64 0,.int .i64 0,.sl ⟨none,0,.ex 0⟩,.int .i64 0,.int .i64 0,.sl ⟨none,0,.ex 0⟩,.int .i64 0,.int .i64 0,.sl ⟨none,0,.ex 0⟩,.int .i64 0,.int .i64 0,.sl ⟨none,0,.ex 0⟩]).bind fun H44=>(Hp.st H44 r8.2.length 0 (.int .i64 n13)).bind fun H45=>(Hp.st H45 r8.2.length (0 + 1) (.int .i64 n15)).bind fun H46=>(Hp.st H46 r8.2.length (0 + 1 + 1) (.sl s17)).bind fun H47=>(Hp.st H47 r8.2.length (0 + 1 + 1 + 1) (.int .i64 n19)).bind fun H48=>(Hp.st H48 r8.2.length (0 + 1 + 1 + 1 + 1) (.int .i64 n21)).bind fun H49=>(Hp.st H49 r8.2.length (0 + 1 + 1 + 1 + 1 + 1) (.sl s23)).bind fun H50=>(Hp.st H50 r8.2.length (0 + 1 + 1 + 1 + 1 + 1 + 1) (.int .i64 n25)).bind fun H51=>(Hp.st H51 r8.2.length (0 + 1 + 1 + 1 + 1 + 1 + 1 + 1) (.int .i64 n27)).bind fun H52=>(Hp.st H52 r8.2.length (0 + 1 + 1 + 1 + 1 + 1 + 1 + 1 + 1) (.sl s29)).bind fun H53=>(Hp.st H53 r8.2.length (0 + 1 + 1 + 1 + 1 + 1 + 1 + 1 + 1 + 1) (.int .i64 n31)).bind fun H54=>(Hp.st H54 r8.2.length (0 + 1 + 1 + 1 + 1 + 1 + 1 + 1 + 1 + 1 + 1) (.int .i64 n33)).bind fun H55=>(Hp.st H55 r8.2.length (0 + 1 + 1 + 1 + 1 + 1 + 1 + 1 + 1 + 1 + 1 + 1) (.sl s35)).bind fun H56=>(Hp.st H56 r8.2.length (0 + 1 + 1 + 1 + 1 + 1 + 1 + 1 + 1 + 1 + 1 + 1 + 1) (.int .i64 n37)).bind fun H57=>(Hp.st H57 r8.2.length (0 + 1 + 1 + 1 + 1 + 1 + 1 + 1 + 1 + 1 + 1 + 1 + 1 + 1) (.int .i64 n39)).bind fun H58=>(Hp.st H58 r8.2.length (0 + 1 + 1 + 1 + 1 + 1 + 1 + 1 + 1 + 1 + 1 + 1 + 1 + 1 + 1) (.sl s41)).bind fun H59=>(bif (n43 != 0) then (some ((.tup [(.sl (⟨none,0,.ex 0⟩:Sl)),(.int .i64 n43)]),H59)) else ((Hp.ldI H59 .i64 H.length 0).bind fun n60=>(Hp.ldI H59 .i64 H.length 1).bind fun n61=>bB.l125 F hH ah F r8.2.length 0 (⟨none,0,.ex 0⟩:Sl) (if n61 < n60 then n61 else n60) 0 H59))
def bB.tw (F:Nat) (aa:Int) (ac:Int) (aj:Sl) (H:Hp):OA:=bB.twX F (dK.tw F) (aO.tw F) aa ac aj H
def bB.code:Go.Code:=(Try.f63.body).getD .skip
def bB.lh125 (F:Nat) (hH:Int→Int→Sl→Hp→OA) (ah:Int→Int→Sl→Int→Int→Hp→OA) (ks:List Nat) (n:Nat) (tm:Tm) (H:Hp):OA:=match ks,tm 4,tm 6,tm 21,tm 22 with
 | [],(.ptr jm kF),(.sl lb),(.int .i64 jn),(.int .i64 ik)=>bB.l125 F hH ah n jm kF lb jn ik H
 | _,_,_,_,_=>none
theorem bB.lh125_inv {F:Nat} {hH:Int→Int→Sl→Hp→OA} {ah:Int→Int→Sl→Int→Int→Hp→OA} {ks:List Nat} {n:Nat} {tm:Tm} {H:Hp} {r:AV×Hp} (h:bB.lh125 F hH ah ks n tm H = some r):∃ jm:Nat,∃ kF:Nat,∃ lb:Sl,∃ jn:Int,∃ ik:Int,ks = []∧tm 4 = (.ptr jm kF)∧tm 6 = (.sl lb)∧tm 21 = (.int .i64 jn)∧tm 22 = (.int .i64 ik)∧bB.l125 F hH ah n jm kF lb jn ik H = some r:=by
 unfold bB.lh125 at h
 split at h
 ·exact ⟨_,_,_,_,_,rfl,by assumption,by assumption,by assumption,by assumption,h⟩
 ·cases h
def bB.lh (F:Nat) (hH:Int→Int→Sl→Hp→OA) (ah:Int→Int→Sl→Int→Int→Hp→OA) (p:Nat) (ks:List Nat) (n:Nat) (tm:Tm) (H:Hp):OA:=bif p.beq 125 then bB.lh125 F hH ah ks n tm H else (none)
def bB.pn:Nat→List Nat:=fun i=>(([]:List (Nat×List Nat)).lookup i).getD []
def bB.tb:Nat→List (List Nat):=fun i=>(([]:List (Nat×List (List Nat))).lookup i).getD []
def bB.mk (g:Int→Int→Sl→Hp→OA) (args:List AV) (H:Hp):OA:=match args with
 | [(.agg [(.int .i64 aa),(.int .i64 ac),(.sl aj)])]=>g aa ac aj H
 | _=>none
def bB.cs (F:Nat) (hH:Int→Int→Sl→Hp→OA) (ah:Int→Int→Sl→Int→Int→Hp→OA):List (FuncId×(List AV→Hp→OA)):=[(62,dK.mk hH),(95,aO.mk ah)]
theorem bB.loops (F:Nat) (hH:Int→Int→Sl→Hp→OA) (ah:Int→Int→Sl→Int→Int→Hp→OA):LoopsOk tabs (mkOrc (bB.cs F hH ah)) bB.pn (bB.lh F hH ah) F [] 1 bB.code (fun tm H=>aresults tabs.ty H tm Try.f63.results.toList fun v=>some (v,H)) (fun _ _ _=>none) (fun tm H=>aresults tabs.ty H tm Try.f63.results.toList fun v=>some (v,H)):=by
 refine LoopsOk.seq ?_ ?_
 ·exact loops_none (by kernel_rfl)
 ·refine LoopsOk.seq ?_ ?_
  ·exact loops_none (by kernel_rfl)
  ·refine LoopsOk.seq ?_ ?_
   ·exact loops_none (by kernel_rfl)
   ·refine LoopsOk.seq ?_ ?_
    ·exact loops_none (by kernel_rfl)
    ·refine LoopsOk.seq ?_ ?_
     ·refine LoopsOk.seq ?_ ?_
      ·exact loops_none (by kernel_rfl)
      ·refine LoopsOk.block ?_
       refine LoopsOk.loop (fun tm H=>?_) (fun k125 tm H r h0=>?_) (fun k125=>?_)
       ·refine none_of fun r h0=>?_
        obtain ⟨jm,kF,lb,jn,ik,hks,e4,e6,e21,e22,h⟩:=bB.lh125_inv (show bB.lh125 F hH ah [] 0 tm H = some r from h0)
        cases h
       ·obtain ⟨jm,kF,lb,jn,ik,hks,e4,e6,e21,e22,h⟩:=bB.lh125_inv (show bB.lh125 F hH ah [] (k125 + 1) tm H = some r from h0)
        have q0:(Tm.put tm 4 (.ptr jm kF)) = tm:=by exact Tm.put_same e4
        have q1:(Tm.put (Tm.put tm 4 (.ptr jm kF)) 6 (.sl lb)) = tm:=by rw [q0]; exact Tm.put_same e6
        have q2:(Tm.put (Tm.put (Tm.put tm 4 (.ptr jm kF)) 6 (.sl lb)) 21 (.int .i64 jn)) = tm:=by rw [q1]; exact Tm.put_same e21
        have q3:(Tm.put (Tm.put (Tm.put (Tm.put tm 4 (.ptr jm kF)) 6 (.sl lb)) 21 (.int .i64 jn)) 22 (.int .i64 ik)) = tm:=by rw [q2]; exact Tm.put_same e22
        rw [← q3]
        exact Eq.trans (by kernel_rfl) h
       ·exact loops_none (by kernel_rfl)
     ·exact loops_none (by kernel_rfl)
theorem bB.eqX (F:Nat) (hH:Int→Int→Sl→Hp→OA) (ah:Int→Int→Sl→Int→Int→Hp→OA) (aa:Int) (ac:Int) (aj:Sl) (H:Hp):aCode tabs (mkOrc (bB.cs F hH ah)) bB.pn (bB.lh F hH ah) F [] 1 bB.code (argTm [(.agg [(.int .i64 aa),(.int .i64 ac),(.sl aj)])]) H (fun tm H=>aresults tabs.ty H tm Try.f63.results.toList fun v=>some (v,H)) (fun _ _ _=>none) (fun tm H=>aresults tabs.ty H tm Try.f63.results.toList fun v=>some (v,H)) = bB.twX F hH ah aa ac aj H:=by kernel_rfl
theorem bB.cs_ok (F:Nat):∀ p ∈ bB.cs F (dK.tw F) (aO.tw F),∀ args H v H',p.2 args H = some (v,H')→Go.AE.T Try.prog p.1 args H v H':=by
 intro p hp
 simp only [bB.cs,List.mem_cons,List.not_mem_nil,or_false] at hp
 rcases hp with rfl | rfl
 ·exact fun args H v H' h=>dK.mk_T h
 ·exact fun args H v H' h=>aO.mk_T h
theorem bB.ok:codeOk bB.pn Try.f63.ntmps bB.tb bB.code = true:=by kernel_rfl
theorem bB.T {F:Nat} {aa:Int} {ac:Int} {aj:Sl} {H:Hp} {v:AV} {H':Hp} (h:bB.tw F aa ac aj H = some (v,H')):Go.AE.T Try.prog 63 [(.agg [(.int .i64 aa),(.int .i64 ac),(.sl aj)])] H v H':=
 Go.AE.T.of (Y:=tabs) (C:=mkOrc (bB.cs F (dK.tw F) (aO.tw F))) (PN:=bB.pn) (LH:=bB.lh F (dK.tw F) (aO.tw F)) (F:=F) (TB:=bB.tb) (fn:=Try.f63) (code:=bB.code) mixed tabs_ok (mkOrc_ok (bB.cs_ok F)) Try.func63 (by kernel_rfl) (by kernel_rfl) bB.ok (Nat.le_of_ble_eq_true (by kernel_rfl)) (bB.loops F (dK.tw F) (aO.tw F)) (Eq.trans (bB.eqX F (dK.tw F) (aO.tw F) aa ac aj H) h)
theorem bB.mk_T {F:Nat} {args:List AV} {H:Hp} {v:AV} {H':Hp} (h:bB.mk (bB.tw F) args H = some (v,H')):Go.AE.T Try.prog 63 args H v H':=by
 unfold bB.mk at h
 split at h
 ·exact bB.T h
 ·cases h
def eb.twX (F:Nat) (lS:Int→Int→Sl→Hp→OA) (lT:Int→Int→Sl→Hp→OA) (aa:Int) (ac:Int) (aj:Sl) (H:Hp):OA:=(Hp.new H [(.int .i64 aa),(.int .i64 ac),(.sl aj)]).bind fun H4=>(Hp.ldI H4 .i64 H.length 0).bind fun n5=>(Hp.ldI H4 .i64 H.length (0 + 1)).bind fun n6=>(Hp.ldSl H4 H.length (0 + 2)).bind fun s7=>(lS n5 n6 s7 H4).bind fun r8=>((r8.1).asB).bind fun b9=>(bif (!b9) then (some ((.tup [(.sl (⟨none,0,.ex 0⟩:Sl)),(.int .i64 1)]),r8.2)) else ((Hp.ldI r8.2 .i64 H.length 0).bind fun n10=>(Hp.ldI r8.2 .i64 H.length (0 + 1)).bind fun n11=>(Hp.ldSl r8.2 H.length (0 + 2)).bind fun s12=>(lT n10 n11 s12 r8.2).bind fun r13=>((r13.1).asTup 2).bind fun l14=>(l14[0]?).bind fun v15=>((v15).asSl).bind fun s16=>(l14[1]?).bind fun v17=>((v17).asI .i64).bind fun n18=>some ((.tup [(.sl s16),(.int .i64 n18)]),r13.2)))
def eb.tw (F:Nat) (aa:Int) (ac:Int) (aj:Sl) (H:Hp):OA:=eb.twX F (dW.tw F) (bB.tw F) aa ac aj H
def eb.code:Go.Code:=(Try.f17.body).getD .skip
def eb.lh (F:Nat) (lS:Int→Int→Sl→Hp→OA) (lT:Int→Int→Sl→Hp→OA) (p:Nat) (ks:List Nat) (n:Nat) (tm:Tm) (H:Hp):OA:=none
def eb.pn:Nat→List Nat:=fun i=>(([]:List (Nat×List Nat)).lookup i).getD []
def eb.tb:Nat→List (List Nat):=fun i=>(([]:List (Nat×List (List Nat))).lookup i).getD []
def eb.mk (g:Int→Int→Sl→Hp→OA) (args:List AV) (H:Hp):OA:=match args with
 | [(.agg [(.int .i64 aa),(.int .i64 ac),(.sl aj)])]=>g aa ac aj H
 | _=>none
def eb.cs (F:Nat) (lS:Int→Int→Sl→Hp→OA) (lT:Int→Int→Sl→Hp→OA):List (FuncId×(List AV→Hp→OA)):=[(61,dW.mk lS),(63,bB.mk lT)]
theorem eb.loops (F:Nat) (lS:Int→Int→Sl→Hp→OA) (lT:Int→Int→Sl→Hp→OA):LoopsOk tabs (mkOrc (eb.cs F lS lT)) eb.pn (eb.lh F lS lT) F [] 1 eb.code (fun tm H=>aresults tabs.ty H tm Try.f17.results.toList fun v=>some (v,H)) (fun _ _ _=>none) (fun tm H=>aresults tabs.ty H tm Try.f17.results.toList fun v=>some (v,H)):=by
 exact loops_none (by kernel_rfl)
theorem eb.eqX (F:Nat) (lS:Int→Int→Sl→Hp→OA) (lT:Int→Int→Sl→Hp→OA) (aa:Int) (ac:Int) (aj:Sl) (H:Hp):aCode tabs (mkOrc (eb.cs F lS lT)) eb.pn (eb.lh F lS lT) F [] 1 eb.code (argTm [(.agg [(.int .i64 aa),(.int .i64 ac),(.sl aj)])]) H (fun tm H=>aresults tabs.ty H tm Try.f17.results.toList fun v=>some (v,H)) (fun _ _ _=>none) (fun tm H=>aresults tabs.ty H tm Try.f17.results.toList fun v=>some (v,H)) = eb.twX F lS lT aa ac aj H:=by kernel_rfl
theorem eb.cs_ok (F:Nat):∀ p ∈ eb.cs F (dW.tw F) (bB.tw F),∀ args H v H',p.2 args H = some (v,H')→Go.AE.T Try.prog p.1 args H v H':=by
 intro p hp
 simp only [eb.cs,List.mem_cons,List.not_mem_nil,or_false] at hp
 rcases hp with rfl | rfl
 ·exact fun args H v H' h=>dW.mk_T h
 ·exact fun args H v H' h=>bB.mk_T h
theorem eb.ok:codeOk eb.pn Try.f17.ntmps eb.tb eb.code = true:=by kernel_rfl
theorem eb.T {F:Nat} {aa:Int} {ac:Int} {aj:Sl} {H:Hp} {v:AV} {H':Hp} (h:eb.tw F aa ac aj H = some (v,H')):Go.AE.T Try.prog 17 [(.agg [(.int .i64 aa),(.int .i64 ac),(.sl aj)])] H v H':=
 Go.AE.T.of (Y:=tabs) (C:=mkOrc (eb.cs F (dW.tw F) (bB.tw F))) (PN:=eb.pn) (LH:=eb.lh F (dW.tw F) (bB.tw F)) (F:=F) (TB:=eb.tb) (fn:=Try.f17) (code:=eb.code) mixed tabs_ok (mkOrc_ok (eb.cs_ok F)) Try.func17 (by kernel_rfl) (by kernel_rfl) eb.ok (Nat.le_of_ble_eq_true (by kernel_rfl)) (eb.loops F (dW.tw F) (bB.tw F)) (Eq.trans (eb.eqX F (dW.tw F) (bB.tw F) aa ac aj H) h)
theorem eb.mk_T {F:Nat} {args:List AV} {H:Hp} {v:AV} {H':Hp} (h:eb.mk (eb.tw F) args H = some (v,H')):Go.AE.T Try.prog 17 args H v H':=by
 unfold eb.mk at h
 split at h
 ·exact eb.T h
 ·cases h
def dg.twX (F:Nat) (aa:Int) (H:Hp):OA:=some ((.bool (aa == 1)),H)
def dg.tw (F:Nat) (aa:Int) (H:Hp):OA:=dg.twX F aa H
def dg.code:Go.Code:=(Try.f119.body).getD .skip
def dg.lh (F:Nat) (p:Nat) (ks:List Nat) (n:Nat) (tm:Tm) (H:Hp):OA:=none
def dg.pn:Nat→List Nat:=fun i=>(([]:List (Nat×List Nat)).lookup i).getD []
def dg.tb:Nat→List (List Nat):=fun i=>(([]:List (Nat×List (List Nat))).lookup i).getD []
def dg.mk (g:Int→Hp→OA) (args:List AV) (H:Hp):OA:=match args with
 | [(.int .i64 aa)]=>g aa H
 | _=>none
def dg.cs (F:Nat):List (FuncId×(List AV→Hp→OA)):=[]
theorem dg.loops (F:Nat):LoopsOk tabs (mkOrc (dg.cs F)) dg.pn (dg.lh F) F [] 1 dg.code (fun tm H=>aresults tabs.ty H tm Try.f119.results.toList fun v=>some (v,H)) (fun _ _ _=>none) (fun tm H=>aresults tabs.ty H tm Try.f119.results.toList fun v=>some (v,H)):=by
 exact loops_none (by kernel_rfl)
theorem dg.eqX (F:Nat) (aa:Int) (H:Hp):aCode tabs (mkOrc (dg.cs F)) dg.pn (dg.lh F) F [] 1 dg.code (argTm [(.int .i64 aa)]) H (fun tm H=>aresults tabs.ty H tm Try.f119.results.toList fun v=>some (v,H)) (fun _ _ _=>none) (fun tm H=>aresults tabs.ty H tm Try.f119.results.toList fun v=>some (v,H)) = dg.twX F aa H:=by kernel_rfl
theorem dg.cs_ok (F:Nat):∀ p ∈ dg.cs F,∀ args H v H',p.2 args H = some (v,H')→Go.AE.T Try.prog p.1 args H v H':=by
 intro p hp
 exact absurd (show p ∈ [] from hp) List.not_mem_nil
theorem dg.ok:codeOk dg.pn Try.f119.ntmps dg.tb dg.code = true:=by kernel_rfl
theorem dg.T {F:Nat} {aa:Int} {H:Hp} {v:AV} {H':Hp} (h:dg.tw F aa H = some (v,H')):Go.AE.T Try.prog 119 [(.int .i64 aa)] H v H':=
 Go.AE.T.of (Y:=tabs) (C:=mkOrc (dg.cs F)) (PN:=dg.pn) (LH:=dg.lh F) (F:=F) (TB:=dg.tb) (fn:=Try.f119) (code:=dg.code) mixed tabs_ok (mkOrc_ok (dg.cs_ok F)) Try.func119 (by kernel_rfl) (by kernel_rfl) dg.ok (Nat.le_of_ble_eq_true (by kernel_rfl)) (dg.loops F) (Eq.trans (dg.eqX F aa H) h)
theorem dg.mk_T {F:Nat} {args:List AV} {H:Hp} {v:AV} {H':Hp} (h:dg.mk (dg.tw F) args H = some (v,H')):Go.AE.T Try.prog 119 args H v H':=by
 unfold dg.mk at h
 split at h
 ·exact dg.T h
 ·cases h
def cp.l13 (F:Nat) (eZ:Int→Hp→OA) :Nat→Sl→Int→Int→Hp→OA
 | 0,_,_,_,_=>none
 | hE + 1,fI,eB,dF,H6=>(bif (decide (dF < eB)) then ((Sl.idx fI dF 1).bind fun p11=>(Hp.ldI H6 .i64 p11.1 p11.2).bind fun n12=>(eZ n12 H6).bind fun r13=>((r13.1).asB).bind fun b14=>(bif b14 then (some ((.int .i64 dF),r13.2)) else (cp.l13 F eZ hE fI eB (IntKind.i64.wrap (dF + 1)) r13.2))) else (some ((.int .i64 (-1)),H6)))
termination_by structural n=>n
def cp.twX (F:Nat) (eZ:Int→Hp→OA) (aa:Sl) (H:Hp):OA:=cp.l13 F eZ F aa (aa.n:Int) 0 H
def cp.tw (F:Nat) (aa:Sl) (H:Hp):OA:=cp.twX F (dg.tw F) aa H
def cp.code:Go.Code:=(Try.f117.body).getD .skip
def cp.lh13 (F:Nat) (eZ:Int→Hp→OA) (ks:List Nat) (n:Nat) (tm:Tm) (H:Hp):OA:=match ks,tm 0,tm 1,tm 7,tm 8 with
 | [],(.sl fI),(.fn 119 []),(.int .i64 eB),(.int .i64 dF)=>cp.l13 F eZ n fI eB dF H
 | _,_,_,_,_=>none
theorem cp.lh13_inv {F:Nat} {eZ:Int→Hp→OA} {ks:List Nat} {n:Nat} {tm:Tm} {H:Hp} {r:AV×Hp} (h:cp.lh13 F eZ ks n tm H = some r):∃ fI:Sl,∃ eB:Int,∃ dF:Int,ks = []∧tm 0 = (.sl fI)∧tm 1 = (.fn 119 [])∧tm 7 = (.int .i64 eB)∧tm 8 = (.int .i64 dF)∧cp.l13 F eZ n fI eB dF H = some r:=by
 unfold cp.lh13 at h
 split at h
 ·exact ⟨_,_,_,rfl,by assumption,by assumption,by assumption,by assumption,h⟩
 ·cases h
def cp.lh (F:Nat) (eZ:Int→Hp→OA) (p:Nat) (ks:List Nat) (n:Nat) (tm:Tm) (H:Hp):OA:=bif p.beq 13 then cp.lh13 F eZ ks n tm H else (none)
def cp.pn:Nat→List Nat:=fun i=>(([]:List (Nat×List Nat)).lookup i).getD []
def cp.tb:Nat→List (List Nat):=fun i=>(([]:List (Nat×List (List Nat))).lookup i).getD []
def cp.mk (g:Sl→Hp→OA) (args:List AV) (H:Hp):OA:=match args with
 | [(.sl aa),(.fn 119 [])]=>g aa H
 | _=>none
def cp.cs (F:Nat) (eZ:Int→Hp→OA):List (FuncId×(List AV→Hp→OA)):=[(119,dg.mk eZ)]
theorem cp.loops (F:Nat) (eZ:Int→Hp→OA):LoopsOk tabs (mkOrc (cp.cs F eZ)) cp.pn (cp.lh F eZ) F [] 1 cp.code (fun tm H=>aresults tabs.ty H tm Try.f117.results.toList fun v=>some (v,H)) (fun _ _ _=>none) (fun tm H=>aresults tabs.ty H tm Try.f117.results.toList fun v=>some (v,H)):=by
 refine LoopsOk.seq ?_ ?_
 ·exact loops_none (by kernel_rfl)
 ·refine LoopsOk.seq ?_ ?_
  ·refine LoopsOk.seq ?_ ?_
   ·exact loops_none (by kernel_rfl)
   ·refine LoopsOk.block ?_
    refine LoopsOk.loop (fun tm H=>?_) (fun k13 tm H r h0=>?_) (fun k13=>?_)
    ·refine none_of fun r h0=>?_
     obtain ⟨fI,eB,dF,hks,e0,e1,e7,e8,h⟩:=cp.lh13_inv (show cp.lh13 F eZ [] 0 tm H = some r from h0)
     cases h
    ·obtain ⟨fI,eB,dF,hks,e0,e1,e7,e8,h⟩:=cp.lh13_inv (show cp.lh13 F eZ [] (k13 + 1) tm H = some r from h0)
     have q0:(Tm.put tm 0 (.sl fI)) = tm:=by exact Tm.put_same e0
     have q1:(Tm.put (Tm.put tm 0 (.sl fI)) 1 (.fn 119 [])) = tm:=by rw [q0]; exact Tm.put_same e1
     have q2:(Tm.put (Tm.put (Tm.put tm 0 (.sl fI)) 1 (.fn 119 [])) 7 (.int .i64 eB)) = tm:=by rw [q1]; exact Tm.put_same e7
     have q3:(Tm.put (Tm.put (Tm.put (Tm.put tm 0 (.sl fI)) 1 (.fn 119 [])) 7 (.int .i64 eB)) 8 (.int .i64 dF)) = tm:=by rw [q2]; exact Tm.put_same e8
     rw [← q3]
     exact Eq.trans (by kernel_rfl) h
    ·exact loops_none (by kernel_rfl)
  ·exact loops_none (by kernel_rfl)
theorem cp.eqX (F:Nat) (eZ:Int→Hp→OA) (aa:Sl) (H:Hp):aCode tabs (mkOrc (cp.cs F eZ)) cp.pn (cp.lh F eZ) F [] 1 cp.code (argTm [(.sl aa),(.fn 119 [])]) H (fun tm H=>aresults tabs.ty H tm Try.f117.results.toList fun v=>some (v,H)) (fun _ _ _=>none) (fun tm H=>aresults tabs.ty H tm Try.f117.results.toList fun v=>some (v,H)) = cp.twX F eZ aa H:=by kernel_rfl
theorem cp.cs_ok (F:Nat):∀ p ∈ cp.cs F (dg.tw F),∀ args H v H',p.2 args H = some (v,H')→Go.AE.T Try.prog p.1 args H v H':=by
 intro p hp
 simp only [cp.cs,List.mem_cons,List.not_mem_nil,or_false] at hp
 subst hp
 exact fun args H v H' h=>dg.mk_T h
theorem cp.ok:codeOk cp.pn Try.f117.ntmps cp.tb cp.code = true:=by kernel_rfl
theorem cp.T {F:Nat} {aa:Sl} {H:Hp} {v:AV} {H':Hp} (h:cp.tw F aa H = some (v,H')):Go.AE.T Try.prog 117 [(.sl aa),(.fn 119 [])] H v H':=
 Go.AE.T.of (Y:=tabs) (C:=mkOrc (cp.cs F (dg.tw F))) (PN:=cp.pn) (LH:=cp.lh F (dg.tw F)) (F:=F) (TB:=cp.tb) (fn:=Try.f117) (code:=cp.code) mixed tabs_ok (mkOrc_ok (cp.cs_ok F)) Try.func117 (by kernel_rfl) (by kernel_rfl) cp.ok (Nat.le_of_ble_eq_true (by kernel_rfl)) (cp.loops F (dg.tw F)) (Eq.trans (cp.eqX F (dg.tw F) aa H) h)
theorem cp.mk_T {F:Nat} {args:List AV} {H:Hp} {v:AV} {H':Hp} (h:cp.mk (cp.tw F) args H = some (v,H')):Go.AE.T Try.prog 117 args H v H':=by
 unfold cp.mk at h
 split at h
 ·exact cp.T h
 ·cases h
def bv.j2 (F:Nat) (gS:Sl→Hp→OA) (eZ:Int→Hp→OA) (uB:Sl) (nV:Int) (H31:Hp):OA:=(Sl.cut uB 1 nV (uB.n:Int)).bind fun s32=>(Hp.clr H31 [.int .i64 0] s32).bind fun H33=>(Sl.cut uB 1 0 nV).bind fun s34=>some ((.sl s34),H33)
def bv.j3 (F:Nat) (gS:Sl→Hp→OA) (eZ:Int→Hp→OA) (C61_:Sl→Int→Int→Hp→OA) (A_:Sl) (pG:Int) (pH:Int) (H49:Hp):OA:=C61_ A_ pG (IntKind.i64.wrap (pH + 1)) H49
def bv.l61 (F:Nat) (gS:Sl→Hp→OA) (eZ:Int→Hp→OA) :Nat→Sl→Int→Int→Hp→OA
 | 0,_,_,_,_=>none
 | nT + 1,cT,dO,jg,H9=>(bif (decide (jg < (cT.n:Int))) then ((Sl.idx cT jg 1).bind fun p35=>(Hp.ldI H9 .i64 p35.1 p35.2).bind fun n36=>(eZ n36 H9).bind fun r37=>((r37.1).asB).bind fun b38=>(bif (!b38) then ((Sl.idx cT dO 1).bind fun p39=>(Hp.st r37.2 p39.1 p39.2 (.int .i64 n36)).bind fun H40=>bv.j3 F gS eZ (bv.l61 F gS eZ nT) cT (IntKind.i64.wrap (dO + 1)) jg H40) else (bv.j3 F gS eZ (bv.l61 F gS eZ nT) cT dO jg r37.2))) else (bv.j2 F gS eZ cT dO H9))
termination_by structural n=>n
def bv.twX (F:Nat) (gS:Sl→Hp→OA) (eZ:Int→Hp→OA) (aa:Sl) (H:Hp):OA:=(gS aa H).bind fun r2=>((r2.1).asI .i64).bind fun n3=>(bif (n3 == (-1)) then (some ((.sl aa),r2.2)) else (bv.l61 F gS eZ F aa n3 (IntKind.i64.wrap (n3 + 1)) r2.2))
def bv.tw (F:Nat) (aa:Sl) (H:Hp):OA:=bv.twX F (cp.tw F) (dg.tw F) aa H
def bv.code:Go.Code:=(Try.f118.body).getD .skip
def bv.lh61 (F:Nat) (gS:Sl→Hp→OA) (eZ:Int→Hp→OA) (ks:List Nat) (n:Nat) (tm:Tm) (H:Hp):OA:=match ks,tm 0,tm 1,tm 5,tm 6 with
 | [],(.sl cT),(.fn 119 []),(.int .i64 dO),(.int .i64 jg)=>bv.l61 F gS eZ n cT dO jg H
 | _,_,_,_,_=>none
theorem bv.lh61_inv {F:Nat} {gS:Sl→Hp→OA} {eZ:Int→Hp→OA} {ks:List Nat} {n:Nat} {tm:Tm} {H:Hp} {r:AV×Hp} (h:bv.lh61 F gS eZ ks n tm H = some r):∃ cT:Sl,∃ dO:Int,∃ jg:Int,ks = []∧tm 0 = (.sl cT)∧tm 1 = (.fn 119 [])∧tm 5 = (.int .i64 dO)∧tm 6 = (.int .i64 jg)∧bv.l61 F gS eZ n cT dO jg H = some r:=by
 unfold bv.lh61 at h
 split at h
 ·exact ⟨_,_,_,rfl,by assumption,by assumption,by assumption,by assumption,h⟩
 ·cases h
def bv.lh (F:Nat) (gS:Sl→Hp→OA) (eZ:Int→Hp→OA) (p:Nat) (ks:List Nat) (n:Nat) (tm:Tm) (H:Hp):OA:=bif p.beq 61 then bv.lh61 F gS eZ ks n tm H else (none)
def bv.pn:Nat→List Nat:=fun i=>(([]:List (Nat×List Nat)).lookup i).getD []
def bv.tb:Nat→List (List Nat):=fun i=>(([]:List (Nat×List (List Nat))).lookup i).getD []
def bv.mk (g:Sl→Hp→OA) (args:List AV) (H:Hp):OA:=match args with
 | [(.sl aa),(.fn 119 [])]=>g aa H
 | _=>none
def bv.cs (F:Nat) (gS:Sl→Hp→OA) (eZ:Int→Hp→OA):List (FuncId×(List AV→Hp→OA)):=[(117,cp.mk gS),(119,dg.mk eZ)]
theorem bv.loops (F:Nat) (gS:Sl→Hp→OA) (eZ:Int→Hp→OA):LoopsOk tabs (mkOrc (bv.cs F gS eZ)) bv.pn (bv.lh F gS eZ) F [] 1 bv.code (fun tm H=>aresults tabs.ty H tm Try.f118.results.toList fun v=>some (v,H)) (fun _ _ _=>none) (fun tm H=>aresults tabs.ty H tm Try.f118.results.toList fun v=>some (v,H)):=by
 refine LoopsOk.seq ?_ ?_
 ·exact loops_none (by kernel_rfl)
 ·refine LoopsOk.seq ?_ ?_
  ·exact loops_none (by kernel_rfl)
  ·refine LoopsOk.seq ?_ ?_
   ·exact loops_none (by kernel_rfl)
   ·refine LoopsOk.seq ?_ ?_
    ·refine LoopsOk.seq ?_ ?_
     ·exact loops_none (by kernel_rfl)
     ·refine LoopsOk.block ?_
      refine LoopsOk.loop (fun tm H=>?_) (fun k61 tm H r h0=>?_) (fun k61=>?_)
      ·refine none_of fun r h0=>?_
       obtain ⟨cT,dO,jg,hks,e0,e1,e5,e6,h⟩:=bv.lh61_inv (show bv.lh61 F gS eZ [] 0 tm H = some r from h0)
       cases h
      ·obtain ⟨cT,dO,jg,hks,e0,e1,e5,e6,h⟩:=bv.lh61_inv (show bv.lh61 F gS eZ [] (k61 + 1) tm H = some r from h0)
       have q0:(Tm.put tm 0 (.sl cT)) = tm:=by exact Tm.put_same e0
       have q1:(Tm.put (Tm.put tm 0 (.sl cT)) 1 (.fn 119 [])) = tm:=by rw [q0]; exact Tm.put_same e1
       have q2:(Tm.put (Tm.put (Tm.put tm 0 (.sl cT)) 1 (.fn 119 [])) 5 (.int .i64 dO)) = tm:=by rw [q1]; exact Tm.put_same e5
       have q3:(Tm.put (Tm.put (Tm.put (Tm.put tm 0 (.sl cT)) 1 (.fn 119 [])) 5 (.int .i64 dO)) 6 (.int .i64 jg)) = tm:=by rw [q2]; exact Tm.put_same e6
       rw [← q3]
       exact Eq.trans (by kernel_rfl) h
      ·exact loops_none (by kernel_rfl)
    ·exact loops_none (by kernel_rfl)
theorem bv.eqX (F:Nat) (gS:Sl→Hp→OA) (eZ:Int→Hp→OA) (aa:Sl) (H:Hp):aCode tabs (mkOrc (bv.cs F gS eZ)) bv.pn (bv.lh F gS eZ) F [] 1 bv.code (argTm [(.sl aa),(.fn 119 [])]) H (fun tm H=>aresults tabs.ty H tm Try.f118.results.toList fun v=>some (v,H)) (fun _ _ _=>none) (fun tm H=>aresults tabs.ty H tm Try.f118.results.toList fun v=>some (v,H)) = bv.twX F gS eZ aa H:=by kernel_rfl
theorem bv.cs_ok (F:Nat):∀ p ∈ bv.cs F (cp.tw F) (dg.tw F),∀ args H v H',p.2 args H = some (v,H')→Go.AE.T Try.prog p.1 args H v H':=by
 intro p hp
 simp only [bv.cs,List.mem_cons,List.not_mem_nil,or_false] at hp
 rcases hp with rfl | rfl
 ·exact fun args H v H' h=>cp.mk_T h
 ·exact fun args H v H' h=>dg.mk_T h
theorem bv.ok:codeOk bv.pn Try.f118.ntmps bv.tb bv.code = true:=by kernel_rfl
theorem bv.T {F:Nat} {aa:Sl} {H:Hp} {v:AV} {H':Hp} (h:bv.tw F aa H = some (v,H')):Go.AE.T Try.prog 118 [(.sl aa),(.fn 119 [])] H v H':=
 Go.AE.T.of (Y:=tabs) (C:=mkOrc (bv.cs F (cp.tw F) (dg.tw F))) (PN:=bv.pn) (LH:=bv.lh F (cp.tw F) (dg.tw F)) (F:=F) (TB:=bv.tb) (fn:=Try.f118) (code:=bv.code) mixed tabs_ok (mkOrc_ok (bv.cs_ok F)) Try.func118 (by kernel_rfl) (by kernel_rfl) bv.ok (Nat.le_of_ble_eq_true (by kernel_rfl)) (bv.loops F (cp.tw F) (dg.tw F)) (Eq.trans (bv.eqX F (cp.tw F) (dg.tw F) aa H) h)
theorem bv.mk_T {F:Nat} {args:List AV} {H:Hp} {v:AV} {H':Hp} (h:bv.mk (bv.tw F) args H = some (v,H')):Go.AE.T Try.prog 118 args H v H':=by
 unfold bv.mk at h
 split at h
 ·exact bv.T h
 ·cases h
def ec.twX (F:Nat) (lU:Sl→Hp→OA) (aa:Sl) (H:Hp):OA:=(lU aa H).bind fun r2=>((r2.1).asSl).bind fun s3=>some ((.sl s3),r2.2)
def ec.tw (F:Nat) (aa:Sl) (H:Hp):OA:=ec.twX F (bv.tw F) aa H
def ec.code:Go.Code:=(Try.f83.body).getD .skip
def ec.lh (F:Nat) (lU:Sl→Hp→OA) (p:Nat) (ks:List Nat) (n:Nat) (tm:Tm) (H:Hp):OA:=none
def ec.pn:Nat→List Nat:=fun i=>(([]:List (Nat×List Nat)).lookup i).getD []
def ec.tb:Nat→List (List Nat):=fun i=>(([]:List (Nat×List (List Nat))).lookup i).getD []
def ec.mk (g:Sl→Hp→OA) (args:List AV) (H:Hp):OA:=match args with
 | [(.sl aa)]=>g aa H
 | _=>none
def ec.cs (F:Nat) (lU:Sl→Hp→OA):List (FuncId×(List AV→Hp→OA)):=[(118,bv.mk lU)]
theorem ec.loops (F:Nat) (lU:Sl→Hp→OA):LoopsOk tabs (mkOrc (ec.cs F lU)) ec.pn (ec.lh F lU) F [] 1 ec.code (fun tm H=>aresults tabs.ty H tm Try.f83.results.toList fun v=>some (v,H)) (fun _ _ _=>none) (fun tm H=>aresults tabs.ty H tm Try.f83.results.toList fun v=>some (v,H)):=by
 exact loops_none (by kernel_rfl)
theorem ec.eqX (F:Nat) (lU:Sl→Hp→OA) (aa:Sl) (H:Hp):aCode tabs (mkOrc (ec.cs F lU)) ec.pn (ec.lh F lU) F [] 1 ec.code (argTm [(.sl aa)]) H (fun tm H=>aresults tabs.ty H tm Try.f83.results.toList fun v=>some (v,H)) (fun _ _ _=>none) (fun tm H=>aresults tabs.ty H tm Try.f83.results.toList fun v=>some (v,H)) = ec.twX F lU aa H:=by kernel_rfl
theorem ec.cs_ok (F:Nat):∀ p ∈ ec.cs F (bv.tw F),∀ args H v H',p.2 args H = some (v,H')→Go.AE.T Try.prog p.1 args H v H':=by
 intro p hp
 simp only [ec.cs,List.mem_cons,List.not_mem_nil,or_false] at hp
 subst hp
 exact fun args H v H' h=>bv.mk_T h
theorem ec.ok:codeOk ec.pn Try.f83.ntmps ec.tb ec.code = true:=by kernel_rfl
theorem ec.T {F:Nat} {aa:Sl} {H:Hp} {v:AV} {H':Hp} (h:ec.tw F aa H = some (v,H')):Go.AE.T Try.prog 83 [(.sl aa)] H v H':=
 Go.AE.T.of (Y:=tabs) (C:=mkOrc (ec.cs F (bv.tw F))) (PN:=ec.pn) (LH:=ec.lh F (bv.tw F)) (F:=F) (TB:=ec.tb) (fn:=Try.f83) (code:=ec.code) mixed tabs_ok (mkOrc_ok (ec.cs_ok F)) Try.func83 (by kernel_rfl) (by kernel_rfl) ec.ok (Nat.le_of_ble_eq_true (by kernel_rfl)) (ec.loops F (bv.tw F)) (Eq.trans (ec.eqX F (bv.tw F) aa H) h)
theorem ec.mk_T {F:Nat} {args:List AV} {H:Hp} {v:AV} {H':Hp} (h:ec.mk (ec.tw F) args H = some (v,H')):Go.AE.T Try.prog 83 args H v H':=by
 unfold ec.mk at h
 split at h
 ·exact ec.T h
 ·cases h
def dP.twX (F:Nat) (lV:Int→Int→Sl→Hp→OA) (iq:Sl→Hp→OA) (lW:Sl→Hp→OA) (aa:Int) (ac:Int) (aj:Sl) (H:Hp):OA:=(Hp.new H [(.int .i64 aa),(.int .i64 ac),(.sl aj)]).bind fun H4=>(Hp.new H4 [.int .i64 0,.sl ⟨none,0,.ex 0⟩]).bind fun H5=>(Hp.ldI H5 .i64 H.length 0).bind fun n6=>(Hp.ldI H5 .i64 H.length (0 + 1)).bind fun n7=>(Hp.ldSl H5 H.length (0 + 2)).bind fun s8=>(lV n6 n7 s8 H5).bind fun r9=>((r9.1).asTup 2).bind fun l10=>(l10[0]?).bind fun v11=>((v11).asSl).bind fun s12=>(l10[1]?).bind fun v13=>((v13).asI .i64).bind fun n14=>(bif (n14 != 0) then ((Hp.st r9.2 H4.length 0 (.int .i64 0)).bind fun H15=>(Hp.st H15 H4.length (0 + 1) (.sl (⟨none,0,.ex 0⟩:Sl))).bind fun H16=>(Hp.ldI H16 .i64 H4.length 0).bind fun n17=>(Hp.ldSl H16 H4.length (0 + 1)).bind fun s18=>some ((.tup [(.agg [(.int .i64 n17),(.sl s18)]),(.int .i64 n14)]),H16)) else ((Hp.ldI r9.2 .i64 H.length 0).bind fun n19=>(iq s12 r9.2).bind fun r20=>((r20.1).asI .i64).bind fun n21=>(lW s12 r20.2).bind fun r22=>((r22.1).asSl).bind fun s23=>(Hp.st r22.2 H4.length 0 (.int .i64 (IntKind.i64.wrap (n19 - n21)))).bind fun H24=>(Hp.st H24 H4.length (0 + 1) (.sl s23)).bind fun H25=>(ifW (((((Hp.ldI H25 .i64 H.length 0).bind fun n26=>stbK (.int .i64 n19) H25 (.int .i64 n26) H25) = some ())∧(((Hp.ldI r22.2 .i64 H.length 0).bind fun n27=>stbK (.int .i64 n19) r22.2 (.int .i64 n27) r22.2) = some ())∧(((Hp.ldI r20.2 .i64 H.length 0).bind fun n28=>stbK (.int .i64 n19) r20.2 (.int .i64 n28) r20.2) = some ())∧(((Hp.ldI r9.2 .i64 H.length 0).bind fun n29=>stbK (.int .i64 n19) r9.2 (.int .i64 n29) r9.2) = some ())∧True)∧True) ((Hp.ldI H25 .i64 H4.length 0).bind fun n30=>(Hp.ldSl H25 H4.length (0 + 1)).bind fun s31=>some ((.tup [(.agg [(.int .i64 n30),(.sl s31)]),(.int .i64 0)]),H25)))))
def dP.tw (F:Nat) (aa:Int) (ac:Int) (aj:Sl) (H:Hp):OA:=dP.twX F (eb.tw F) (dw.tw F) (ec.tw F) aa ac aj H
def dP.code:Go.Code:=(Try.f41.body).getD .skip
def dP.lh (F:Nat) (lV:Int→Int→Sl→Hp→OA) (iq:Sl→Hp→OA) (lW:Sl→Hp→OA) (p:Nat) (ks:List Nat) (n:Nat) (tm:Tm) (H:Hp):OA:=none
def dP.pn:Nat→List Nat:=fun i=>(([(4,[3,6,8,1001])]:List (Nat×List Nat)).lookup i).getD []
def dP.tb:Nat→List (List Nat):=fun i=>(([(4,[[],[0],[],[2],[0,1,2,3],[],[2,3,5],[0,1,2,3,4,5,6],[0,1,2,3,4,5,6,7],[0,1,2,3,4,5,6,7,8]])]:List (Nat×List (List Nat))).lookup i).getD []
def dP.mk (g:Int→Int→Sl→Hp→OA) (args:List AV) (H:Hp):OA:=match args with
 | [(.agg [(.int .i64 aa),(.int .i64 ac),(.sl aj)])]=>g aa ac aj H
 | _=>none
def dP.cs (F:Nat) (lV:Int→Int→Sl→Hp→OA) (iq:Sl→Hp→OA) (lW:Sl→Hp→OA):List (FuncId×(List AV→Hp→OA)):=[(17,eb.mk lV),(73,dw.mk iq),(83,ec.mk lW)]
theorem dP.loops (F:Nat) (lV:Int→Int→Sl→Hp→OA) (iq:Sl→Hp→OA) (lW:Sl→Hp→OA):LoopsOk tabs (mkOrc (dP.cs F lV iq lW)) dP.pn (dP.lh F lV iq lW) F [] 1 dP.code (fun tm H=>aresults tabs.ty H tm Try.f41.results.toList fun v=>some (v,H)) (fun _ _ _=>none) (fun tm H=>aresults tabs.ty H tm Try.f41.results.toList fun v=>some (v,H)):=by
 exact loops_none (by kernel_rfl)
theorem dP.eqX (F:Nat) (lV:Int→Int→Sl→Hp→OA) (iq:Sl→Hp→OA) (lW:Sl→Hp→OA) (aa:Int) (ac:Int) (aj:Sl) (H:Hp):aCode tabs (mkOrc (dP.cs F lV iq lW)) dP.pn (dP.lh F lV iq lW) F [] 1 dP.code (argTm [(.agg [(.int .i64 aa),(.int .i64 ac),(.sl aj)])]) H (fun tm H=>aresults tabs.ty H tm Try.f41.results.toList fun v=>some (v,H)) (fun _ _ _=>none) (fun tm H=>aresults tabs.ty H tm Try.f41.results.toList fun v=>some (v,H)) = dP.twX F lV iq lW aa ac aj H:=by kernel_rfl
theorem dP.cs_ok (F:Nat):∀ p ∈ dP.cs F (eb.tw F) (dw.tw F) (ec.tw F),∀ args H v H',p.2 args H = some (v,H')→Go.AE.T Try.prog p.1 args H v H':=by
 intro p hp
 simp only [dP.cs,List.mem_cons,List.not_mem_nil,or_false] at hp
 rcases hp with rfl | rfl | rfl
 ·exact fun args H v H' h=>eb.mk_T h
 ·exact fun args H v H' h=>dw.mk_T h
 ·exact fun args H v H' h=>ec.mk_T h
theorem dP.ok:codeOk dP.pn Try.f41.ntmps dP.tb dP.code = true:=by kernel_rfl
theorem dP.T {F:Nat} {aa:Int} {ac:Int} {aj:Sl} {H:Hp} {v:AV} {H':Hp} (h:dP.tw F aa ac aj H = some (v,H')):Go.AE.T Try.prog 41 [(.agg [(.int .i64 aa),(.int .i64 ac),(.sl aj)])] H v H':=
 Go.AE.T.of (Y:=tabs) (C:=mkOrc (dP.cs F (eb.tw F) (dw.tw F) (ec.tw F))) (PN:=dP.pn) (LH:=dP.lh F (eb.tw F) (dw.tw F) (ec.tw F)) (F:=F) (TB:=dP.tb) (fn:=Try.f41) (code:=dP.code) mixed tabs_ok (mkOrc_ok (dP.cs_ok F)) Try.func41 (by kernel_rfl) (by kernel_rfl) dP.ok (Nat.le_of_ble_eq_true (by kernel_rfl)) (dP.loops F (eb.tw F) (dw.tw F) (ec.tw F)) (Eq.trans (dP.eqX F (eb.tw F) (dw.tw F) (ec.tw F) aa ac aj H) h)
theorem dP.mk_T {F:Nat} {args:List AV} {H:Hp} {v:AV} {H':Hp} (h:dP.mk (dP.tw F) args H = some (v,H')):Go.AE.T Try.prog 41 args H v H':=by
 unfold dP.mk at h
 split at h
 ·exact dP.T h
 ·cases h
def bR.l29 (F:Nat) :Nat→Sl→Sl→Int→Hp→OA
 | 0,_,_,_,_=>none
 | fa + 1,ct,eN,jh,H8=>(bif (decide (jh < (ct.n:Int))) then ((Sl.idx ct jh 1).bind fun p13=>(Hp.ldI H8 .i64 p13.1 p13.2).bind fun n14=>(Sl.idx eN jh 1).bind fun p15=>(Hp.ldI H8 .i64 p15.1 p15.2).bind fun n16=>(bif (n14 != n16) then (some ((.bool false),H8)) else (bR.l29 F fa ct eN (IntKind.i64.wrap (jh + 1)) H8))) else (some ((.bool true),H8)))
termination_by structural n=>n
def bR.twX (F:Nat) (aa:Sl) (ag:Sl) (H:Hp):OA:=(bif ((aa.n:Int) != (ag.n:Int)) then (some ((.bool false),H)) else (bR.l29 F F aa ag 0 H))
def bR.tw (F:Nat) (aa:Sl) (ag:Sl) (H:Hp):OA:=bR.twX F aa ag H
def bR.code:Go.Code:=(Try.f29.body).getD .skip
def bR.lh29 (F:Nat) (ks:List Nat) (n:Nat) (tm:Tm) (H:Hp):OA:=match ks,tm 0,tm 1,tm 5 with
 | [],(.sl ct),(.sl eN),(.int .i64 jh)=>bR.l29 F n ct eN jh H
 | _,_,_,_=>none
theorem bR.lh29_inv {F:Nat} {ks:List Nat} {n:Nat} {tm:Tm} {H:Hp} {r:AV×Hp} (h:bR.lh29 F ks n tm H = some r):∃ ct:Sl,∃ eN:Sl,∃ jh:Int,ks = []∧tm 0 = (.sl ct)∧tm 1 = (.sl eN)∧tm 5 = (.int .i64 jh)∧bR.l29 F n ct eN jh H = some r:=by
 unfold bR.lh29 at h
 split at h
 ·exact ⟨_,_,_,rfl,by assumption,by assumption,by assumption,h⟩
 ·cases h
def bR.lh (F:Nat) (p:Nat) (ks:List Nat) (n:Nat) (tm:Tm) (H:Hp):OA:=bif p.beq 29 then bR.lh29 F ks n tm H else (none)
def bR.pn:Nat→List Nat:=fun i=>(([(6,[])]:List (Nat×List Nat)).lookup i).getD []
def bR.tb:Nat→List (List Nat):=fun i=>(([(6,[[],[],[0,1],[0,1,2],[],[],[4,5],[4,5,6],[0,1,2,3,4,5,6,7]])]:List (Nat×List (List Nat))).lookup i).getD []
def bR.mk (g:Sl→Sl→Hp→OA) (args:List AV) (H:Hp):OA:=match args with
 | [(.sl aa),(.sl ag)]=>g aa ag H
 | _=>none
def bR.cs (F:Nat):List (FuncId×(List AV→Hp→OA)):=[]
theorem bR.loops (F:Nat):LoopsOk tabs (mkOrc (bR.cs F)) bR.pn (bR.lh F) F [] 1 bR.code (fun tm H=>aresults tabs.ty H tm Try.f29.results.toList fun v=>some (v,H)) (fun _ _ _=>none) (fun tm H=>aresults tabs.ty H tm Try.f29.results.toList fun v=>some (v,H)):=by
 refine LoopsOk.seq ?_ ?_
 ·exact loops_none (by kernel_rfl)
 ·refine LoopsOk.seq ?_ ?_
  ·exact loops_none (by kernel_rfl)
  ·refine LoopsOk.seq ?_ ?_
   ·refine LoopsOk.seq ?_ ?_
    ·exact loops_none (by kernel_rfl)
    ·refine LoopsOk.block ?_
     refine LoopsOk.loop (fun tm H=>?_) (fun k29 tm H r h0=>?_) (fun k29=>?_)
     ·refine none_of fun r h0=>?_
      obtain ⟨ct,eN,jh,hks,e0,e1,e5,h⟩:=bR.lh29_inv (show bR.lh29 F [] 0 tm H = some r from h0)
      cases h
     ·obtain ⟨ct,eN,jh,hks,e0,e1,e5,h⟩:=bR.lh29_inv (show bR.lh29 F [] (k29 + 1) tm H = some r from h0)
      have q0:(Tm.put tm 0 (.sl ct)) = tm:=by exact Tm.put_same e0
      have q1:(Tm.put (Tm.put tm 0 (.sl ct)) 1 (.sl eN)) = tm:=by rw [q0]; exact Tm.put_same e1
      have q2:(Tm.put (Tm.put (Tm.put tm 0 (.sl ct)) 1 (.sl eN)) 5 (.int .i64 jh)) = tm:=by rw [q1]; exact Tm.put_same e5
      rw [← q2]
      exact Eq.trans (by kernel_rfl) h
     ·exact loops_none (by kernel_rfl)
   ·exact loops_none (by kernel_rfl)
theorem bR.eqX (F:Nat) (aa:Sl) (ag:Sl) (H:Hp):aCode tabs (mkOrc (bR.cs F)) bR.pn (bR.lh F) F [] 1 bR.code (argTm [(.sl aa),(.sl ag)]) H (fun tm H=>aresults tabs.ty H tm Try.f29.results.toList fun v=>some (v,H)) (fun _ _ _=>none) (fun tm H=>aresults tabs.ty H tm Try.f29.results.toList fun v=>some (v,H)) = bR.twX F aa ag H:=by kernel_rfl
theorem bR.cs_ok (F:Nat):∀ p ∈ bR.cs F,∀ args H v H',p.2 args H = some (v,H')→Go.AE.T Try.prog p.1 args H v H':=by
 intro p hp
 exact absurd (show p ∈ [] from hp) List.not_mem_nil
theorem bR.ok:codeOk bR.pn Try.f29.ntmps bR.tb bR.code = true:=by kernel_rfl
theorem bR.T {F:Nat} {aa:Sl} {ag:Sl} {H:Hp} {v:AV} {H':Hp} (h:bR.tw F aa ag H = some (v,H')):Go.AE.T Try.prog 29 [(.sl aa),(.sl ag)] H v H':=
 Go.AE.T.of (Y:=tabs) (C:=mkOrc (bR.cs F)) (PN:=bR.pn) (LH:=bR.lh F) (F:=F) (TB:=bR.tb) (fn:=Try.f29) (code:=bR.code) mixed tabs_ok (mkOrc_ok (bR.cs_ok F)) Try.func29 (by kernel_rfl) (by kernel_rfl) bR.ok (Nat.le_of_ble_eq_true (by kernel_rfl)) (bR.loops F) (Eq.trans (bR.eqX F aa ag H) h)
theorem bR.mk_T {F:Nat} {args:List AV} {H:Hp} {v:AV} {H':Hp} (h:bR.mk (bR.tw F) args H = some (v,H')):Go.AE.T Try.prog 29 args H v H':=by
 unfold bR.mk at h
 split at h
 ·exact bR.T h
 ·cases h
def dL.twX (F:Nat) (iv:Sl→Sl→Hp→OA) (aa:Int) (ac:Sl) (ae:Int) (af:Sl) (H:Hp):OA:=(Hp.new H [(.int .i64 aa),(.sl ac)]).bind fun H5=>(Hp.new H5 [(.int .i64 ae),(.sl af)]).bind fun H6=>(Hp.ldI H6 .i64 H.length 0).bind fun n7=>(Hp.ldI H6 .i64 H5.length 0).bind fun n8=>(bif (n7 != n8) then (some ((.bool false),H6)) else ((Hp.ldSl H6 H.length 1).bind fun s9=>(Hp.ldSl H6 H5.length 1).bind fun s10=>(iv s9 s10 H6).bind fun r11=>((r11.1).asB).bind fun b12=>(bif (!b12) then (some ((.bool false),r11.2)) else (some ((.bool true),r11.2)))))
def dL.tw (F:Nat) (aa:Int) (ac:Sl) (ae:Int) (af:Sl) (H:Hp):OA:=dL.twX F (bR.tw F) aa ac ae af H
def dL.code:Go.Code:=(Try.f42.body).getD .skip
def dL.lh (F:Nat) (iv:Sl→Sl→Hp→OA) (p:Nat) (ks:List Nat) (n:Nat) (tm:Tm) (H:Hp):OA:=none
def dL.pn:Nat→List Nat:=fun i=>(([]:List (Nat×List Nat)).lookup i).getD []
def dL.tb:Nat→List (List Nat):=fun i=>(([]:List (Nat×List (List Nat))).lookup i).getD []
def dL.mk (g:Int→Sl→Int→Sl→Hp→OA) (args:List AV) (H:Hp):OA:=match args with
 | [(.agg [(.int .i64 aa),(.sl ac)]),(.agg [(.int .i64 ae),(.sl af)])]=>g aa ac ae af H
 | _=>none
def dL.cs (F:Nat) (iv:Sl→Sl→Hp→OA):List (FuncId×(List AV→Hp→OA)):=[(29,bR.mk iv)]
theorem dL.loops (F:Nat) (iv:Sl→Sl→Hp→OA):LoopsOk tabs (mkOrc (dL.cs F iv)) dL.pn (dL.lh F iv) F [] 1 dL.code (fun tm H=>aresults tabs.ty H tm Try.f42.results.toList fun v=>some (v,H)) (fun _ _ _=>none) (fun tm H=>aresults tabs.ty H tm Try.f42.results.toList fun v=>some (v,H)):=by
 exact loops_none (by kernel_rfl)
theorem dL.eqX (F:Nat) (iv:Sl→Sl→Hp→OA) (aa:Int) (ac:Sl) (ae:Int) (af:Sl) (H:Hp):aCode tabs (mkOrc (dL.cs F iv)) dL.pn (dL.lh F iv) F [] 1 dL.code (argTm [(.agg [(.int .i64 aa),(.sl ac)]),(.agg [(.int .i64 ae),(.sl af)])]) H (fun tm H=>aresults tabs.ty H tm Try.f42.results.toList fun v=>some (v,H)) (fun _ _ _=>none) (fun tm H=>aresults tabs.ty H tm Try.f42.results.toList fun v=>some (v,H)) = dL.twX F iv aa ac ae af H:=by kernel_rfl
theorem dL.cs_ok (F:Nat):∀ p ∈ dL.cs F (bR.tw F),∀ args H v H',p.2 args H = some (v,H')→Go.AE.T Try.prog p.1 args H v H':=by
 intro p hp
 simp only [dL.cs,List.mem_cons,List.not_mem_nil,or_false] at hp
 subst hp
 exact fun args H v H' h=>bR.mk_T h
theorem dL.ok:codeOk dL.pn Try.f42.ntmps dL.tb dL.code = true:=by kernel_rfl
theorem dL.T {F:Nat} {aa:Int} {ac:Sl} {ae:Int} {af:Sl} {H:Hp} {v:AV} {H':Hp} (h:dL.tw F aa ac ae af H = some (v,H')):Go.AE.T Try.prog 42 [(.agg [(.int .i64 aa),(.sl ac)]),(.agg [(.int .i64 ae),(.sl af)])] H v H':=
 Go.AE.T.of (Y:=tabs) (C:=mkOrc (dL.cs F (bR.tw F))) (PN:=dL.pn) (LH:=dL.lh F (bR.tw F)) (F:=F) (TB:=dL.tb) (fn:=Try.f42) (code:=dL.code) mixed tabs_ok (mkOrc_ok (dL.cs_ok F)) Try.func42 (by kernel_rfl) (by kernel_rfl) dL.ok (Nat.le_of_ble_eq_true (by kernel_rfl)) (dL.loops F (bR.tw F)) (Eq.trans (dL.eqX F (bR.tw F) aa ac ae af H) h)
theorem dL.mk_T {F:Nat} {args:List AV} {H:Hp} {v:AV} {H':Hp} (h:dL.mk (dL.tw F) args H = some (v,H')):Go.AE.T Try.prog 42 args H v H':=by
 unfold dL.mk at h
 split at h
 ·exact dL.T h
 ·cases h
def ed.twX (F:Nat) (iv:Sl→Sl→Hp→OA) (aa:Int) (ac:Int) (aj:Sl) (af:Int) (bu:Int) (lr:Sl) (H:Hp):OA:=(Hp.new H [(.int .i64 aa),(.int .i64 ac),(.sl aj)]).bind fun H7=>(Hp.new H7 [(.int .i64 af),(.int .i64 bu),(.sl lr)]).bind fun H8=>(Hp.ldI H8 .i64 H.length 0).bind fun n9=>(Hp.ldI H8 .i64 H7.length 0).bind fun n10=>(bif (n9 != n10) then (some ((.bool false),H8)) else ((Hp.ldI H8 .i64 H.length 1).bind fun n11=>(Hp.ldI H8 .i64 H7.length 1).bind fun n12=>(bif (n11 != n12) then (some ((.bool false),H8)) else ((Hp.ldSl H8 H.length 2).bind fun s13=>(Hp.ldSl H8 H7.length 2).bind fun s14=>(iv s13 s14 H8).bind fun r15=>((r15.1).asB).bind fun b16=>(bif (!b16) then (some ((.bool false),r15.2)) else (some ((.bool true),r15.2)))))))
def ed.tw (F:Nat) (aa:Int) (ac:Int) (aj:Sl) (af:Int) (bu:Int) (lr:Sl) (H:Hp):OA:=ed.twX F (bR.tw F) aa ac aj af bu lr H
def ed.code:Go.Code:=(Try.f27.body).getD .skip
def ed.lh (F:Nat) (iv:Sl→Sl→Hp→OA) (p:Nat) (ks:List Nat) (n:Nat) (tm:Tm) (H:Hp):OA:=none
def ed.pn:Nat→List Nat:=fun i=>(([]:List (Nat×List Nat)).lookup i).getD []
def ed.tb:Nat→List (List Nat):=fun i=>(([]:List (Nat×List (List Nat))).lookup i).getD []
def ed.mk (g:Int→Int→Sl→Int→Int→Sl→Hp→OA) (args:List AV) (H:Hp):OA:=match args with
 | [(.agg [(.int .i64 aa),(.int .i64 ac),(.sl aj)]),(.agg [(.int .i64 af),(.int .i64 bu),(.sl lr)])]=>g aa ac aj af bu lr H
 | _=>none
def ed.cs (F:Nat) (iv:Sl→Sl→Hp→OA):List (FuncId×(List AV→Hp→OA)):=[(29,bR.mk iv)]
theorem ed.loops (F:Nat) (iv:Sl→Sl→Hp→OA):LoopsOk tabs (mkOrc (ed.cs F iv)) ed.pn (ed.lh F iv) F [] 1 ed.code (fun tm H=>aresults tabs.ty H tm Try.f27.results.toList fun v=>some (v,H)) (fun _ _ _=>none) (fun tm H=>aresults tabs.ty H tm Try.f27.results.toList fun v=>some (v,H)):=by
 exact loops_none (by kernel_rfl)
theorem ed.eqX (F:Nat) (iv:Sl→Sl→Hp→OA) (aa:Int) (ac:Int) (aj:Sl) (af:Int) (bu:Int) (lr:Sl) (H:Hp):aCode tabs (mkOrc (ed.cs F iv)) ed.pn (ed.lh F iv) F [] 1 ed.code (argTm [(.agg [(.int .i64 aa),(.int .i64 ac),(.sl aj)]),(.agg [(.int .i64 af),(.int .i64 bu),(.sl lr)])]) H (fun tm H=>aresults tabs.ty H tm Try.f27.results.toList fun v=>some (v,H)) (fun _ _ _=>none) (fun tm H=>aresults tabs.ty H tm Try.f27.results.toList fun v=>some (v,H)) = ed.twX F iv aa ac aj af bu lr H:=by kernel_rfl
theorem ed.cs_ok (F:Nat):∀ p ∈ ed.cs F (bR.tw F),∀ args H v H',p.2 args H = some (v,H')→Go.AE.T Try.prog p.1 args H v H':=by
 intro p hp
 simp only [ed.cs,List.mem_cons,List.not_mem_nil,or_false] at hp
 subst hp
 exact fun args H v H' h=>bR.mk_T h
theorem ed.ok:codeOk ed.pn Try.f27.ntmps ed.tb ed.code = true:=by kernel_rfl
theorem ed.T {F:Nat} {aa:Int} {ac:Int} {aj:Sl} {af:Int} {bu:Int} {lr:Sl} {H:Hp} {v:AV} {H':Hp} (h:ed.tw F aa ac aj af bu lr H = some (v,H')):Go.AE.T Try.prog 27 [(.agg [(.int .i64 aa),(.int .i64 ac),(.sl aj)]),(.agg [(.int .i64 af),(.int .i64 bu),(.sl lr)])] H v H':=
 Go.AE.T.of (Y:=tabs) (C:=mkOrc (ed.cs F (bR.tw F))) (PN:=ed.pn) (LH:=ed.lh F (bR.tw F)) (F:=F) (TB:=ed.tb) (fn:=Try.f27) (code:=ed.code) mixed tabs_ok (mkOrc_ok (ed.cs_ok F)) Try.func27 (by kernel_rfl) (by kernel_rfl) ed.ok (Nat.le_of_ble_eq_true (by kernel_rfl)) (ed.loops F (bR.tw F)) (Eq.trans (ed.eqX F (bR.tw F) aa ac aj af bu lr H) h)
theorem ed.mk_T {F:Nat} {args:List AV} {H:Hp} {v:AV} {H':Hp} (h:ed.mk (ed.tw F) args H = some (v,H')):Go.AE.T Try.prog 27 args H v H':=by
 unfold ed.mk at h
 split at h
 ·exact ed.T h
 ·cases h
def bS.l13 (F:Nat) :Nat→Sl→Int→Int→Hp→OA
 | 0,_,_,_,_=>none
 | hE + 1,ct,eN,dO,H7=>(bif (decide (dO < (ct.n:Int))) then ((Sl.idx ct dO 1).bind fun p10=>(Hp.st H7 p10.1 p10.2 (.int .i64 eN)).bind fun H11=>bS.l13 F hE ct (IntKind.i64.wrap (eN + 1)) (IntKind.i64.wrap (dO + 1)) H11) else (some ((.int .i64 eN),H7)))
termination_by structural n=>n
def bS.twX (F:Nat) (aa:Sl) (ag:Int) (H:Hp):OA:=bS.l13 F F aa ag 0 H
def bS.tw (F:Nat) (aa:Sl) (ag:Int) (H:Hp):OA:=bS.twX F aa ag H
def bS.code:Go.Code:=(Try.f31.body).getD .skip
def bS.lh13 (F:Nat) (ks:List Nat) (n:Nat) (tm:Tm) (H:Hp):OA:=match ks,tm 0,tm 1,tm 5 with
 | [],(.sl ct),(.int .i64 eN),(.int .i64 dO)=>bS.l13 F n ct eN dO H
 | _,_,_,_=>none
theorem bS.lh13_inv {F:Nat} {ks:List Nat} {n:Nat} {tm:Tm} {H:Hp} {r:AV×Hp} (h:bS.lh13 F ks n tm H = some r):∃ ct:Sl,∃ eN:Int,∃ dO:Int,ks = []∧tm 0 = (.sl ct)∧tm 1 = (.int .i64 eN)∧tm 5 = (.int .i64 dO)∧bS.l13 F n ct eN dO H = some r:=by
 unfold bS.lh13 at h
 split at h
 ·exact ⟨_,_,_,rfl,by assumption,by assumption,by assumption,h⟩
 ·cases h
def bS.lh (F:Nat) (p:Nat) (ks:List Nat) (n:Nat) (tm:Tm) (H:Hp):OA:=bif p.beq 13 then bS.lh13 F ks n tm H else (none)
def bS.pn:Nat→List Nat:=fun i=>(([]:List (Nat×List Nat)).lookup i).getD []
def bS.tb:Nat→List (List Nat):=fun i=>(([]:List (Nat×List (List Nat))).lookup i).getD []
def bS.mk (g:Sl→Int→Hp→OA) (args:List AV) (H:Hp):OA:=match args with
 | [(.sl aa),(.int .i64 ag)]=>g aa ag H
 | _=>none
def bS.cs (F:Nat):List (FuncId×(List AV→Hp→OA)):=[]
theorem bS.loops (F:Nat):LoopsOk tabs (mkOrc (bS.cs F)) bS.pn (bS.lh F) F [] 1 bS.code (fun tm H=>aresults tabs.ty H tm Try.f31.results.toList fun v=>some (v,H)) (fun _ _ _=>none) (fun tm H=>aresults tabs.ty H tm Try.f31.results.toList fun v=>some (v,H)):=by
 refine LoopsOk.seq ?_ ?_
 ·exact loops_none (by kernel_rfl)
 ·refine LoopsOk.seq ?_ ?_
  ·refine LoopsOk.seq ?_ ?_
   ·exact loops_none (by kernel_rfl)
   ·refine LoopsOk.block ?_
    refine LoopsOk.loop (fun tm H=>?_) (fun k13 tm H r h0=>?_) (fun k13=>?_)
    ·refine none_of fun r h0=>?_
     obtain ⟨ct,eN,dO,hks,e0,e1,e5,h⟩:=bS.lh13_inv (show bS.lh13 F [] 0 tm H = some r from h0)
     cases h
    ·obtain ⟨ct,eN,dO,hks,e0,e1,e5,h⟩:=bS.lh13_inv (show bS.lh13 F [] (k13 + 1) tm H = some r from h0)
     have q0:(Tm.put tm 0 (.sl ct)) = tm:=by exact Tm.put_same e0
     have q1:(Tm.put (Tm.put tm 0 (.sl ct)) 1 (.int .i64 eN)) = tm:=by rw [q0]; exact Tm.put_same e1
     have q2:(Tm.put (Tm.put (Tm.put tm 0 (.sl ct)) 1 (.int .i64 eN)) 5 (.int .i64 dO)) = tm:=by rw [q1]; exact Tm.put_same e5
     rw [← q2]
     exact Eq.trans (by kernel_rfl) h
    ·exact loops_none (by kernel_rfl)
  ·exact loops_none (by kernel_rfl)
theorem bS.eqX (F:Nat) (aa:Sl) (ag:Int) (H:Hp):aCode tabs (mkOrc (bS.cs F)) bS.pn (bS.lh F) F [] 1 bS.code (argTm [(.sl aa),(.int .i64 ag)]) H (fun tm H=>aresults tabs.ty H tm Try.f31.results.toList fun v=>some (v,H)) (fun _ _ _=>none) (fun tm H=>aresults tabs.ty H tm Try.f31.results.toList fun v=>some (v,H)) = bS.twX F aa ag H:=by kernel_rfl
theorem bS.cs_ok (F:Nat):∀ p ∈ bS.cs F,∀ args H v H',p.2 args H = some (v,H')→Go.AE.T Try.prog p.1 args H v H':=by
 intro p hp
 exact absurd (show p ∈ [] from hp) List.not_mem_nil
theorem bS.ok:codeOk bS.pn Try.f31.ntmps bS.tb bS.code = true:=by kernel_rfl
theorem bS.T {F:Nat} {aa:Sl} {ag:Int} {H:Hp} {v:AV} {H':Hp} (h:bS.tw F aa ag H = some (v,H')):Go.AE.T Try.prog 31 [(.sl aa),(.int .i64 ag)] H v H':=
 Go.AE.T.of (Y:=tabs) (C:=mkOrc (bS.cs F)) (PN:=bS.pn) (LH:=bS.lh F) (F:=F) (TB:=bS.tb) (fn:=Try.f31) (code:=bS.code) mixed tabs_ok (mkOrc_ok (bS.cs_ok F)) Try.func31 (by kernel_rfl) (by kernel_rfl) bS.ok (Nat.le_of_ble_eq_true (by kernel_rfl)) (bS.loops F) (Eq.trans (bS.eqX F aa ag H) h)
theorem bS.mk_T {F:Nat} {args:List AV} {H:Hp} {v:AV} {H':Hp} (h:bS.mk (bS.tw F) args H = some (v,H')):Go.AE.T Try.prog 31 args H v H':=by
 unfold bS.mk at h
 split at h
 ·exact bS.T h
 ·cases h
def ee.twX (F:Nat) (iw:Sl→Int→Hp→OA) (aa:Int) (ac:Int) (aj:Sl) (af:Int) (H:Hp):OA:=(Hp.new H [(.int .i64 aa),(.int .i64 ac),(.sl aj)]).bind fun H5=>(Hp.ldSl H5 H.length 2).bind fun s6=>(iw s6 af H5).bind fun r7=>((r7.1).asI .i64).bind fun n8=>some ((.int .i64 n8),r7.2)
def ee.tw (F:Nat) (aa:Int) (ac:Int) (aj:Sl) (af:Int) (H:Hp):OA:=ee.twX F (bS.tw F) aa ac aj af H
def ee.code:Go.Code:=(Try.f30.body).getD .skip
def ee.lh (F:Nat) (iw:Sl→Int→Hp→OA) (p:Nat) (ks:List Nat) (n:Nat) (tm:Tm) (H:Hp):OA:=none
def ee.pn:Nat→List Nat:=fun i=>(([]:List (Nat×List Nat)).lookup i).getD []
def ee.tb:Nat→List (List Nat):=fun i=>(([]:List (Nat×List (List Nat))).lookup i).getD []
def ee.mk (g:Int→Int→Sl→Int→Hp→OA) (args:List AV) (H:Hp):OA:=match args with
 | [(.agg [(.int .i64 aa),(.int .i64 ac),(.sl aj)]),(.int .i64 af)]=>g aa ac aj af H
 | _=>none
def ee.cs (F:Nat) (iw:Sl→Int→Hp→OA):List (FuncId×(List AV→Hp→OA)):=[(31,bS.mk iw)]
theorem ee.loops (F:Nat) (iw:Sl→Int→Hp→OA):LoopsOk tabs (mkOrc (ee.cs F iw)) ee.pn (ee.lh F iw) F [] 1 ee.code (fun tm H=>aresults tabs.ty H tm Try.f30.results.toList fun v=>some (v,H)) (fun _ _ _=>none) (fun tm H=>aresults tabs.ty H tm Try.f30.results.toList fun v=>some (v,H)):=by
 exact loops_none (by kernel_rfl)
theorem ee.eqX (F:Nat) (iw:Sl→Int→Hp→OA) (aa:Int) (ac:Int) (aj:Sl) (af:Int) (H:Hp):aCode tabs (mkOrc (ee.cs F iw)) ee.pn (ee.lh F iw) F [] 1 ee.code (argTm [(.agg [(.int .i64 aa),(.int .i64 ac),(.sl aj)]),(.int .i64 af)]) H (fun tm H=>aresults tabs.ty H tm Try.f30.results.toList fun v=>some (v,H)) (fun _ _ _=>none) (fun tm H=>aresults tabs.ty H tm Try.f30.results.toList fun v=>some (v,H)) = ee.twX F iw aa ac aj af H:=by kernel_rfl
theorem ee.cs_ok (F:Nat):∀ p ∈ ee.cs F (bS.tw F),∀ args H v H',p.2 args H = some (v,H')→Go.AE.T Try.prog p.1 args H v H':=by
 intro p hp
 simp only [ee.cs,List.mem_cons,List.not_mem_nil,or_false] at hp
 subst hp
 exact fun args H v H' h=>bS.mk_T h
theorem ee.ok:codeOk ee.pn Try.f30.ntmps ee.tb ee.code = true:=by kernel_rfl
theorem ee.T {F:Nat} {aa:Int} {ac:Int} {aj:Sl} {af:Int} {H:Hp} {v:AV} {H':Hp} (h:ee.tw F aa ac aj af H = some (v,H')):Go.AE.T Try.prog 30 [(.agg [(.int .i64 aa),(.int .i64 ac),(.sl aj)]),(.int .i64 af)] H v H':=
 Go.AE.T.of (Y:=tabs) (C:=mkOrc (ee.cs F (bS.tw F))) (PN:=ee.pn) (LH:=ee.lh F (bS.tw F)) (F:=F) (TB:=ee.tb) (fn:=Try.f30) (code:=ee.code) mixed tabs_ok (mkOrc_ok (ee.cs_ok F)) Try.func30 (by kernel_rfl) (by kernel_rfl) ee.ok (Nat.le_of_ble_eq_true (by kernel_rfl)) (ee.loops F (bS.tw F)) (Eq.trans (ee.eqX F (bS.tw F) aa ac aj af H) h)
theorem ee.mk_T {F:Nat} {args:List AV} {H:Hp} {v:AV} {H':Hp} (h:ee.mk (ee.tw F) args H = some (v,H')):Go.AE.T Try.prog 30 args H v H':=by
 unfold ee.mk at h
 split at h
 ·exact ee.T h
 ·cases h
def el.twX (F:Nat) (iw:Sl→Int→Hp→OA) (aa:Int) (ac:Sl) (ae:Int) (H:Hp):OA:=(Hp.new H [(.int .i64 aa),(.sl ac)]).bind fun H4=>(Hp.ldSl H4 H.length 1).bind fun s5=>(iw s5 ae H4).bind fun r6=>((r6.1).asI .i64).bind fun n7=>some ((.int .i64 n7),r6.2)
def el.tw (F:Nat) (aa:Int) (ac:Sl) (ae:Int) (H:Hp):OA:=el.twX F (bS.tw F) aa ac ae H
def el.code:Go.Code:=(Try.f43.body).getD .skip
def el.lh (F:Nat) (iw:Sl→Int→Hp→OA) (p:Nat) (ks:List Nat) (n:Nat) (tm:Tm) (H:Hp):OA:=none
def el.pn:Nat→List Nat:=fun i=>(([]:List (Nat×List Nat)).lookup i).getD []
def el.tb:Nat→List (List Nat):=fun i=>(([]:List (Nat×List (List Nat))).lookup i).getD []
def el.mk (g:Int→Sl→Int→Hp→OA) (args:List AV) (H:Hp):OA:=match args with
 | [(.agg [(.int .i64 aa),(.sl ac)]),(.int .i64 ae)]=>g aa ac ae H
 | _=>none
def el.cs (F:Nat) (iw:Sl→Int→Hp→OA):List (FuncId×(List AV→Hp→OA)):=[(31,bS.mk iw)]
theorem el.loops (F:Nat) (iw:Sl→Int→Hp→OA):LoopsOk tabs (mkOrc (el.cs F iw)) el.pn (el.lh F iw) F [] 1 el.code (fun tm H=>aresults tabs.ty H tm Try.f43.results.toList fun v=>some (v,H)) (fun _ _ _=>none) (fun tm H=>aresults tabs.ty H tm Try.f43.results.toList fun v=>some (v,H)):=by
 exact loops_none (by kernel_rfl)
theorem el.eqX (F:Nat) (iw:Sl→Int→Hp→OA) (aa:Int) (ac:Sl) (ae:Int) (H:Hp):aCode tabs (mkOrc (el.cs F iw)) el.pn (el.lh F iw) F [] 1 el.code (argTm [(.agg [(.int .i64 aa),(.sl ac)]),(.int .i64 ae)]) H (fun tm H=>aresults tabs.ty H tm Try.f43.results.toList fun v=>some (v,H)) (fun _ _ _=>none) (fun tm H=>aresults tabs.ty H tm Try.f43.results.toList fun v=>some (v,H)) = el.twX F iw aa ac ae H:=by kernel_rfl
theorem el.cs_ok (F:Nat):∀ p ∈ el.cs F (bS.tw F),∀ args H v H',p.2 args H = some (v,H')→Go.AE.T Try.prog p.1 args H v H':=by
 intro p hp
 simp only [el.cs,List.mem_cons,List.not_mem_nil,or_false] at hp
 subst hp
 exact fun args H v H' h=>bS.mk_T h
theorem el.ok:codeOk el.pn Try.f43.ntmps el.tb el.code = true:=by kernel_rfl
theorem el.T {F:Nat} {aa:Int} {ac:Sl} {ae:Int} {H:Hp} {v:AV} {H':Hp} (h:el.tw F aa ac ae H = some (v,H')):Go.AE.T Try.prog 43 [(.agg [(.int .i64 aa),(.sl ac)]),(.int .i64 ae)] H v H':=
 Go.AE.T.of (Y:=tabs) (C:=mkOrc (el.cs F (bS.tw F))) (PN:=el.pn) (LH:=el.lh F (bS.tw F)) (F:=F) (TB:=el.tb) (fn:=Try.f43) (code:=el.code) mixed tabs_ok (mkOrc_ok (el.cs_ok F)) Try.func43 (by kernel_rfl) (by kernel_rfl) el.ok (Nat.le_of_ble_eq_true (by kernel_rfl)) (el.loops F (bS.tw F)) (Eq.trans (el.eqX F (bS.tw F) aa ac ae H) h)
theorem el.mk_T {F:Nat} {args:List AV} {H:Hp} {v:AV} {H':Hp} (h:el.mk (el.tw F) args H = some (v,H')):Go.AE.T Try.prog 43 args H v H':=by
 unfold el.mk at h
 split at h
 ·exact el.T h
 ·cases h
def cF.l13 (F:Nat) :Nat→Sl→Int→Int→Hp→OA
 | 0,_,_,_,_=>none
 | hE + 1,ct,eN,dO,H7=>(bif (decide (dO < (ct.n:Int))) then ((Sl.idx ct dO 1).bind fun p10=>(Hp.ldI H7 .i64 p10.1 p10.2).bind fun n11=>(bif (n11 != eN) then (some ((.int .i64 (-1)),H7)) else (cF.l13 F hE ct (IntKind.i64.wrap (eN + 1)) (IntKind.i64.wrap (dO + 1)) H7))) else (some ((.int .i64 eN),H7)))
termination_by structural n=>n
def cF.twX (F:Nat) (aa:Sl) (ag:Int) (H:Hp):OA:=cF.l13 F F aa ag 0 H
def cF.tw (F:Nat) (aa:Sl) (ag:Int) (H:Hp):OA:=cF.twX F aa ag H
def cF.code:Go.Code:=(Try.f32.body).getD .skip
def cF.lh13 (F:Nat) (ks:List Nat) (n:Nat) (tm:Tm) (H:Hp):OA:=match ks,tm 0,tm 1,tm 5 with
 | [],(.sl ct),(.int .i64 eN),(.int .i64 dO)=>cF.l13 F n ct eN dO H
 | _,_,_,_=>none
theorem cF.lh13_inv {F:Nat} {ks:List Nat} {n:Nat} {tm:Tm} {H:Hp} {r:AV×Hp} (h:cF.lh13 F ks n tm H = some r):∃ ct:Sl,∃ eN:Int,∃ dO:Int,ks = []∧tm 0 = (.sl ct)∧tm 1 = (.int .i64 eN)∧tm 5 = (.int .i64 dO)∧cF.l13 F n ct eN dO H = some r:=by
 unfold cF.lh13 at h
 split at h
 ·exact ⟨_,_,_,rfl,by assumption,by assumption,by assumption,h⟩
 ·cases h
def cF.lh (F:Nat) (p:Nat) (ks:List Nat) (n:Nat) (tm:Tm) (H:Hp):OA:=bif p.beq 13 then cF.lh13 F ks n tm H else (none)
def cF.pn:Nat→List Nat:=fun i=>(([]:List (Nat×List Nat)).lookup i).getD []
def cF.tb:Nat→List (List Nat):=fun i=>(([]:List (Nat×List (List Nat))).lookup i).getD []
def cF.mk (g:Sl→Int→Hp→OA) (args:List AV) (H:Hp):OA:=match args with
 | [(.sl aa),(.int .i64 ag)]=>g aa ag H
 | _=>none
def cF.cs (F:Nat):List (FuncId×(List AV→Hp→OA)):=[]
theorem cF.loops (F:Nat):LoopsOk tabs (mkOrc (cF.cs F)) cF.pn (cF.lh F) F [] 1 cF.code (fun tm H=>aresults tabs.ty H tm Try.f32.results.toList fun v=>some (v,H)) (fun _ _ _=>none) (fun tm H=>aresults tabs.ty H tm Try.f32.results.toList fun v=>some (v,H)):=by
 refine LoopsOk.seq ?_ ?_
 ·exact loops_none (by kernel_rfl)
 ·refine LoopsOk.seq ?_ ?_
  ·refine LoopsOk.seq ?_ ?_
   ·exact loops_none (by kernel_rfl)
   ·refine LoopsOk.block ?_
    refine LoopsOk.loop (fun tm H=>?_) (fun k13 tm H r h0=>?_) (fun k13=>?_)
    ·refine none_of fun r h0=>?_
     obtain ⟨ct,eN,dO,hks,e0,e1,e5,h⟩:=cF.lh13_inv (show cF.lh13 F [] 0 tm H = some r from h0)
     cases h
    ·obtain ⟨ct,eN,dO,hks,e0,e1,e5,h⟩:=cF.lh13_inv (show cF.lh13 F [] (k13 + 1) tm H = some r from h0)
     have q0:(Tm.put tm 0 (.sl ct)) = tm:=by exact Tm.put_same e0
     have q1:(Tm.put (Tm.put tm 0 (.sl ct)) 1 (.int .i64 eN)) = tm:=by rw [q0]; exact Tm.put_same e1
     have q2:(Tm.put (Tm.put (Tm.put tm 0 (.sl ct)) 1 (.int .i64 eN)) 5 (.int .i64 dO)) = tm:=by rw [q1]; exact Tm.put_same e5
     rw [← q2]
     exact Eq.trans (by kernel_rfl) h
    ·exact loops_none (by kernel_rfl)
  ·exact loops_none (by kernel_rfl)
theorem cF.eqX (F:Nat) (aa:Sl) (ag:Int) (H:Hp):aCode tabs (mkOrc (cF.cs F)) cF.pn (cF.lh F) F [] 1 cF.code (argTm [(.sl aa),(.int .i64 ag)]) H (fun tm H=>aresults tabs.ty H tm Try.f32.results.toList fun v=>some (v,H)) (fun _ _ _=>none) (fun tm H=>aresults tabs.ty H tm Try.f32.results.toList fun v=>some (v,H)) = cF.twX F aa ag H:=by kernel_rfl
theorem cF.cs_ok (F:Nat):∀ p ∈ cF.cs F,∀ args H v H',p.2 args H = some (v,H')→Go.AE.T Try.prog p.1 args H v H':=by
 intro p hp
 exact absurd (show p ∈ [] from hp) List.not_mem_nil
theorem cF.ok:codeOk cF.pn Try.f32.ntmps cF.tb cF.code = true:=by kernel_rfl
theorem cF.T {F:Nat} {aa:Sl} {ag:Int} {H:Hp} {v:AV} {H':Hp} (h:cF.tw F aa ag H = some (v,H')):Go.AE.T Try.prog 32 [(.sl aa),(.int .i64 ag)] H v H':=
 Go.AE.T.of (Y:=tabs) (C:=mkOrc (cF.cs F)) (PN:=cF.pn) (LH:=cF.lh F) (F:=F) (TB:=cF.tb) (fn:=Try.f32) (code:=cF.code) mixed tabs_ok (mkOrc_ok (cF.cs_ok F)) Try.func32 (by kernel_rfl) (by kernel_rfl) cF.ok (Nat.le_of_ble_eq_true (by kernel_rfl)) (cF.loops F) (Eq.trans (cF.eqX F aa ag H) h)
theorem cF.mk_T {F:Nat} {args:List AV} {H:Hp} {v:AV} {H':Hp} (h:cF.mk (cF.tw F) args H = some (v,H')):Go.AE.T Try.prog 32 args H v H':=by
 unfold cF.mk at h
 split at h
 ·exact cF.T h
 ·cases h
def dR.twX (F:Nat) (lX:Sl→Int→Hp→OA) (aa:Int) (ac:Sl) (ae:Int) (H:Hp):OA:=(Hp.new H [(.int .i64 aa),(.sl ac)]).bind fun H4=>(Hp.ldSl H4 H.length 1).bind fun s5=>(lX s5 ae H4).bind fun r6=>((r6.1).asI .i64).bind fun n7=>(bif (decide (n7 < 0)) then (some ((.int .i64 (-1)),r6.2)) else (some ((.int .i64 n7),r6.2)))
def dR.tw (F:Nat) (aa:Int) (ac:Sl) (ae:Int) (H:Hp):OA:=dR.twX F (cF.tw F) aa ac ae H
def dR.code:Go.Code:=(Try.f44.body).getD .skip
def dR.lh (F:Nat) (lX:Sl→Int→Hp→OA) (p:Nat) (ks:List Nat) (n:Nat) (tm:Tm) (H:Hp):OA:=none
def dR.pn:Nat→List Nat:=fun i=>(([]:List (Nat×List Nat)).lookup i).getD []
def dR.tb:Nat→List (List Nat):=fun i=>(([]:List (Nat×List (List Nat))).lookup i).getD []
def dR.mk (g:Int→Sl→Int→Hp→OA) (args:List AV) (H:Hp):OA:=match args with
 | [(.agg [(.int .i64 aa),(.sl ac)]),(.int .i64 ae)]=>g aa ac ae H
 | _=>none
def dR.cs (F:Nat) (lX:Sl→Int→Hp→OA):List (FuncId×(List AV→Hp→OA)):=[(32,cF.mk lX)]
theorem dR.loops (F:Nat) (lX:Sl→Int→Hp→OA):LoopsOk tabs (mkOrc (dR.cs F lX)) dR.pn (dR.lh F lX) F [] 1 dR.code (fun tm H=>aresults tabs.ty H tm Try.f44.results.toList fun v=>some (v,H)) (fun _ _ _=>none) (fun tm H=>aresults tabs.ty H tm Try.f44.results.toList fun v=>some (v,H)):=by
 exact loops_none (by kernel_rfl)
theorem dR.eqX (F:Nat) (lX:Sl→Int→Hp→OA) (aa:Int) (ac:Sl) (ae:Int) (H:Hp):aCode tabs (mkOrc (dR.cs F lX)) dR.pn (dR.lh F lX) F [] 1 dR.code (argTm [(.agg [(.int .i64 aa),(.sl ac)]),(.int .i64 ae)]) H (fun tm H=>aresults tabs.ty H tm Try.f44.results.toList fun v=>some (v,H)) (fun _ _ _=>none) (fun tm H=>aresults tabs.ty H tm Try.f44.results.toList fun v=>some (v,H)) = dR.twX F lX aa ac ae H:=by kernel_rfl
theorem dR.cs_ok (F:Nat):∀ p ∈ dR.cs F (cF.tw F),∀ args H v H',p.2 args H = some (v,H')→Go.AE.T Try.prog p.1 args H v H':=by
 intro p hp
 simp only [dR.cs,List.mem_cons,List.not_mem_nil,or_false] at hp
 subst hp
 exact fun args H v H' h=>cF.mk_T h
theorem dR.ok:codeOk dR.pn Try.f44.ntmps dR.tb dR.code = true:=by kernel_rfl
theorem dR.T {F:Nat} {aa:Int} {ac:Sl} {ae:Int} {H:Hp} {v:AV} {H':Hp} (h:dR.tw F aa ac ae H = some (v,H')):Go.AE.T Try.prog 44 [(.agg [(.int .i64 aa),(.sl ac)]),(.int .i64 ae)] H v H':=
 Go.AE.T.of (Y:=tabs) (C:=mkOrc (dR.cs F (cF.tw F))) (PN:=dR.pn) (LH:=dR.lh F (cF.tw F)) (F:=F) (TB:=dR.tb) (fn:=Try.f44) (code:=dR.code) mixed tabs_ok (mkOrc_ok (dR.cs_ok F)) Try.func44 (by kernel_rfl) (by kernel_rfl) dR.ok (Nat.le_of_ble_eq_true (by kernel_rfl)) (dR.loops F (cF.tw F)) (Eq.trans (dR.eqX F (cF.tw F) aa ac ae H) h)
theorem dR.mk_T {F:Nat} {args:List AV} {H:Hp} {v:AV} {H':Hp} (h:dR.mk (dR.tw F) args H = some (v,H')):Go.AE.T Try.prog 44 args H v H':=by
 unfold dR.mk at h
 split at h
 ·exact dR.T h
 ·cases h
def eO.twX (F:Nat) (lY:Int→Int→Sl→Int→Hp→OA) (kT:Int→Int→Sl→Hp→OA) (lZ:Int→Int→Sl→Hp→OA) (ls:Int→Int→Sl→Hp→OA) (lc:Int→Sl→Int→Sl→Hp→OA) (l_:Int→Int→Sl→Int→Int→Sl→Hp→OA) (ma:Int→Int→Sl→Int→Hp→OA) (mb:Int→Sl→Int→Hp→OA) (lu:Int→Sl→Int→Hp→OA) (aa:Int) (ac:Int) (aj:Sl) (H:Hp):OA:=(Hp.new H [(.int .i64 aa),(.int .i64 ac),(.sl aj)]).bind fun H4=>(Hp.ldI H4 .i64 H.length 0).bind fun n5=>(Hp.ldI H4 .i64 H.length (0 + 1)).bind fun n6=>(Hp.ldSl H4 H.length (0 + 2)).bind fun s7=>(lY n5 n6 s7 1048576 H4).bind fun r8=>((r8.1).asI .i64).bind fun n9=>(bif (decide (n9 < 0)) then (some ((.bool true),r8.2)) else ((Hp.ldI r8.2 .i64 H.length 0).bind fun n10=>(Hp.ldI r8.2 .i64 H.length (0 + 1)).bind fun n11=>(Hp.ldSl r8.2 H.length (0 + 2)).bind fun s12=>(kT n10 n11 s12 r8.2).bind fun r13=>((r13.1).asAgg 3).bind fun l14=>(l14[0]?).bind fun v15=>((v15).asI .i64).bind fun n16=>(l14[1]?).bind fun v17=>((v17).asI .i64).bind fun n18=>(l14[2]?).bind fun v19=>((v19).asSl).bind fun s20=>(lZ n16 n18 s20 r13.2).bind fun r21=>((r21.1).asTup 2).bind fun l22=>(l22[0]?).bind fun v23=>((v23).asAgg 2).bind fun l24=>(l24[0]?).bind fun v25=>((v25).asI .i64).bind fun n26=>(l24[1]?).bind fun v27=>((v27).asSl).bind fun s28=>(l22[1]?).bind fun v29=>((v29).asI .i64).bind fun n30=>(Hp.new r21.2 [.int .i64 0,.sl ⟨none,0,.ex 0⟩]).bind fun H31=>(Hp.st H31 r21.2.length 0 (.int .i64 n26)).bind fun H32=>(Hp.st H32 r21.2.length (0 + 1) (.sl s28)).bind fun H33=>(Hp.ldI H33 .i64 H.length 0).bind fun n34=>(Hp.ldI H33 .i64 H.length (0 + 1)).bind fun n35=>(Hp.ldSl H33 H.length (0 + 2)).bind fun s36=>(kT n34 n35 s36 H33).bind fun r37=>((r37.1).asAgg 3).bind fun l38=>(l38[0]?).bind fun v39=>((v39).asI .i64).bind fun n40=>(l38[1]?).bind fun v41=>((v41).asI .i64).bind fun n42=>(l38[2]?).bind fun v43=>((v43).asSl).bind fun s44=>(Hp.new r37.2 [.int .i64 0,.int .i64 0,.sl ⟨none,0,.ex 0⟩]).bind fun H45=>(Hp.st H45 r37.2.length 0 (.int .i64 n40)).bind fun H46=>(Hp.st H46 r37.2.length (0 + 1) (.int .i64 n42)).bind fun H47=>(Hp.st H47 r37.2.length (0 + 1 + 1) (.sl s44)).bind fun H48=>(Hp.ldI H48 .i64 r37.2.length 0).bind fun n49=>(Hp.ldI H48 .i64 r37.2.length (0 + 1)).bind fun n50=>(Hp.ldSl H48 r37.2.length (0 + 2)).bind fun s51=>(ls n49 n50 s51 H48).bind fun r52=>((r52.1).asTup 2).bind fun l53=>(l53[0]?).bind fun v54=>((v54).asAgg 2).bind fun l55=>(l55[0]?).bind fun v56=>((v56).asI .i64).bind fun n57=>(l55[1]?).bind fun v58=>((v58).asSl).bind fun s59=>(l53[1]?).bind fun v60=>((v60).asI .i64).bind fun n61=>(Hp.new r52.2 [.int .i64 0,.sl ⟨none,0,.ex 0⟩]).bind fun H62=>(Hp.st H62 r52.2.length 0 (.int .i64 n57)).bind fun H63=>(Hp.st H63 r52.2.length (0 + 1) (.sl s59)).bind fun H64=>(Hp.ldI H64 .i64 r52.2.length 0).bind fun n65=>(Hp.ldSl H64 r52.2.length (0 + 1)).bind fun s66=>(Hp.ldI H64 .i64 r21.2.length 0).bind fun n67=>(Hp.ldSl H64 r21.2.length (0 + 1)).bind fun s68=>(lc n65 s66 n67 s68 H64).bind fun r69=>((r69.1).asB).bind fun b70=>(bif (!b70) then (some ((.bool false),r69.2)) else ((bif (n61 != n30) then (some ((.bool false),r69.2)) else ((Hp.ldI r69.2 .i64 r37.2.length 0).bind fun n71=>(Hp.ldI r69.2 .i64 r37.2.length (0 + 1)).bind fun n72=>(Hp.ldSl r69.2 r37.2.length (0 + 2)).bind fun s73=>(Hp.ldI r69.2 .i64 H.length 0).bind fun n74=>(Hp.ldI r69.2 .i64 H.length (0 + 1)).bind fun n75=>(Hp.ldSl r69.2 H.length (0 + 2)).bind fun s76=>(kT n74 n75 s76 r69.2).bind fun r77=>((r77.1).asAgg 3).bind fun l78=>(l78[0]?).bind fun v79=>((v79).asI .i64).bind fun n80=>(l78[1]?).bind fun v81=>((v81).asI .i64).bind fun n82=>(l78[2]?).bind fun v83=>((v83).asSl).bind fun s84=>(if Cons r69.2 r77.2 then ((l_ n71 n72 s73 n80 n82 s84 r77.2).bind fun r85=>((r85.1).asB).bind fun b86=>(bif (!b86) then (some ((.bool false),r85.2)) else ((Hp.ldI r85.2 .i64 r37.2.length 0).bind fun n87=>(Hp.ldI r85.2 .i64 r37.2.length (0 + 1)).bind fun n88=>(Hp.ldSl r85.2 r37.2.length (0 + 2)).bind fun s89=>(ma n87 n88 s89 1 r85.2).bind fun r90=>((r90.1).asI .i64).bind fun n91=>(bif (decide (n91 < 0)) then (some ((.bool false),r90.2)) else ((Hp.ldI r90.2 .i64 r52.2.length 0).bind fun n92=>(Hp.ldSl r90.2 r52.2.length (0 + 1)).bind fun s93=>(Hp.ldI r90.2 .i64 r21.2.length 0).bind fun n94=>(Hp.ldSl r90.2 r21.2.length (0 + 1)).bind fun s95=>(lc n92 s93 n94 s95 r90.2).bind fun r96=>((r96.1).asB).bind fun b97=>(bif (!b97) then (some ((.bool false),r96.2)) else ((bif (n61 != n30) then (some ((.bool false),r96.2)) else ((Hp.ldI r96.2 .i64 r52.2.length 0).bind fun n98=>(Hp.ldSl r96.2 r52.2.length (0 + 1)).bind fun s99=>(mb n98 s99 1 r96.2).bind fun r100=>((r100.1).asI .i64).bind fun n101=>(Hp.ldI r100.2 .i64 r52.2.length 0).bind fun n102=>(Hp.ldSl r100.2 r52.2.length (0 + 1)).bind fun s103=>(lu n102 s103 1 r100.2).bind fun r104=>((r104.1).asI .i64).bind fun n105=>(bif (decide (n105 < 0)) then (some ((.bool false),r104.2)) else ((bif (n105 != n101) then (some ((.bool false),r104.2)) else ((Hp.ldI r104.2 .i64 H.length 0).bind fun n106=>(Hp.ldI r104.2 .i64 H.length (0 + 1)).bind fun n107=>(Hp.ldSl r104.2 H.length (0 + 2)).bind fun s108=>(kT n106 n107 s108 r104.2).bind fun r109=>((r109.1).asAgg 3).bind fun l110=>(l110[0]?).bind fun v111=>((v111).asI .i64).bind fun n112=>(l110[1]?).bind fun v113=>((v113).asI .i64).bind fun n114=>(l110[2]?).bind fun v115=>((v115).asSl).bind fun s116=>(ls n112 n114 s116 r109.2).bind fun r117=>((r117.1).asTup 2).bind fun l118=>(l118[0]?).bind fun v119=>((v119).asAgg 2).bind fun l120=>(l120[0]?).bind fun v121=>((v121).asI .i64).bind fun n122=>(l120[1]?).bind fun v123=>((v123).asSl).bind fun s124=>(l118[1]?).bind fun v125=>((v125).asI .i64).bind fun n126=>(Hp.new r117.2 [.int .i64 0,.sl ⟨none,0,.ex 0⟩]).bind fun H127=>(Hp.st H127 r117.2.length 0 (.int .i64 n122)).bind fun H128=>(Hp.st H128 r117.2.length (0 + 1) (.sl s124)).bind fun H129=>(Hp.ldI H129 .i64 r117.2.length 0).bind fun n130=>(Hp.ldSl H129 r117.2.length (0 + 1)).bind fun s131=>(Hp.ldI H129 .i64 r21.2.length 0).bind fun n132=>(Hp.ldSl H129 r21.2.length (0 + 1)).bind fun s133=>(lc n130 s131 n132 s133 H129).bind fun r134=>((r134.1).asB).bind fun b135=>(bif (!b135) then (some ((.bool false),r134.2)) else ((bif (n126 != n30) then (some ((.bool false),r134.2)) else ((Hp.ldI r134.2 .i64 r52.2.length 0).bind fun n136=>(Hp.ldSl r134.2 r52.2.length (0 + 1)).bind fun s137=>(lu n136 s137 1 r134.2).bind fun r138=>((r138.1).asI .i64).bind fun n139=>(bif (decide (n139 < 0)) then (some ((.bool false),r138.2)) else ((bif (n139 != n101) then (some ((.bool false),r138.2)) else (some ((.bool true),r138.2)))))))))))))))))))))) else none)))))))
def eO.tw (F:Nat) (aa:Int) (ac:Int) (aj:Sl) (H:Hp):OA:=eO.twX F (dM.tw F) (dB.tw F) (dU.tw F) (dP.tw F) (dL.tw F) (ed.tw F) (ee.tw F) (el.tw F) (dR.tw F) aa ac aj H
def eO.code:Go.Code:=(Try.f8.body).getD .skip
def eO.lh (F:Nat) (lY:Int→Int→Sl→Int→Hp→OA) (kT:Int→Int→Sl→Hp→OA) (lZ:Int→Int→Sl→Hp→OA) (ls:Int→Int→Sl→Hp→OA) (lc:Int→Sl→Int→Sl→Hp→OA) (l_:Int→Int→Sl→Int→Int→Sl→Hp→OA) (ma:Int→Int→Sl→Int→Hp→OA) (mb:Int→Sl→Int→Hp→OA) (lu:Int→Sl→Int→Hp→OA) (p:Nat) (ks:List Nat) (n:Nat) (tm:Tm) (H:Hp):OA:=none
def eO.pn:Nat→List Nat:=fun i=>(([(10,[3])]:List (Nat×List Nat)).lookup i).getD []
def eO.tb:Nat→List (List Nat):=fun i=>(([(10,[[],[],[1],[0,1,2],[0,1,2,3]])]:List (Nat×List (List Nat))).lookup i).getD []
def eO.mk (g:Int→Int→Sl→Hp→OA) (args:List AV) (H:Hp):OA:=match args with
 | [(.agg [(.int .i64 aa),(.int .i64 ac),(.sl aj)])]=>g aa ac aj H
 | _=>none
def eO.cs (F:Nat) (lY:Int→Int→Sl→Int→Hp→OA) (kT:Int→Int→Sl→Hp→OA) (lZ:Int→Int→Sl→Hp→OA) (ls:Int→Int→Sl→Hp→OA) (lc:Int→Sl→Int→Sl→Hp→OA) (l_:Int→Int→Sl→Int→Int→Sl→Hp→OA) (ma:Int→Int→Sl→Int→Hp→OA) (mb:Int→Sl→Int→Hp→OA) (lu:Int→Sl→Int→Hp→OA):List (FuncId×(List AV→Hp→OA)):=[(23,dM.mk lY),(25,dB.mk kT),(40,dU.mk lZ),(41,dP.mk ls),(42,dL.mk lc),(27,ed.mk l_),(30,ee.mk ma),(43,el.mk mb),(44,dR.mk lu)]
theorem eO.loops (F:Nat) (lY:Int→Int→Sl→Int→Hp→OA) (kT:Int→Int→Sl→Hp→OA) (lZ:Int→Int→Sl→Hp→OA) (ls:Int→Int→Sl→Hp→OA) (lc:Int→Sl→Int→Sl→Hp→OA) (l_:Int→Int→Sl→Int→Int→Sl→Hp→OA) (ma:Int→Int→Sl→Int→Hp→OA) (mb:Int→Sl→Int→Hp→OA) (lu:Int→Sl→Int→Hp→OA):LoopsOk tabs (mkOrc (eO.cs F lY kT lZ ls lc l_ ma mb lu)) eO.pn (eO.lh F lY kT lZ ls lc l_ ma mb lu) F [] 1 eO.code (fun tm H=>aresults tabs.ty H tm Try.f8.results.toList fun v=>some (v,H)) (fun _ _ _=>none) (fun tm H=>aresults tabs.ty H tm Try.f8.results.toList fun v=>some (v,H)):=by
 exact loops_none (by kernel_rfl)
theorem eO.eqX (F:Nat) (lY:Int→Int→Sl→Int→Hp→OA) (kT:Int→Int→Sl→Hp→OA) (lZ:Int→Int→Sl→Hp→OA) (ls:Int→Int→Sl→Hp→OA) (lc:Int→Sl→Int→Sl→Hp→OA) (l_:Int→Int→Sl→Int→Int→Sl→Hp→OA) (ma:Int→Int→Sl→Int→Hp→OA) (mb:Int→Sl→Int→Hp→OA) (lu:Int→Sl→Int→Hp→OA) (aa:Int) (ac:Int) (aj:Sl) (H:Hp):aCode tabs (mkOrc (eO.cs F lY kT lZ ls lc l_ ma mb lu)) eO.pn (eO.lh F lY kT lZ ls lc l_ ma mb lu) F [] 1 eO.code (argTm [(.agg [(.int .i64 aa),(.int .i64 ac),(.sl aj)])]) H (fun tm H=>aresults tabs.ty H tm Try.f8.results.toList fun v=>some (v,H)) (fun _ _ _=>none) (fun tm H=>aresults tabs.ty H tm Try.f8.results.toList fun v=>some (v,H)) = eO.twX F lY kT lZ ls lc l_ ma mb lu aa ac aj H:=by kernel_rfl
theorem eO.cs_ok (F:Nat):∀ p ∈ eO.cs F (dM.tw F) (dB.tw F) (dU.tw F) (dP.tw F) (dL.tw F) (ed.tw F) (ee.tw F) (el.tw F) (dR.tw F),∀ args H v H',p.2 args H = some (v,H')→Go.AE.T Try.prog p.1 args H v H':=by
 intro p hp
 simp only [eO.cs,List.mem_cons,List.not_mem_nil,or_false] at hp
 rcases hp with rfl | rfl | rfl | rfl | rfl | rfl | rfl | rfl | rfl
 ·exact fun args H v H' h=>dM.mk_T h
 ·exact fun args H v H' h=>dB.mk_T h
 ·exact fun args H v H' h=>dU.mk_T h
 ·exact fun args H v H' h=>dP.mk_T h
 ·exact fun args H v H' h=>dL.mk_T h
 ·exact fun args H v H' h=>ed.mk_T h
 ·exact fun args H v H' h=>ee.mk_T h
 ·exact fun args H v H' h=>el.mk_T h
 ·exact fun args H v H' h=>dR.mk_T h
theorem eO.ok:codeOk eO.pn Try.f8.ntmps eO.tb eO.code = true:=by kernel_rfl
theorem eO.T {F:Nat} {aa:Int} {ac:Int} {aj:Sl} {H:Hp} {v:AV} {H':Hp} (h:eO.tw F aa ac aj H = some (v,H')):Go.AE.T Try.prog 8 [(.agg [(.int .i64 aa),(.int .i64 ac),(.sl aj)])] H v H':=
 Go.AE.T.of (Y:=tabs) (C:=mkOrc (eO.cs F (dM.tw F) (dB.tw F) (dU.tw F) (dP.tw F) (dL.tw F) (ed.tw F) (ee.tw F) (el.tw F) (dR.tw F))) (PN:=eO.pn) (LH:=eO.lh F (dM.tw F) (dB.tw F) (dU.tw F) (dP.tw F) (dL.tw F) (ed.tw F) (ee.tw F) (el.tw F) (dR.tw F)) (F:=F) (TB:=eO.tb) (fn:=Try.f8) (code:=eO.code) mixed tabs_ok (mkOrc_ok (eO.cs_ok F)) Try.func8 (by kernel_rfl) (by kernel_rfl) eO.ok (Nat.le_of_ble_eq_true (by kernel_rfl)) (eO.loops F (dM.tw F) (dB.tw F) (dU.tw F) (dP.tw F) (dL.tw F) (ed.tw F) (ee.tw F) (el.tw F) (dR.tw F)) (Eq.trans (eO.eqX F (dM.tw F) (dB.tw F) (dU.tw F) (dP.tw F) (dL.tw F) (ed.tw F) (ee.tw F) (el.tw F) (dR.tw F) aa ac aj H) h)
theorem eO.mk_T {F:Nat} {args:List AV} {H:Hp} {v:AV} {H':Hp} (h:eO.mk (eO.tw F) args H = some (v,H')):Go.AE.T Try.prog 8 args H v H':=by
 unfold eO.mk at h
 split at h
 ·exact eO.T h
 ·cases h
end
end Go.Proofs.Ytnkgeongfneafaa.AE
