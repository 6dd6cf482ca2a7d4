import Derived.Test.YtppbogklbhfboaaGreatT1
import Derived.Test.YtppbogklbhfboaaGreatTab1
import Derived.Test.YtppbogklbhfboaaGreatE2
set_option linter.unusedVariables false
set_option linter.unusedSimpArgs false
namespace Go.Proofs.YtppbogklbhfboaaGreat.AE
open Go Go.AE Go.Proofs Go.RowKit Go.Maps IntKind
variable (F:Nat)
set_option linter.unusedVariables false
set_option maxHeartbeats 4000000
set_option maxRecDepth 100000
noncomputable section
theorem cS.k:Ok Tryz.prog 80 (mk27 (cS.tw F)):=by
 intro args H v H' h
 unfold mk27 at h
 split at h
 ·exact okT (TB:=bf) Tryz.func80 (aR (eF.k F) (aR (iB.k F) cD)) (cS.loops F (eF.tw F) (iB.tw F)) ((cS.eqX F (eF.tw F) (iB.tw F) _ H).trans h) (by kernel_rfl)
 ·cases h
def jV.twX (F:Nat) (Az:am7) (aa:Sl) (H:Hp):OA:=(Az aa H).bind λr2=>((r2.1).asSl).bind λs3=>some ((.sl s3),r2.2)
def jV.tw:=jV.twX F (cS.tw F)
def jV.cs (F:Nat) (Az:am7):Cs:=[(80,mk27 Az)]
theorem jV.eqX (Az:am7) (aa:Sl) (H:Hp):EX (bl (jV.cs F Az)) bf lh0 F Tryz.f62 [(.sl aa)] H=jV.twX F Az aa H:=by kernel_rfl
theorem jV.k:Ok Tryz.prog 62 (mk3 (jV.tw F)):=by
 intro args H v H' h
 unfold mk3 at h
 split at h
 ·exact okT (TB:=bf) Tryz.func62 (aR (cS.k F) cD) ae.no ((jV.eqX F (cS.tw F) _ H).trans h) (by kernel_rfl)
 ·cases h
def iU.twX (F:Nat) (AA:anc) (pL:am7) (AB:am7) (aa:Int) (ac:Int) (aZ:Sl) (H:Hp):OA:=(Hp.new H [(.int .i64 aa),(.int .i64 ac),(.sl aZ)]).bind λH4=>(Hp.new H4 [.int .i64 0,.sl ⟨none,0,.ex 0⟩]).bind λH5=>(Hp.ldI H5 .i64 H.length 0).bind λn6=>(Hp.ldI H5 .i64 H.length (0+1)).bind λn7=>(Hp.ldSl H5 H.length (0+2)).bind λs8=>(AA n6 n7 s8 H5).bind λr9=>((r9.1).asTup 2).bind λl10=>(l10[0]?).bind λv11=>((v11).asSl).bind λs12=>(l10[1]?).bind λv13=>((v13).asI .i64).bind λn14=>(bif (n14 != 0) then ((Hp.st r9.2 H4.length 0 (.int .i64 0)).bind λH15=>(Hp.st H15 H4.length (0+1) (.sl (⟨none,0,.ex 0⟩:Sl))).bind λH16=>(Hp.ldI H16 .i64 H4.length 0).bind λn17=>(Hp.ldSl H16 H4.length (0+1)).bind λs18=>some ((.tup [(.agg [(.int .i64 n17),(.sl s18)]),(.int .i64 n14)]),H16)) else ((Hp.ldI r9.2 .i64 H.length 0).bind λn19=>(pL s12 r9.2).bind λr20=>((r20.1).asI .i64).bind λn21=>(AB s12 r20.2).bind λr22=>((r22.1).asSl).bind λs23=>(Hp.st r22.2 H4.length 0 (.int .i64 (wrap .i64 (n19 - n21)))).bind λH24=>(Hp.st H24 H4.length (0+1) (.sl s23)).bind λH25=>(ifW (((((Hp.ldI H25 .i64 H.length 0).bind λn26=>uX (.int .i64 n19) H25 (.int .i64 n26) H25)=some ())/\(((Hp.ldI r22.2 .i64 H.length 0).bind λn27=>uX (.int .i64 n19) r22.2 (.int .i64 n27) r22.2)=some ())/\(((Hp.ldI r20.2 .i64 H.length 0).bind λn28=>uX (.int .i64 n19) r20.2 (.int .i64 n28) r20.2)=some ())/\(((Hp.ldI r9.2 .i64 H.length 0).bind λn29=>uX (.int .i64 n19) r9.2 (.int .i64 n29) r9.2)=some ())/\True)/\True) ((Hp.ldI H25 .i64 H4.length 0).bind λn30=>(Hp.ldSl H25 H4.length (0+1)).bind λs31=>some ((.tup [(.agg [(.int .i64 n30),(.sl s31)]),(.int .i64 0)]),H25)))))
def iU.tw:=iU.twX F (jU.tw F) (jB.tw F) (jV.tw F)
def iU.pn:Nat->List Nat:=dM [(4,[3,6,8,1001])]
def iU.tb:Nat->List (List Nat):=dM [(4,[[],[0],[],[2],[0,1,2,3],[],[2,3,5],[0,1,2,3,4,5,6],[0,1,2,3,4,5,6,7],[0,1,2,3,4,5,6,7,8]])]
def iU.cs (F:Nat) (AA:anc) (pL:am7) (AB:am7):Cs:=[(61,mk10 AA),(27,mk3 pL),(62,mk3 AB)]
theorem iU.eqX (AA:anc) (pL:am7) (AB:am7) (aa:Int) (ac:Int) (aZ:Sl) (H:Hp):EX (bl (iU.cs F AA pL AB)) iU.pn lh0 F Tryz.f36 [(.agg [(.int .i64 aa),(.int .i64 ac),(.sl aZ)])] H=iU.twX F AA pL AB aa ac aZ H:=by kernel_rfl
theorem iU.k:Ok Tryz.prog 36 (mk10 (iU.tw F)):=by
 intro args H v H' h
 unfold mk10 at h
 split at h
 ·exact okT (TB:=iU.tb) Tryz.func36 (aR (jU.k F) (aR (jB.k F) (aR (jV.k F) cD))) ae.no ((iU.eqX F (jU.tw F) (jB.tw F) (jV.tw F) _ _ _ H).trans h) (by kernel_rfl)
 ·cases h
def iC.twX (F:Nat) (AC:am8) (AD:am8) (AF:anc) (AG:anc) (aa:Sl) (ac:Int) (H:Hp):OA:=(Hp.new H [(.sl aa),(.int .i64 ac)]).bind λH3=>(Hp.new H3 [.int .i64 0,.sl ⟨none,0,.ex 0⟩]).bind λH4=>(Hp.ldSl H4 H.length 0).bind λs5=>(Hp.ldI H4 .i64 H.length (0+1)).bind λn6=>(AC s5 n6 H4).bind λr7=>((r7.1).asI .i64).bind λn8=>(bif (n8 != 0) then ((Hp.st r7.2 H3.length 0 (.int .i64 0)).bind λH9=>(Hp.st H9 H3.length (0+1) (.sl (⟨none,0,.ex 0⟩:Sl))).bind λH10=>(Hp.ldI H10 .i64 H3.length 0).bind λn11=>(Hp.ldSl H10 H3.length (0+1)).bind λs12=>some ((.tup [(.agg [(.int .i64 n11),(.sl s12)]),(.int .i64 n8)]),H10)) else ((Hp.ldSl r7.2 H.length 0).bind λs13=>(Hp.ldI r7.2 .i64 H.length (0+1)).bind λn14=>(AD s13 n14 r7.2).bind λr15=>((r15.1).asAgg 3).bind λl16=>(l16[0]?).bind λv17=>((v17).asI .i64).bind λn18=>(l16[1]?).bind λv19=>((v19).asI .i64).bind λn20=>(l16[2]?).bind λv21=>((v21).asSl).bind λs22=>(AF n18 n20 s22 r15.2).bind λr23=>((r23.1).asAgg 3).bind λl24=>(l24[0]?).bind λv25=>((v25).asI .i64).bind λn26=>(l24[1]?).bind λv27=>((v27).asI .i64).bind λn28=>(l24[2]?).bind λv29=>((v29).asSl).bind λs30=>(Hp.new r23.2 [.int .i64 0,.int .i64 0,.sl ⟨none,0,.ex 0⟩]).bind λH31=>(Hp.st H31 r23.2.length 0 (.int .i64 n26)).bind λH32=>(Hp.st H32 r23.2.length (0+1) (.int .i64 n28)).bind λH33=>(Hp.st H33 r23.2.length (0+1+1) (.sl s30)).bind λH34=>(Hp.ldI H34 .i64 r23.2.length 0).bind λn35=>(Hp.ldI H34 .i64 r23.2.length 1).bind λn36=>(Hp.ldSl H34 r23.2.length 2).bind λs37=>(Hp.ldI H34 .i64 r23.2.length 1).bind λn38=>(Sl.cut s37 1 0 (wrap .i64 ((wrap .i64 (n35 - 1)) * n38))).bind λs39=>(AG (wrap .i64 (n35 - 1)) n36 s39 H34).bind λr40=>((r40.1).asTup 2).bind λl41=>(l41[0]?).bind λv42=>((v42).asAgg 2).bind λl43=>(l43[0]?).bind λv44=>((v44).asI .i64).bind λn45=>(l43[1]?).bind λv46=>((v46).asSl).bind λs47=>(l41[1]?).bind λv48=>((v48).asI .i64).bind λn49=>(Hp.st r40.2 H3.length 0 (.int .i64 n45)).bind λH50=>(Hp.st H50 H3.length (0+1) (.sl s47)).bind λH51=>(Hp.ldI H51 .i64 H3.length 0).bind λn52=>(Hp.ldSl H51 H3.length (0+1)).bind λs53=>some ((.tup [(.agg [(.int .i64 n52),(.sl s53)]),(.int .i64 n49)]),H51)))
def iC.tw:=iC.twX F (jZ.tw F) (eB.tw F) (bZ.tw F) (iU.tw F)
def iC.pn:Nat->List Nat:=dM [(6,[11,14])]
def iC.tb:Nat->List (List Nat):=dM [(6,[[],[],[1],[],[3],[],[],[6],[5,6,7],[3,4,5,6,7,8],[0,1,2,3,4,5,6,7,8,9],[0,1,2,3,4,5,6,7,8,9,10],[0,1,2,3,4,5,6,7,8,9,10,11],[0,1,2,3,4,5,6,7,8,9,10,11],[0,1,2,3,4,5,6,7,8,9,10,11,12,13],[0,1,2,3,4,5,6,7,8,9,10,11,12,13,14]])]
def iC.cs (F:Nat) (AC:am8) (AD:am8) (AF:anc) (AG:anc):Cs:=[(34,mk4 AC),(25,mk4 AD),(35,mk10 AF),(36,mk10 AG)]
theorem iC.eqX (AC:am8) (AD:am8) (AF:anc) (AG:anc) (aa:Sl) (ac:Int) (H:Hp):EX (bl (iC.cs F AC AD AF AG)) iC.pn lh0 F Tryz.f11 [(.agg [(.sl aa),(.int .i64 ac)])] H=iC.twX F AC AD AF AG aa ac H:=by kernel_rfl
theorem iC.k:Ok Tryz.prog 11 (mk4 (iC.tw F)):=by
 intro args H v H' h
 unfold mk4 at h
 split at h
 ·exact okT (TB:=iC.tb) Tryz.func11 (aR (jZ.k F) (aR (eB.k F) (aR (bZ.k F) (aR (iU.k F) cD)))) ae.no ((iC.eqX F (jZ.tw F) (eB.tw F) (bZ.tw F) (iU.tw F) _ _ H).trans h) (by kernel_rfl)
 ·cases h
def fe.l29 (F:Nat) :Nat->Sl->Sl->Int->Hp->OA
 | 0,_,_,_,_=>none
 | fG+1,eb,eG,iD,H8=>(bif (decide (iD<(eb.n:Int))) then ((Sl.idx eb iD 1).bind λp13=>(Hp.ldI H8 .i64 p13.1 p13.2).bind λn14=>(Sl.idx eG iD 1).bind λp15=>(Hp.ldI H8 .i64 p15.1 p15.2).bind λn16=>(bif (n14 != n16) then (some ((.bool false),H8)) else (fe.l29 F fG eb eG (wrap .i64 (iD+1)) H8))) else (some ((.bool true),H8)))
def fe.twX (aa:Sl) (au:Sl) (H:Hp):OA:=(bif ((aa.n:Int) != (au.n:Int)) then (some ((.bool false),H)) else (fe.l29 F F aa au 0 H))
def fe.tw:=fe.twX F
def fe.lh29 (ks:am6) (n:Nat) (tm:Tm) (H:Hp):OA:=match ks,tm 0,tm 1,tm 5 with
 | [],(.sl eb),(.sl eG),(.int .i64 iD)=>fe.l29 F n eb eG iD H
 | _,_,_,_=>none
def fe.lh (p:Nat) (ks:am6) (n:Nat) (tm:Tm) (H:Hp):OA:=bif p.beq 29 then fe.lh29 F ks n tm H else (none)
def fe.tb:Nat->List (List Nat):=dM [(6,[[],[],[0,1],[0,1,2],[],[],[4,5],[4,5,6],[0,1,2,3,4,5,6,7]])]
def mk28 (g:anL) (args:anb) (H:Hp):OA:=match args with
 | [(.sl aa),(.sl au)]=>g aa au H
 | _=>none
theorem mk28_E (g:anL) (aa:Sl) (au:Sl) (H:Hp):mk28 g [(.sl aa),(.sl au)] H=g aa au H:=rfl
theorem fe.loops:LO (bl []) bf (fe.lh F) F Tryz.f37:=
 (ae.rt (ae.rt (ae.lt (ae.rt (ae.block (ae.la (λn tm H r h=>by change fe.lh29 F [] n tm H=_ at h;unfold fe.lh29 at h;split at h;have e:c_ tm [(0,_),(1,_),(5,_)]:=⟨‹_›,‹_›,‹_›,trivial⟩;obtain _ | k29:=n;cases h;exact ⟨_,rfl,by rw [<- db e];exact Eq.trans (by kernel_rfl) h⟩;cases h) λk29=>ae.no))))))
theorem fe.k:Ok Tryz.prog 37 (mk28 (fe.tw F)):=by
 intro args H v H' h
 unfold mk28 at h
 split at h
 ·exact okT (PN:=bf) (LH:=(fe.lh F)) (F:=F) (TB:=fe.tb) Tryz.func37 cD (fe.loops F) (Eq.trans (by kernel_rfl) h) (by kernel_rfl)
 ·cases h
def jj.twX (F:Nat) (AH:anL) (aa:Int) (ac:Sl) (ah:Int) (aF:Sl) (H:Hp):OA:=(Hp.new H [(.int .i64 aa),(.sl ac)]).bind λH5=>(Hp.new H5 [(.int .i64 ah),(.sl aF)]).bind λH6=>(Hp.ldI H6 .i64 H.length 0).bind λn7=>(Hp.ldI H6 .i64 H5.length 0).bind λn8=>(bif (n7 != n8) then (some ((.bool false),H6)) else ((Hp.ldSl H6 H.length 1).bind λs9=>(Hp.ldSl H6 H5.length 1).bind λs10=>(AH s9 s10 H6).bind λr11=>((r11.1).asB).bind λb12=>(bif (!b12) then (some ((.bool false),r11.2)) else (some ((.bool true),r11.2)))))
def jj.tw:=jj.twX F (fe.tw F)
def mk29 (g:aoc) (args:anb) (H:Hp):OA:=match args with
 | [(.agg [(.int .i64 aa),(.sl ac)]),(.agg [(.int .i64 ah),(.sl aF)])]=>g aa ac ah aF H
 | _=>none
theorem mk29_E (g:aoc) (aa:Int) (ac:Sl) (ah:Int) (aF:Sl) (H:Hp):mk29 g [(.agg [(.int .i64 aa),(.sl ac)]),(.agg [(.int .i64 ah),(.sl aF)])] H=g aa ac ah aF H:=rfl
def jj.cs (F:Nat) (AH:anL):Cs:=[(37,mk28 AH)]
theorem jj.eqX (AH:anL) (aa:Int) (ac:Sl) (ah:Int) (aF:Sl) (H:Hp):EX (bl (jj.cs F AH)) bf lh0 F Tryz.f12 [(.agg [(.int .i64 aa),(.sl ac)]),(.agg [(.int .i64 ah),(.sl aF)])] H=jj.twX F AH aa ac ah aF H:=by kernel_rfl
theorem jj.k:Ok Tryz.prog 12 (mk29 (jj.tw F)):=by
 intro args H v H' h
 unfold mk29 at h
 split at h
 ·exact okT (TB:=bf) Tryz.func12 (aR (fe.k F) cD) ae.no ((jj.eqX F (fe.tw F) _ _ _ _ H).trans h) (by kernel_rfl)
 ·cases h
def lf.twX (F:Nat) (aa:Int) (ac:Int) (aZ:Int) (eN:Int) (ev:Int) (fE:Int) (rp:Int) (rq:Int) (rr:Int) (ru:Int) (H:Hp):OA:=(Hp.new H [(.int .i64 aa),(.int .i64 ac),(.int .i64 aZ),(.int .i64 eN),(.int .i64 ev)]).bind λH11=>(Hp.new H11 [(.int .i64 fE),(.int .i64 rp),(.int .i64 rq),(.int .i64 rr),(.int .i64 ru)]).bind λH12=>(Hp.ldI H12 .i64 H.length 0).bind λn13=>(Hp.ldI H12 .i64 H11.length 0).bind λn14=>(bif (n13 != n14) then (some ((.bool false),H12)) else ((Hp.ldI H12 .i64 H.length 1).bind λn15=>(Hp.ldI H12 .i64 H11.length 1).bind λn16=>(bif (n15 != n16) then (some ((.bool false),H12)) else ((Hp.ldI H12 .i64 H.length 2).bind λn17=>(Hp.ldI H12 .i64 H11.length 2).bind λn18=>(bif (n17 != n18) then (some ((.bool false),H12)) else ((Hp.ldI H12 .i64 H.length 3).bind λn19=>(Hp.ldI H12 .i64 H11.length 3).bind λn20=>(bif (n19 != n20) then (some ((.bool false),H12)) else ((Hp.ldI H12 .i64 H.length 4).bind λn21=>(Hp.ldI H12 .i64 H11.length 4).bind λn22=>(bif (n21 != n22) then (some ((.bool false),H12)) else (some ((.bool true),H12)))))))))))
def lf.tw:=lf.twX F
def mk30 (g:anF) (args:anb) (H:Hp):OA:=match args with
 | [(.agg [(.int .i64 aa),(.int .i64 ac),(.int .i64 aZ),(.int .i64 eN),(.int .i64 ev)]),(.agg [(.int .i64 fE),(.int .i64 rp),(.int .i64 rq),(.int .i64 rr),(.int .i64 ru)])]=>g aa ac aZ eN ev fE rp rq rr ru H
 | _=>none
theorem mk30_E (g:anF) (aa:Int) (ac:Int) (aZ:Int) (eN:Int) (ev:Int) (fE:Int) (rp:Int) (rq:Int) (rr:Int) (ru:Int) (H:Hp):mk30 g [(.agg [(.int .i64 aa),(.int .i64 ac),(.int .i64 aZ),(.int .i64 eN),(.int .i64 ev)]),(.agg [(.int .i64 fE),(.int .i64 rp),(.int .i64 rq),(.int .i64 rr),(.int .i64 ru)])] H=g aa ac aZ eN ev fE rp rq rr ru H:=rfl
theorem lf.k:Ok Tryz.prog 56 (mk30 (lf.tw F)):=by
 intro args H v H' h
 unfold mk30 at h
 split at h
 ·exact ok0 Tryz.func56 (Eq.trans (by kernel_rfl) h) (by kernel_rfl) (by kernel_rfl)
 ·cases h
def eH.l29 (F:Nat) (mS:anF) :Nat->Sl->Sl->Int->Hp->OA
 | 0,_,_,_,_=>none
 | fG+1,eb,eG,iD,H8=>(bif (decide (iD<(eb.n:Int))) then ((Sl.idx eb iD 5).bind λp23=>(Hp.ldI H8 .i64 p23.1 p23.2).bind λn24=>(Hp.ldI H8 .i64 p23.1 (p23.2+1)).bind λn25=>(Hp.ldI H8 .i64 p23.1 (p23.2+2)).bind λn26=>(Hp.ldI H8 .i64 p23.1 (p23.2+3)).bind λn27=>(Hp.ldI H8 .i64 p23.1 (p23.2+4)).bind λn28=>(Sl.idx eG iD 5).bind λp29=>(Hp.ldI H8 .i64 p29.1 p29.2).bind λn30=>(Hp.ldI H8 .i64 p29.1 (p29.2+1)).bind λn31=>(Hp.ldI H8 .i64 p29.1 (p29.2+2)).bind λn32=>(Hp.ldI H8 .i64 p29.1 (p29.2+3)).bind λn33=>(Hp.ldI H8 .i64 p29.1 (p29.2+4)).bind λn34=>(mS n24 n25 n26 n27 n28 n30 n31 n32 n33 n34 H8).bind λr35=>((r35.1).asB).bind λb36=>(bif (!b36) then (some ((.bool false),r35.2)) else (eH.l29 F mS fG eb eG (wrap .i64 (iD+1)) r35.2))) else (some ((.bool true),H8)))
def eH.twX (mS:anF) (aa:Sl) (au:Sl) (H:Hp):OA:=(bif ((aa.n:Int) != (au.n:Int)) then (some ((.bool false),H)) else (eH.l29 F mS F aa au 0 H))
def eH.tw:=eH.twX F (lf.tw F)
def eH.lh29 (mS:anF) (ks:am6) (n:Nat) (tm:Tm) (H:Hp):OA:=match ks,tm 0,tm 1,tm 5 with
 | [],(.sl eb),(.sl eG),(.int .i64 iD)=>eH.l29 F mS n eb eG iD H
 | _,_,_,_=>none
def eH.lh (mS:anF) (p:Nat) (ks:am6) (n:Nat) (tm:Tm) (H:Hp):OA:=bif p.beq 29 then eH.lh29 F mS ks n tm H else (none)
def eH.pn:Nat->List Nat:=dM [(6,[8])]
def eH.tb:Nat->List (List Nat):=dM [(6,[[],[],[0,1],[0,1,2],[],[],[4,5],[4,5,6],[0,1,2,3,4,5,6,7],[0,1,2,3,4,5,6,7,8]])]
def eH.cs (F:Nat) (mS:anF):Cs:=[(56,mk30 mS)]
theorem eH.loops (mS:anF):LO (bl (eH.cs F mS)) eH.pn (eH.lh F mS) F Tryz.f30:=
 (ae.rt (ae.rt (ae.lt (ae.rt (ae.block (ae.la (λn tm H r h=>by change eH.lh29 F mS [] n tm H=_ at h;unfold eH.lh29 at h;split at h;have e:c_ tm [(0,_),(1,_),(5,_)]:=⟨‹_›,‹_›,‹_›,trivial⟩;obtain _ | k29:=n;cases h;exact ⟨_,rfl,by rw [<- db e];exact Eq.trans (by kernel_rfl) h⟩;cases h) λk29=>ae.no))))))
theorem eH.eqX (mS:anF) (aa:Sl) (au:Sl) (H:Hp):EX (bl (eH.cs F mS)) eH.pn (eH.lh F mS) F Tryz.f30 [(.sl aa),(.sl au)] H=eH.twX F mS aa au H:=by kernel_rfl
theorem eH.k:Ok Tryz.prog 30 (mk28 (eH.tw F)):=by
 intro args H v H' h
 unfold mk28 at h
 split at h
 ·exact okT (TB:=eH.tb) Tryz.func30 (aR (lf.k F) cD) (eH.loops F (lf.tw F)) ((eH.eqX F (lf.tw F) _ _ H).trans h) (by kernel_rfl)
 ·cases h
def jW.twX (F:Nat) (AI:anL) (aa:Sl) (ac:Int) (ah:Sl) (aF:Int) (H:Hp):OA:=(Hp.new H [(.sl aa),(.int .i64 ac)]).bind λH5=>(Hp.new H5 [(.sl ah),(.int .i64 aF)]).bind λH6=>(Hp.ldSl H6 H.length 0).bind λs7=>(Hp.ldSl H6 H5.length 0).bind λs8=>(AI s7 s8 H6).bind λr9=>((r9.1).asB).bind λb10=>(bif (!b10) then (some ((.bool false),r9.2)) else ((Hp.ldI r9.2 .i64 H.length 1).bind λn11=>(Hp.ldI r9.2 .i64 H5.length 1).bind λn12=>(bif (n11 != n12) then (some ((.bool false),r9.2)) else (some ((.bool true),r9.2)))))
def jW.tw:=jW.twX F (eH.tw F)
def mk31 (g:aod) (args:anb) (H:Hp):OA:=match args with
 | [(.agg [(.sl aa),(.int .i64 ac)]),(.agg [(.sl ah),(.int .i64 aF)])]=>g aa ac ah aF H
 | _=>none
theorem mk31_E (g:aod) (aa:Sl) (ac:Int) (ah:Sl) (aF:Int) (H:Hp):mk31 g [(.agg [(.sl aa),(.int .i64 ac)]),(.agg [(.sl ah),(.int .i64 aF)])] H=g aa ac ah aF H:=rfl
def jW.cs (F:Nat) (AI:anL):Cs:=[(30,mk28 AI)]
theorem jW.eqX (AI:anL) (aa:Sl) (ac:Int) (ah:Sl) (aF:Int) (H:Hp):EX (bl (jW.cs F AI)) bf lh0 F Tryz.f9 [(.agg [(.sl aa),(.int .i64 ac)]),(.agg [(.sl ah),(.int .i64 aF)])] H=jW.twX F AI aa ac ah aF H:=by kernel_rfl
theorem jW.k:Ok Tryz.prog 9 (mk31 (jW.tw F)):=by
 intro args H v H' h
 unfold mk31 at h
 split at h
 ·exact okT (TB:=bf) Tryz.func9 (aR (eH.k F) cD) ae.no ((jW.eqX F (eH.tw F) _ _ _ _ H).trans h) (by kernel_rfl)
 ·cases h
def fi.l13 (F:Nat) :Nat->Sl->Int->Int->Hp->OA
 | 0,_,_,_,_=>none
 | jc+1,eb,eG,dZ,H7=>(bif (decide (dZ<(eb.n:Int))) then ((Sl.idx eb dZ 5).bind λp18=>(Hp.st H7 p18.1 p18.2 (.int .i64 eG)).bind λH19=>(Sl.idx eb dZ 5).bind λp20=>(Hp.st H19 p20.1 (p20.2+1) (.int .i64 (wrap .i64 (eG+1)))).bind λH21=>(Sl.idx eb dZ 5).bind λp22=>(Hp.st H21 p22.1 (p22.2+2) (.int .i64 (wrap .i64 ((wrap .i64 (eG+1))+1)))).bind λH23=>(Sl.idx eb dZ 5).bind λp24=>(Hp.st H23 p24.1 (p24.2+3) (.int .i64 (wrap .i64 ((wrap .i64 ((wrap .i64 (eG+1))+1))+1)))).bind λH25=>(Sl.idx eb dZ 5).bind λp26=>(Hp.st H25 p26.1 (p26.2+4) (.int .i64 (wrap .i64 ((wrap .i64 ((wrap .i64 ((wrap .i64 (eG+1))+1))+1))+1)))).bind λH27=>fi.l13 F jc eb (wrap .i64 ((wrap .i64 ((wrap .i64 ((wrap .i64 ((wrap .i64 (eG+1))+1))+1))+1))+1)) (wrap .i64 (dZ+1)) H27) else (some ((.int .i64 eG),H7)))
def fi.twX (aa:Sl) (au:Int) (H:Hp):OA:=fi.l13 F F aa au 0 H
def fi.tw:=fi.twX F
def fi.lh13 (ks:am6) (n:Nat) (tm:Tm) (H:Hp):OA:=match ks,tm 0,tm 1,tm 5 with
 | [],(.sl eb),(.int .i64 eG),(.int .i64 dZ)=>fi.l13 F n eb eG dZ H
 | _,_,_,_=>none
def fi.lh (p:Nat) (ks:am6) (n:Nat) (tm:Tm) (H:Hp):OA:=bif p.beq 13 then fi.lh13 F ks n tm H else (none)
theorem fi.loops:LO (bl []) bf (fi.lh F) F Tryz.f38:=
 (ae.rt (ae.lt (ae.rt (ae.block (ae.la (λn tm H r h=>by change fi.lh13 F [] n tm H=_ at h;unfold fi.lh13 at h;split at h;have e:c_ tm [(0,_),(1,_),(5,_)]:=⟨‹_›,‹_›,‹_›,trivial⟩;obtain _ | k13:=n;cases h;exact ⟨_,rfl,by rw [<- db e];exact Eq.trans (by kernel_rfl) h⟩;cases h) λk13=>ae.no)))))
theorem fi.k:Ok Tryz.prog 38 (mk0 (fi.tw F)):=by
 intro args H v H' h
 unfold mk0 at h
 split at h
 ·exact okT (PN:=bf) (LH:=(fi.lh F)) (F:=F) (TB:=bf) Tryz.func38 cD (fi.loops F) (Eq.trans (by kernel_rfl) h) (by kernel_rfl)
 ·cases h
def jX.twX (F:Nat) (AJ:am8) (aa:Sl) (ac:Int) (ah:Int) (H:Hp):OA:=(Hp.new H [(.sl aa),(.int .i64 ac)]).bind λH4=>(Hp.ldSl H4 H.length 0).bind λs5=>(AJ s5 ah H4).bind λr6=>((r6.1).asI .i64).bind λn7=>some ((.int .i64 n7),r6.2)
def jX.tw:=jX.twX F (fi.tw F)
def jX.cs (F:Nat) (AJ:am8):Cs:=[(38,mk0 AJ)]
theorem jX.eqX (AJ:am8) (aa:Sl) (ac:Int) (ah:Int) (H:Hp):EX (bl (jX.cs F AJ)) bf lh0 F Tryz.f13 [(.agg [(.sl aa),(.int .i64 ac)]),(.int .i64 ah)] H=jX.twX F AJ aa ac ah H:=by kernel_rfl
theorem jX.k:Ok Tryz.prog 13 (mk1 (jX.tw F)):=by
 intro args H v H' h
 unfold mk1 at h
 split at h
 ·exact okT (TB:=bf) Tryz.func13 (aR (fi.k F) cD) ae.no ((jX.eqX F (fi.tw F) _ _ _ H).trans h) (by kernel_rfl)
 ·cases h
def fj.l13 (F:Nat) :Nat->Sl->Int->Int->Hp->OA
 | 0,_,_,_,_=>none
 | jc+1,eb,eG,dZ,H7=>(bif (decide (dZ<(eb.n:Int))) then ((Sl.idx eb dZ 1).bind λp10=>(Hp.st H7 p10.1 p10.2 (.int .i64 eG)).bind λH11=>fj.l13 F jc eb (wrap .i64 (eG+1)) (wrap .i64 (dZ+1)) H11) else (some ((.int .i64 eG),H7)))
def fj.twX (aa:Sl) (au:Int) (H:Hp):OA:=fj.l13 F F aa au 0 H
def fj.tw:=fj.twX F
def fj.lh13 (ks:am6) (n:Nat) (tm:Tm) (H:Hp):OA:=match ks,tm 0,tm 1,tm 5 with
 | [],(.sl eb),(.int .i64 eG),(.int .i64 dZ)=>fj.l13 F n eb eG dZ H
 | _,_,_,_=>none
def fj.lh (p:Nat) (ks:am6) (n:Nat) (tm:Tm) (H:Hp):OA:=bif p.beq 13 then fj.lh13 F ks n tm H else (none)
theorem fj.loops:LO (bl []) bf (fj.lh F) F Tryz.f39:=
 (ae.rt (ae.lt (ae.rt (ae.block (ae.la (λn tm H r h=>by change fj.lh13 F [] n tm H=_ at h;unfold fj.lh13 at h;split at h;have e:c_ tm [(0,_),(1,_),(5,_)]:=⟨‹_›,‹_›,‹_›,trivial⟩;obtain _ | k13:=n;cases h;exact ⟨_,rfl,by rw [<- db e];exact Eq.trans (by kernel_rfl) h⟩;cases h) λk13=>ae.no)))))
theorem fj.k:Ok Tryz.prog 39 (mk0 (fj.tw F)):=by
 intro args H v H' h
 unfold mk0 at h
 split at h
 ·exact okT (PN:=bf) (LH:=(fj.lh F)) (F:=F) (TB:=bf) Tryz.func39 cD (fj.loops F) (Eq.trans (by kernel_rfl) h) (by kernel_rfl)
 ·cases h
def kb.twX (F:Nat) (AK:am8) (aa:Int) (ac:Sl) (ah:Int) (H:Hp):OA:=(Hp.new H [(.int .i64 aa),(.sl ac)]).bind λH4=>(Hp.ldSl H4 H.length 1).bind λs5=>(AK s5 ah H4).bind λr6=>((r6.1).asI .i64).bind λn7=>some ((.int .i64 n7),r6.2)
def kb.tw:=kb.twX F (fj.tw F)
def mk32 (g:anB) (args:anb) (H:Hp):OA:=match args with
 | [(.agg [(.int .i64 aa),(.sl ac)]),(.int .i64 ah)]=>g aa ac ah H
 | _=>none
theorem mk32_E (g:anB) (aa:Int) (ac:Sl) (ah:Int) (H:Hp):mk32 g [(.agg [(.int .i64 aa),(.sl ac)]),(.int .i64 ah)] H=g aa ac ah H:=rfl
def kb.cs (F:Nat) (AK:am8):Cs:=[(39,mk0 AK)]
theorem kb.eqX (AK:am8) (aa:Int) (ac:Sl) (ah:Int) (H:Hp):EX (bl (kb.cs F AK)) bf lh0 F Tryz.f14 [(.agg [(.int .i64 aa),(.sl ac)]),(.int .i64 ah)] H=kb.twX F AK aa ac ah H:=by kernel_rfl
theorem kb.k:Ok Tryz.prog 14 (mk32 (kb.tw F)):=by
 intro args H v H' h
 unfold mk32 at h
 split at h
 ·exact okT (TB:=bf) Tryz.func14 (aR (fj.k F) cD) ae.no ((kb.eqX F (fj.tw F) _ _ _ H).trans h) (by kernel_rfl)
 ·cases h
def fk.l13 (F:Nat) :Nat->Sl->Int->Int->Hp->OA
 | 0,_,_,_,_=>none
 | jc+1,eb,eG,dZ,H7=>(bif (decide (dZ<(eb.n:Int))) then ((Sl.idx eb dZ 1).bind λp10=>(Hp.ldI H7 .i64 p10.1 p10.2).bind λn11=>(bif (n11 != eG) then (some ((.int .i64 (-1)),H7)) else (fk.l13 F jc eb (wrap .i64 (eG+1)) (wrap .i64 (dZ+1)) H7))) else (some ((.int .i64 eG),H7)))
def fk.twX (aa:Sl) (au:Int) (H:Hp):OA:=fk.l13 F F aa au 0 H
def fk.tw:=fk.twX F
def fk.lh13 (ks:am6) (n:Nat) (tm:Tm) (H:Hp):OA:=match ks,tm 0,tm 1,tm 5 with
 | [],(.sl eb),(.int .i64 eG),(.int .i64 dZ)=>fk.l13 F n eb eG dZ H
 | _,_,_,_=>none
def fk.lh (p:Nat) (ks:am6) (n:Nat) (tm:Tm) (H:Hp):OA:=bif p.beq 13 then fk.lh13 F ks n tm H else (none)
theorem fk.loops:LO (bl []) bf (fk.lh F) F Tryz.f40:=
 (ae.rt (ae.lt (ae.rt (ae.block (ae.la (λn tm H r h=>by change fk.lh13 F [] n tm H=_ at h;unfold fk.lh13 at h;split at h;have e:c_ tm [(0,_),(1,_),(5,_)]:=⟨‹_›,‹_›,‹_›,trivial⟩;obtain _ | k13:=n;cases h;exact ⟨_,rfl,by rw [<- db e];exact Eq.trans (by kernel_rfl) h⟩;cases h) λk13=>ae.no)))))
theorem fk.k:Ok Tryz.prog 40 (mk0 (fk.tw F)):=by
 intro args H v H' h
 unfold mk0 at h
 split at h
 ·exact okT (PN:=bf) (LH:=(fk.lh F)) (F:=F) (TB:=bf) Tryz.func40 cD (fk.loops F) (Eq.trans (by kernel_rfl) h) (by kernel_rfl)
 ·cases h
def jG.twX (F:Nat) (AL:am8) (aa:Int) (ac:Sl) (ah:Int) (H:Hp):OA:=(Hp.new H [(.int .i64 aa),(.sl ac)]).bind λH4=>(Hp.ldSl H4 H.length 1).bind λs5=>(AL s5 ah H4).bind λr6=>((r6.1).asI .i64).bind λn7=>(bif (decide (n7<0)) then (some ((.int .i64 (-1)),r6.2)) else (some ((.int .i64 n7),r6.2)))
def jG.tw:=jG.twX F (fk.tw F)
def jG.cs (F:Nat) (AL:am8):Cs:=[(40,mk0 AL)]
theorem jG.eqX (AL:am8) (aa:Int) (ac:Sl) (ah:Int) (H:Hp):EX (bl (jG.cs F AL)) bf lh0 F Tryz.f15 [(.agg [(.int .i64 aa),(.sl ac)]),(.int .i64 ah)] H=jG.twX F AL aa ac ah H:=by kernel_rfl
theorem jG.k:Ok Tryz.prog 15 (mk32 (jG.tw F)):=by
 intro args H v H' h
 unfold mk32 at h
 split at h
 ·exact okT (TB:=bf) Tryz.func15 (aR (fk.k F) cD) ae.no ((jG.eqX F (fk.tw F) _ _ _ H).trans h) (by kernel_rfl)
 ·cases h
def iL.twX (F:Nat) (AM:ani) (sY:am8) (AN:am8) (vG:am8) (uh:aoc) (AO:aod) (AP:ani) (AQ:anB) (vH:anB) (aa:Sl) (ac:Int) (H:Hp):OA:=(Hp.new H [(.sl aa),(.int .i64 ac)]).bind λH3=>(Hp.ldSl H3 H.length 0).bind λs4=>(Hp.ldI H3 .i64 H.length (0+1)).bind λn5=>(AM s4 n5 1048576 H3).bind λr6=>((r6.1).asI .i64).bind λn7=>(bif (decide (n7<0)) then (some ((.bool true),r6.2)) else ((Hp.ldSl r6.2 H.length 0).bind λs8=>(Hp.ldI r6.2 .i64 H.length (0+1)).bind λn9=>(sY s8 n9 r6.2).bind λr10=>((r10.1).asAgg 2).bind λl11=>(l11[0]?).bind λv12=>((v12).asSl).bind λs13=>(l11[1]?).bind λv14=>((v14).asI .i64).bind λn15=>(AN s13 n15 r10.2).bind λr16=>((r16.1).asTup 2).bind λl17=>(l17[0]?).bind λv18=>((v18).asAgg 2).bind λl19=>(l19[0]?).bind λv20=>((v20).asI .i64).bind λn21=>(l19[1]?).bind λv22=>((v22).asSl).bind λs23=>(l17[1]?).bind λv24=>((v24).asI .i64).bind λn25=>(Hp.new r16.2 [.int .i64 0,.sl ⟨none,0,.ex 0⟩]).bind λH26=>(Hp.st H26 r16.2.length 0 (.int .i64 n21)).bind λH27=>(Hp.st H27 r16.2.length (0+1) (.sl s23)).bind λH28=>(Hp.ldSl H28 H.length 0).bind λs29=>(Hp.ldI H28 .i64 H.length (0+1)).bind λn30=>(sY s29 n30 H28).bind λr31=>((r31.1).asAgg 2).bind λl32=>(l32[0]?).bind λv33=>((v33).asSl).bind λs34=>(l32[1]?).bind λv35=>((v35).asI .i64).bind λn36=>(Hp.new r31.2 [.sl ⟨none,0,.ex 0⟩,.int .i64 0]).bind λH37=>(Hp.st H37 r31.2.length 0 (.sl s34)).bind λH38=>(Hp.st H38 r31.2.length (0+1) (.int .i64 n36)).bind λH39=>(Hp.ldSl H39 r31.2.length 0).bind λs40=>(Hp.ldI H39 .i64 r31.2.length (0+1)).bind λn41=>(vG s40 n41 H39).bind λr42=>((r42.1).asTup 2).bind λl43=>(l43[0]?).bind λv44=>((v44).asAgg 2).bind λl45=>(l45[0]?).bind λv46=>((v46).asI .i64).bind λn47=>(l45[1]?).bind λv48=>((v48).asSl).bind λs49=>(l43[1]?).bind λv50=>((v50).asI .i64).bind λn51=>(Hp.new r42.2 [.int .i64 0,.sl ⟨none,0,.ex 0⟩]).bind λH52=>(Hp.st H52 r42.2.length 0 (.int .i64 n47)).bind λH53=>(Hp.st H53 r42.2.length (0+1) (.sl s49)).bind λH54=>(Hp.ldI H54 .i64 r42.2.length 0).bind λn55=>(Hp.ldSl H54 r42.2.length (0+1)).bind λs56=>(Hp.ldI H54 .i64 r16.2.length 0).bind λn57=>(Hp.ldSl H54 r16.2.length (0+1)).bind λs58=>(uh n55 s56 n57 s58 H54).bind λr59=>((r59.1).asB).bind λb60=>(bif (!b60) then (some ((.bool false),r59.2)) else ((bif (n51 != n25) then (some ((.bool false),r59.2)) else ((Hp.ldSl r59.2 r31.2.length 0).bind λs61=>(Hp.ldI r59.2 .i64 r31.2.length (0+1)).bind λn62=>(Hp.ldSl r59.2 H.length 0).bind λs63=>(Hp.ldI r59.2 .i64 H.length (0+1)).bind λn64=>(sY s63 n64 r59.2).bind λr65=>((r65.1).asAgg 2).bind λl66=>(l66[0]?).bind λv67=>((v67).asSl).bind λs68=>(l66[1]?).bind λv69=>((v69).asI .i64).bind λn70=>(if bo r59.2 r65.2 then ((AO s61 n62 s68 n70 r65.2).bind λr71=>((r71.1).asB).bind λb72=>(bif (!b72) then (some ((.bool false),r71.2)) else ((Hp.ldSl r71.2 r31.2.length 0).bind λs73=>(Hp.ldI r71.2 .i64 r31.2.length (0+1)).bind λn74=>(AP s73 n74 1 r71.2).bind λr75=>((r75.1).asI .i64).bind λn76=>(bif (decide (n76<0)) then (some ((.bool false),r75.2)) else ((Hp.ldI r75.2 .i64 r42.2.length 0).bind λn77=>(Hp.ldSl r75.2 r42.2.length (0+1)).bind λs78=>(Hp.ldI r75.2 .i64 r16.2.length 0).bind λn79=>(Hp.ldSl r75.2 r16.2.length (0+1)).bind λs80=>(uh n77 s78 n79 s80 r75.2).bind λr81=>((r81.1).asB).bind λb82=>(bif (!b82) then (some ((.bool false),r81.2)) else ((bif (n51 != n25) then (some ((.bool false),r81.2)) else ((Hp.ldI r81.2 .i64 r42.2.length 0).bind λn83=>(Hp.ldSl r81.2 r42.2.length (0+1)).bind λs84=>(AQ n83 s84 1 r81.2).bind λr85=>((r85.1).asI .i64).bind λn86=>(Hp.ldI r85.2 .i64 r42.2.length 0).bind λn87=>(Hp.ldSl r85.2 r42.2.length (0+1)).bind λs88=>(vH n87 s88 1 r85.2).bind λr89=>((r89.1).asI .i64).bind λn90=>(bif (decide (n90<0)) then (some ((.bool false),r89.2)) else ((bif (n90 != n86) then (some ((.bool false),r89.2)) else ((Hp.ldSl r89.2 H.length 0).bind λs91=>(Hp.ldI r89.2 .i64 H.length (0+1)).bind λn92=>(sY s91 n92 r89.2).bind λr93=>((r93.1).asAgg 2).bind λl94=>(l94[0]?).bind λv95=>((v95).asSl).bind λs96=>(l94[1]?).bind λv97=>((v97).asI .i64).bind λn98=>(vG s96 n98 r93.2).bind λr99=>((r99.1).asTup 2).bind λl100=>(l100[0]?).bind λv101=>((v101).asAgg 2).bind λl102=>(l102[0]?).bind λv103=>((v103).asI .i64).bind λn104=>(l102[1]?).bind λv105=>((v105).asSl).bind λs106=>(l100[1]?).bind λv107=>((v107).asI .i64).bind λn108=>(Hp.new r99.2 [.int .i64 0,.sl ⟨none,0,.ex 0⟩]).bind λH109=>(Hp.st H109 r99.2.length 0 (.int .i64 n104)).bind λH110=>(Hp.st H110 r99.2.length (0+1) (.sl s106)).bind λH111=>(Hp.ldI H111 .i64 r99.2.length 0).bind λn112=>(Hp.ldSl H111 r99.2.length (0+1)).bind λs113=>(Hp.ldI H111 .i64 r16.2.length 0).bind λn114=>(Hp.ldSl H111 r16.2.length (0+1)).bind λs115=>(uh n112 s113 n114 s115 H111).bind λr116=>((r116.1).asB).bind λb117=>(bif (!b117) then (some ((.bool false),r116.2)) else ((bif (n108 != n25) then (some ((.bool false),r116.2)) else ((Hp.ldI r116.2 .i64 r42.2.length 0).bind λn118=>(Hp.ldSl r116.2 r42.2.length (0+1)).bind λs119=>(vH n118 s119 1 r116.2).bind λr120=>((r120.1).asI .i64).bind λn121=>(bif (decide (n121<0)) then (some ((.bool false),r120.2)) else ((bif (n121 != n86) then (some ((.bool false),r120.2)) else (some ((.bool true),r120.2)))))))))))))))))))))) else none)))))))
def iL.tw:=iL.twX F (jl.tw F) (im.tw F) (bG.tw F) (iC.tw F) (jj.tw F) (jW.tw F) (jX.tw F) (kb.tw F) (jG.tw F)
def iL.pn:Nat->List Nat:=dM [(10,[3])]
def iL.tb:Nat->List (List Nat):=dM [(10,[[],[],[1],[0,1,2],[0,1,2,3]])]
def iL.cs (F:Nat) (AM:ani) (sY:am8) (AN:am8) (vG:am8) (uh:aoc) (AO:aod) (AP:ani) (AQ:anB) (vH:anB):Cs:=[(5,mk1 AM),(7,mk4 sY),(10,mk4 AN),(11,mk4 vG),(12,mk29 uh),(9,mk31 AO),(13,mk1 AP),(14,mk32 AQ),(15,mk32 vH)]
theorem iL.eqX (AM:ani) (sY:am8) (AN:am8) (vG:am8) (uh:aoc) (AO:aod) (AP:ani) (AQ:anB) (vH:anB) (aa:Sl) (ac:Int) (H:Hp):EX (bl (iL.cs F AM sY AN vG uh AO AP AQ vH)) iL.pn lh0 F Tryz.f4 [(.agg [(.sl aa),(.int .i64 ac)])] H=iL.twX F AM sY AN vG uh AO AP AQ vH aa ac H:=by kernel_rfl
theorem iL.k:Ok Tryz.prog 4 (mk4 (iL.tw F)):=by
 intro args H v H' h
 unfold mk4 at h
 split at h
 ·exact okT (TB:=iL.tb) Tryz.func4 (aR (jl.k F) (aR (im.k F) (aR (bG.k F) (aR (iC.k F) (aR (jj.k F) (aR (jW.k F) (aR (jX.k F) (aR (kb.k F) (aR (jG.k F) cD))))))))) ae.no ((iL.eqX F (jl.tw F) (im.tw F) (bG.tw F) (iC.tw F) (jj.tw F) (jW.tw F) (jX.tw F) (kb.tw F) (jG.tw F) _ _ H).trans h) (by kernel_rfl)
 ·cases h
theorem iL.T {F:Nat} {aa:Sl} {ac:Int} {H:Hp} {v:AV} {H':Hp} (h:iL.tw F aa ac H=some (v,H')):Go.AE.T Tryz.prog 4 [(.agg [(.sl aa),(.int .i64 ac)])] H v H':=iL.k F _ _ _ _ ((mk4_E (iL.tw F) aa ac H).trans h)
end
end Go.Proofs.YtppbogklbhfboaaGreat.AE
