import Derived.Test.YtodfdhnlhiaohaaTab1
import Derived.Test.YtodfdhnlhiaohaaE2
set_option linter.unusedVariables false
set_option linter.unusedSimpArgs false
namespace Go.Proofs.Ytodfdhnlhiaohaa.AE
open Go Go.AE Go.Proofs Go.RowKit Go.Maps IntKind
variable (F:Nat)
set_option linter.unusedVariables false
set_option maxHeartbeats 4000000
set_option maxRecDepth 100000
noncomputable section
def dJ.twX (F:Nat) (ac:Sl) (ar:Int) (H:Hp):OA:=(bif (decide ((wrap .i64 (ar - (ac.n:Int)))<0)) then (some ((.int .i64 (-1)),H)) else (some ((.int .i64 (wrap .i64 (ar - (ac.n:Int)))),H)))
def dJ.tw:=dJ.twX F
def mk0 (g:KN) (args:KW) (H:Hp):OA:=match args with
 | [(.sl ac),(.int .i64 ar)]=>g ac ar H
 | _=>none
theorem mk0_E (g:KN) (ac:Sl) (ar:Int) (H:Hp):mk0 g [(.sl ac),(.int .i64 ar)] H=g ac ar H:=rfl
theorem dJ.k:Ok Try.prog 58 (mk0 (dJ.tw F)):=by
 intro args H v H' h
 unfold mk0 at h
 split at h
 ·exact ok0 Try.func58 (Eq.trans (by kernel_rfl) h) (by kernel_rfl) (by kernel_rfl)
 ·cases h
def cV.twX (F:Nat) (lu:KN) (ac:Sl) (ag:Int) (ay:Int) (H:Hp):OA:=(Hp.new H [(.sl ac),(.int .i64 ag)]).bind λH4=>(Hp.ldSl H4 H.length 0).bind λs5=>(lu s5 ay H4).bind λr6=>((r6.1).asI .i64).bind λn7=>(bif (decide (n7<0)) then (some ((.int .i64 (-1)),r6.2)) else (some ((.int .i64 n7),r6.2)))
def cV.tw:=cV.twX F (dJ.tw F)
def mk1 (g:KU) (args:KW) (H:Hp):OA:=match args with
 | [(.agg [(.sl ac),(.int .i64 ag)]),(.int .i64 ay)]=>g ac ag ay H
 | _=>none
theorem mk1_E (g:KU) (ac:Sl) (ag:Int) (ay:Int) (H:Hp):mk1 g [(.agg [(.sl ac),(.int .i64 ag)]),(.int .i64 ay)] H=g ac ag ay H:=rfl
def cV.cs (F:Nat) (lu:KN):Cs:=[(58,mk0 lu)]
theorem cV.eqX (lu:KN) (ac:Sl) (ag:Int) (ay:Int) (H:Hp):EX (aS (cV.cs F lu)) aK lh0 F Try.f11 [(.agg [(.sl ac),(.int .i64 ag)]),(.int .i64 ay)] H=cV.twX F lu ac ag ay H:=by kernel_rfl
theorem cV.k:Ok Try.prog 11 (mk1 (cV.tw F)):=by
 intro args H v H' h
 unfold mk1 at h
 split at h
 ·exact okT (TB:=aK) Try.func11 (aQ (dJ.k F) bB) af.no ((cV.eqX F (dJ.tw F) _ _ _ H).trans h) (by kernel_rfl)
 ·cases h
def dD.twX (F:Nat) (ac:Int) (ag:Int) (bm:Int) (bo:Int) (bf:Int) (H:Hp):OA:=(Hp.new H [(.int .i64 ac),(.int .i64 ag),(.int .i64 bm),(.int .i64 bo),(.int .i64 bf)]).bind λH6=>(Hp.new H6 [.int .i64 0,.int .i64 0,.int .i64 0,.int .i64 0,.int .i64 0]).bind λH7=>(Hp.new H7 [.int .i64 0,.int .i64 0,.int .i64 0,.int .i64 0,.int .i64 0]).bind λH8=>(Hp.ldI H8 .i64 H.length 0).bind λn9=>(Hp.st H8 H7.length 0 (.int .i64 n9)).bind λH10=>(Hp.ldI H10 .i64 H.length 1).bind λn11=>(Hp.st H10 H7.length 1 (.int .i64 n11)).bind λH12=>(Hp.ldI H12 .i64 H.length 2).bind λn13=>(Hp.st H12 H7.length 2 (.int .i64 n13)).bind λH14=>(Hp.ldI H14 .i64 H.length 3).bind λn15=>(Hp.st H14 H7.length 3 (.int .i64 n15)).bind λH16=>(Hp.ldI H16 .i64 H.length 4).bind λn17=>(Hp.st H16 H7.length 4 (.int .i64 n17)).bind λH18=>(Hp.ldI H18 .i64 H7.length 0).bind λn19=>(Hp.ldI H18 .i64 H7.length (0+1)).bind λn20=>(Hp.ldI H18 .i64 H7.length (0+2)).bind λn21=>(Hp.ldI H18 .i64 H7.length (0+3)).bind λn22=>(Hp.ldI H18 .i64 H7.length (0+4)).bind λn23=>(Hp.st H18 H6.length 0 (.int .i64 n19)).bind λH24=>(Hp.st H24 H6.length (0+1) (.int .i64 n20)).bind λH25=>(Hp.st H25 H6.length (0+1+1) (.int .i64 n21)).bind λH26=>(Hp.st H26 H6.length (0+1+1+1) (.int .i64 n22)).bind λH27=>(Hp.st H27 H6.length (0+1+1+1+1) (.int .i64 n23)).bind λH28=>(Hp.ldI H28 .i64 H6.length 0).bind λn29=>(Hp.ldI H28 .i64 H6.length (0+1)).bind λn30=>(Hp.ldI H28 .i64 H6.length (0+2)).bind λn31=>(Hp.ldI H28 .i64 H6.length (0+3)).bind λn32=>(Hp.ldI H28 .i64 H6.length (0+4)).bind λn33=>some ((.agg [(.int .i64 n29),(.int .i64 n30),(.int .i64 n31),(.int .i64 n32),(.int .i64 n33)]),H28)
def dD.tw:=dD.twX F
def mk2 (g:KX) (args:KW) (H:Hp):OA:=match args with
 | [(.agg [(.int .i64 ac),(.int .i64 ag),(.int .i64 bm),(.int .i64 bo),(.int .i64 bf)])]=>g ac ag bm bo bf H
 | _=>none
theorem mk2_E (g:KX) (ac:Int) (ag:Int) (bm:Int) (bo:Int) (bf:Int) (H:Hp):mk2 g [(.agg [(.int .i64 ac),(.int .i64 ag),(.int .i64 bm),(.int .i64 bo),(.int .i64 bf)])] H=g ac ag bm bo bf H:=rfl
theorem dD.k:Ok Try.prog 127 (mk2 (dD.tw F)):=by
 intro args H v H' h
 unfold mk2 at h
 split at h
 ·exact ok0 Try.func127 (Eq.trans (by kernel_rfl) h) (by kernel_rfl) (by kernel_rfl)
 ·cases h
def bu.l29 (F:Nat) (el:KX) :Nat->Sl->Sl->Int->Hp->OA
 | 0,_,_,_,_=>none
 | c_+1,aZ,eZ,da,H7=>(bif (decide (da<(aZ.n:Int))) then ((Sl.idx aZ da 5).bind λp32=>(Hp.ldI H7 .i64 p32.1 p32.2).bind λn33=>(Hp.ldI H7 .i64 p32.1 (p32.2+1)).bind λn34=>(Hp.ldI H7 .i64 p32.1 (p32.2+2)).bind λn35=>(Hp.ldI H7 .i64 p32.1 (p32.2+3)).bind λn36=>(Hp.ldI H7 .i64 p32.1 (p32.2+4)).bind λn37=>(el n33 n34 n35 n36 n37 H7).bind λr38=>((r38.1).asAgg 5).bind λl39=>(l39[0]?).bind λv40=>((v40).asI .i64).bind λn41=>(l39[1]?).bind λv42=>((v42).asI .i64).bind λn43=>(l39[2]?).bind λv44=>((v44).asI .i64).bind λn45=>(l39[3]?).bind λv46=>((v46).asI .i64).bind λn47=>(l39[4]?).bind λv48=>((v48).asI .i64).bind λn49=>(Sl.idx eZ da 5).bind λp50=>(Hp.st r38.2 p50.1 p50.2 (.int .i64 n41)).bind λH51=>(Hp.st H51 p50.1 (p50.2+1) (.int .i64 n43)).bind λH52=>(Hp.st H52 p50.1 (p50.2+1+1) (.int .i64 n45)).bind λH53=>(Hp.st H53 p50.1 (p50.2+1+1+1) (.int .i64 n47)).bind λH54=>(Hp.st H54 p50.1 (p50.2+1+1+1+1) (.int .i64 n49)).bind λH55=>bu.l29 F el c_ aZ eZ (wrap .i64 (da+1)) H55) else (some ((.sl eZ),H7)))
def bu.twX (el:KX) (ac:Sl) (H:Hp):OA:=(Hp.mk H [.int .i64 0,.int .i64 0,.int .i64 0,.int .i64 0,.int .i64 0] 40 (ac.n:Int) (ac.n:Int)).bind λm2=>bu.l29 F el F ac m2.1 0 m2.2
def bu.tw:=bu.twX F (dD.tw F)
def bu.lh29 (el:KX) (ks:KQ) (n:Nat) (tm:Tm) (H:Hp):OA:=match ks,tm 0,tm 3,tm 4 with
 | [],(.sl aZ),(.sl eZ),(.int .i64 da)=>bu.l29 F el n aZ eZ da H
 | _,_,_,_=>none
def bu.lh (el:KX) (p:Nat) (ks:KQ) (n:Nat) (tm:Tm) (H:Hp):OA:=bif p.beq 29 then bu.lh29 F el ks n tm H else (none)
def mk3 (g:KP) (args:KW) (H:Hp):OA:=match args with
 | [(.sl ac)]=>g ac H
 | _=>none
theorem mk3_E (g:KP) (ac:Sl) (H:Hp):mk3 g [(.sl ac)] H=g ac H:=rfl
def bu.cs (F:Nat) (el:KX):Cs:=[(127,mk2 el)]
theorem bu.loops (el:KX):LO (aS (bu.cs F el)) aK (bu.lh F el) F Try.f62:=
 (af.rt (af.rt (af.lt (af.rt (af.block (af.la (λn tm H r h=>by change bu.lh29 F el [] n tm H=_ at h;unfold bu.lh29 at h;split at h;have e:bM tm [(0,_),(3,_),(4,_)]:=⟨‹_›,‹_›,‹_›,trivial⟩;obtain _ | k29:=n;cases h;exact ⟨_,rfl,by rw [<- bP e];exact Eq.trans (by kernel_rfl) h⟩;cases h) λk29=>af.no))))))
theorem bu.eqX (el:KX) (ac:Sl) (H:Hp):EX (aS (bu.cs F el)) aK (bu.lh F el) F Try.f62 [(.sl ac)] H=bu.twX F el ac H:=by kernel_rfl
theorem bu.k:Ok Try.prog 62 (mk3 (bu.tw F)):=by
 intro args H v H' h
 unfold mk3 at h
 split at h
 ·exact okT (TB:=aK) Try.func62 (aQ (dD.k F) bB) (bu.loops F (dD.tw F)) ((bu.eqX F (dD.tw F) _ H).trans h) (by kernel_rfl)
 ·cases h
def cv.twX (F:Nat) (lx:KP) (ac:Sl) (ag:Int) (H:Hp):OA:=(Hp.new H [(.sl ac),(.int .i64 ag)]).bind λH3=>(Hp.new H3 [.sl ⟨none,0,.ex 0⟩,.int .i64 0]).bind λH4=>(Hp.new H4 [.sl ⟨none,0,.ex 0⟩,.int .i64 0]).bind λH5=>(Hp.ldSl H5 H.length 0).bind λs6=>(lx s6 H5).bind λr7=>((r7.1).asSl).bind λs8=>(Hp.st r7.2 H4.length 0 (.sl s8)).bind λH9=>(Hp.ldI H9 .i64 H.length 1).bind λn10=>(Hp.st H9 H4.length 1 (.int .i64 n10)).bind λH11=>(Hp.ldSl H11 H4.length 0).bind λs12=>(Hp.ldI H11 .i64 H4.length (0+1)).bind λn13=>(Hp.st H11 H3.length 0 (.sl s12)).bind λH14=>(Hp.st H14 H3.length (0+1) (.int .i64 n13)).bind λH15=>(Hp.ldSl H15 H3.length 0).bind λs16=>(Hp.ldI H15 .i64 H3.length (0+1)).bind λn17=>some ((.agg [(.sl s16),(.int .i64 n17)]),H15)
def cv.tw:=cv.twX F (bu.tw F)
def mk4 (g:KN) (args:KW) (H:Hp):OA:=match args with
 | [(.agg [(.sl ac),(.int .i64 ag)])]=>g ac ag H
 | _=>none
theorem mk4_E (g:KN) (ac:Sl) (ag:Int) (H:Hp):mk4 g [(.agg [(.sl ac),(.int .i64 ag)])] H=g ac ag H:=rfl
def cv.cs (F:Nat) (lx:KP):Cs:=[(62,mk3 lx)]
theorem cv.eqX (lx:KP) (ac:Sl) (ag:Int) (H:Hp):EX (aS (cv.cs F lx)) aK lh0 F Try.f13 [(.agg [(.sl ac),(.int .i64 ag)])] H=cv.twX F lx ac ag H:=by kernel_rfl
theorem cv.k:Ok Try.prog 13 (mk4 (cv.tw F)):=by
 intro args H v H' h
 unfold mk4 at h
 split at h
 ·exact okT (TB:=aK) Try.func13 (aQ (bu.k F) bB) af.no ((cv.eqX F (bu.tw F) _ _ H).trans h) (by kernel_rfl)
 ·cases h
def cP.twX (F:Nat) (ac:Int) (ar:Int) (cA:Int) (H:Hp):OA:=(bif (decide (ac>=ar)) then (some ((.bool (decide (ac<=cA))),H)) else (some ((.bool false),H)))
def cP.tw:=cP.twX F
def mk5 (g:KY) (args:KW) (H:Hp):OA:=match args with
 | [(.int .i64 ac),(.int .i64 ar),(.int .i64 cA)]=>g ac ar cA H
 | _=>none
theorem mk5_E (g:KY) (ac:Int) (ar:Int) (cA:Int) (H:Hp):mk5 g [(.int .i64 ac),(.int .i64 ar),(.int .i64 cA)] H=g ac ar cA H:=rfl
theorem cP.k:Ok Try.prog 106 (mk5 (cP.tw F)):=by
 intro args H v H' h
 unfold mk5 at h
 split at h
 ·exact ok0 Try.func106 (Eq.trans (by kernel_rfl) h) (by kernel_rfl) (by kernel_rfl)
 ·cases h
def bW.twX (F:Nat) (ac:Int) (ag:Int) (bm:Int) (bo:Int) (bf:Int) (bG:Int) (H:Hp):OA:=(Hp.new H [(.int .i64 ac),(.int .i64 ag),(.int .i64 bm),(.int .i64 bo),(.int .i64 bf)]).bind λH7=>(Hp.ldI H7 .i64 H.length 0).bind λn8=>(Hp.ldI H7 .i64 H.length 1).bind λn9=>(Hp.ldI H7 .i64 H.length 2).bind λn10=>(Hp.ldI H7 .i64 H.length 3).bind λn11=>(Hp.new H7 [(.int .i64 n8),(.int .i64 n9),(.int .i64 n10),(.int .i64 n11)]).bind λH12=>(Sl.idx (⟨some (H7.length,0),4,.ex 4⟩:Sl) bG 1).bind λp13=>(Hp.ldI H12 .i64 p13.1 p13.2).bind λn14=>some ((.int .i64 n14),H12)
def bW.tw:=bW.twX F
def mk6 (g:KR) (args:KW) (H:Hp):OA:=match args with
 | [(.agg [(.int .i64 ac),(.int .i64 ag),(.int .i64 bm),(.int .i64 bo),(.int .i64 bf)]),(.int .i64 bG)]=>g ac ag bm bo bf bG H
 | _=>none
theorem mk6_E (g:KR) (ac:Int) (ag:Int) (bm:Int) (bo:Int) (bf:Int) (bG:Int) (H:Hp):mk6 g [(.agg [(.int .i64 ac),(.int .i64 ag),(.int .i64 bm),(.int .i64 bo),(.int .i64 bf)]),(.int .i64 bG)] H=g ac ag bm bo bf bG H:=rfl
theorem bW.k:Ok Try.prog 163 (mk6 (bW.tw F)):=by
 intro args H v H' h
 unfold mk6 at h
 split at h
 ·exact ok0 Try.func163 (Eq.trans (by kernel_rfl) h) (by kernel_rfl) (by kernel_rfl)
 ·cases h
def bX.twX (F:Nat) (ac:Int) (ag:Int) (bm:Int) (bo:Int) (bf:Int) (bG:Int) (H:Hp):OA:=(Hp.new H [(.int .i64 ac),(.int .i64 ag),(.int .i64 bm),(.int .i64 bo),(.int .i64 bf)]).bind λH7=>(bif (bG==0) then (some ((.bool true),H7)) else ((bif (bG==3) then ((Hp.ldI H7 .i64 H.length 4).bind λn8=>(bif (n8==1) then (some ((.bool true),H7)) else ((bif (bG==1) then ((Hp.ldI H7 .i64 H.length 4).bind λn9=>some ((.bool (n9==(-1))),H7)) else (some ((.bool false),H7)))))) else ((bif (bG==1) then ((Hp.ldI H7 .i64 H.length 4).bind λn10=>some ((.bool (n10==(-1))),H7)) else (some ((.bool false),H7)))))))
def bX.tw:=bX.twX F
theorem bX.k:Ok Try.prog 164 (mk6 (bX.tw F)):=by
 intro args H v H' h
 unfold mk6 at h
 split at h
 ·exact ok0 Try.func164 (Eq.trans (by kernel_rfl) h) (by kernel_rfl) (by kernel_rfl)
 ·cases h
def aE.l3927 (F:Nat) (aX:KR) (b_:KY) (aY:KR) (C61_:LF):Nat->Nat->Nat->Int->Sl->Sl->Int->Nat->Nat->Int->Hp->OA
 | 0,_,_,_,_,_,_,_,_,_,_=>none
 | yV+1,iA,nL,fd,jO,jP,eo,er,fG,eM,H126=>(bif (decide (eM<4)) then ((Hp.ldI H126 .i64 er fG).bind λn151=>(Hp.ldI H126 .i64 er (fG+1)).bind λn152=>(Hp.ldI H126 .i64 er (fG+2)).bind λn153=>(Hp.ldI H126 .i64 er (fG+3)).bind λn154=>(Hp.ldI H126 .i64 er (fG+4)).bind λn155=>(aX n151 n152 n153 n154 n155 eM H126).bind λr156=>((r156.1).asI .i64).bind λn157=>(b_ n157 0 (wrap .i64 (fd - 1)) r156.2).bind λr158=>((r158.1).asB).bind λb159=>(bif (!b159) then (some ((.bool false),r158.2)) else ((Hp.ldI r158.2 .i64 er fG).bind λn160=>(Hp.ldI r158.2 .i64 er (fG+1)).bind λn161=>(Hp.ldI r158.2 .i64 er (fG+2)).bind λn162=>(Hp.ldI r158.2 .i64 er (fG+3)).bind λn163=>(Hp.ldI r158.2 .i64 er (fG+4)).bind λn164=>(aY n160 n161 n162 n163 n164 eM r158.2).bind λr165=>((r165.1).asB).bind λb166=>(bif b166 then ((Sl.idx jO n157 1).bind λp167=>(Hp.ldB r165.2 p167.1 p167.2).bind λb168=>(bif b168 then (some ((.bool false),r165.2)) else ((Sl.idx jO n157 1).bind λp169=>(Hp.st r165.2 p169.1 p169.2 (.bool true)).bind λH170=>aE.l3927 F aX b_ aY C61_ yV iA nL fd jO jP eo er fG (wrap .i64 (eM+1)) H170))) else ((Sl.idx jP n157 1).bind λp171=>(Hp.ldB r165.2 p171.1 p171.2).bind λb172=>(bif b172 then (some ((.bool false),r165.2)) else ((Sl.idx jP n157 1).bind λp173=>(Hp.st r165.2 p173.1 p173.2 (.bool true)).bind λH174=>aE.l3927 F aX b_ aY C61_ yV iA nL fd jO jP eo er fG (wrap .i64 (eM+1)) H174))))))) else (C61_ iA nL fd jO jP (wrap .i64 (eo+1)) H126))
termination_by structural n=>n
def aE.l61 (F:Nat) (aX:KR) (b_:KY) (aY:KR) :Nat->Nat->Nat->Int->Sl->Sl->Int->Hp->OA
 | 0,_,_,_,_,_,_,_=>none
 | cf+1,dR,gD,eN,gE,dx,fe,H16=>(Hp.ldSl H16 dR gD).bind λs96=>(bif (decide (fe<(s96.n:Int))) then ((Hp.ldSl H16 dR gD).bind λs97=>(Sl.idx s97 fe 5).bind λp98=>(Hp.ldI H16 .i64 p98.1 p98.2).bind λn99=>(Hp.ldI H16 .i64 p98.1 (p98.2+1)).bind λn100=>(Hp.ldI H16 .i64 p98.1 (p98.2+2)).bind λn101=>(Hp.ldI H16 .i64 p98.1 (p98.2+3)).bind λn102=>(Hp.ldI H16 .i64 p98.1 (p98.2+4)).bind λn103=>(Hp.new H16 [.int .i64 0,.int .i64 0,.int .i64 0,.int .i64 0,.int .i64 0]).bind λH104=>(Hp.st H104 H16.length 0 (.int .i64 n99)).bind λH105=>(Hp.st H105 H16.length (0+1) (.int .i64 n100)).bind λH106=>(Hp.st H106 H16.length (0+1+1) (.int .i64 n101)).bind λH107=>(Hp.st H107 H16.length (0+1+1+1) (.int .i64 n102)).bind λH108=>(Hp.st H108 H16.length (0+1+1+1+1) (.int .i64 n103)).bind λH109=>(Hp.ldI H109 .i64 H16.length 4).bind λn110=>(bif (n110 != 1) then ((Hp.ldI H109 .i64 H16.length 4).bind λn111=>(bif (n111 != (-1)) then (some ((.bool false),H109)) else (aE.l3927 F aX b_ aY (aE.l61 F aX b_ aY cf) F dR gD eN gE dx fe H16.length 0 0 H109))) else (aE.l3927 F aX b_ aY (aE.l61 F aX b_ aY cf) F dR gD eN gE dx fe H16.length 0 0 H109))) else (some ((.bool true),H16)))
termination_by structural n=>n
def aE.twX (aX:KR) (b_:KY) (aY:KR) (ac:Sl) (ag:Int) (H:Hp):OA:=(Hp.new H [(.sl ac),(.int .i64 ag)]).bind λH3=>(Hp.ldSl H3 H.length 0).bind λs4=>(Hp.mk H3 [.bool false] 1 (wrap .i64 (2 * (s4.n:Int))) (wrap .i64 (2 * (s4.n:Int)))).bind λm5=>(Hp.mk m5.2 [.bool false] 1 (wrap .i64 (2 * (s4.n:Int))) (wrap .i64 (2 * (s4.n:Int)))).bind λm6=>aE.l61 F aX b_ aY F H.length 0 (wrap .i64 (2 * (s4.n:Int))) m5.1 m6.1 0 m6.2
def aE.tw:=aE.twX F (bW.tw F) (cP.tw F) (bX.tw F)
def aE.lh61 (aX:KR) (b_:KY) (aY:KR) (ks:KQ) (n:Nat) (tm:Tm) (H:Hp):OA:=match ks,tm 1,tm 3,tm 4,tm 5,tm 6 with
 | [],(.ptr dR gD),(.int .i64 eN),(.sl gE),(.sl dx),(.int .i64 fe)=>aE.l61 F aX b_ aY n dR gD eN gE dx fe H
 | _,_,_,_,_,_=>none
def aE.lh3927 (aX:KR) (b_:KY) (aY:KR) (ks:KQ) (n:Nat) (tm:Tm) (H:Hp):OA:=match ks,tm 1,tm 3,tm 4,tm 5,tm 6,tm 7,tm 8 with
 | [cf],(.ptr iA nL),(.int .i64 fd),(.sl jO),(.sl jP),(.int .i64 eo),(.ptr er fG),(.int .i64 eM)=>aE.l3927 F aX b_ aY (aE.l61 F aX b_ aY cf) n iA nL fd jO jP eo er fG eM H
 | _,_,_,_,_,_,_,_=>none
def aE.lh (aX:KR) (b_:KY) (aY:KR) (p:Nat) (ks:KQ) (n:Nat) (tm:Tm) (H:Hp):OA:=bif p.beq 3927 then aE.lh3927 F aX b_ aY ks n tm H else (bif p.beq 61 then aE.lh61 F aX b_ aY ks n tm H else (none))
def aE.tb:Nat->List (List Nat):=cN [(2,[[],[0],[],[2],[0,1],[0,1,2,3,4]])]
def aE.cs (F:Nat) (aX:KR) (b_:KY) (aY:KR):Cs:=[(163,mk6 aX),(106,mk5 b_),(164,mk6 aY)]
theorem aE.loops (aX:KR) (b_:KY) (aY:KR):LO (aS (aE.cs F aX b_ aY)) aK (aE.lh F aX b_ aY) F Try.f107:=
 (af.rt (af.rt (af.rt (af.lt (af.rt (af.block (af.la (λn tm H r h=>by change aE.lh61 F aX b_ aY [] n tm H=_ at h;unfold aE.lh61 at h;split at h;have e:bM tm [(1,_),(3,_),(4,_),(5,_),(6,_)]:=⟨‹_›,‹_›,‹_›,‹_›,‹_›,trivial⟩;obtain _ | k61:=n;cases h;exact ⟨_,rfl,by rw [<- bP e];exact Eq.trans (by kernel_rfl) h⟩;cases h) λk61=>(af.rt (af.lt (af.block (af.rt (af.rt (af.rt (af.block (af.la (λn tm H r h=>by change aE.lh3927 F aX b_ aY [k61] n tm H=_ at h;unfold aE.lh3927 at h;split at h;have e:bM tm [(1,_),(3,_),(4,_),(5,_),(6,_),(7,_),(8,_)]:=⟨‹_›,‹_›,‹_›,‹_›,‹_›,‹_›,‹_›,trivial⟩;cases (show [k61]=_ from ‹_›);obtain _ | k3927:=n;cases h;exact ⟨_,rfl,by rw [<- bP e];exact Eq.trans (by kernel_rfl) h⟩;cases h) λk3927=>af.no)))))))))))))))
theorem aE.eqX (aX:KR) (b_:KY) (aY:KR) (ac:Sl) (ag:Int) (H:Hp):EX (aS (aE.cs F aX b_ aY)) aK (aE.lh F aX b_ aY) F Try.f107 [(.agg [(.sl ac),(.int .i64 ag)])] H=aE.twX F aX b_ aY ac ag H:=by kernel_rfl
theorem aE.k:Ok Try.prog 107 (mk4 (aE.tw F)):=by
 intro args H v H' h
 unfold mk4 at h
 split at h
 ·exact okT (TB:=aE.tb) Try.func107 (aQ (bW.k F) (aQ (cP.k F) (aQ (bX.k F) bB))) (aE.loops F (bW.tw F) (cP.tw F) (bX.tw F)) ((aE.eqX F (bW.tw F) (cP.tw F) (bX.tw F) _ _ H).trans h) (by kernel_rfl)
 ·cases h
def aw.j3 (F:Nat) (aX:KR) (aY:KR) (C13_:Lr) (ja:Int) (ly:Bool) (lz:Nat) (Eb:Nat) (lA:Int) (H147:Hp):OA:=C13_ ja ly lz Eb (wrap .i64 (lA+1)) H147
def aw.j4 (aX:KR) (aY:KR) (C13_:Lr) (lC:Int) (lD:Bool) (pX:Nat) (Ec:Nat) (lE:Int) (H134:Hp):OA:=aw.j3 F aX aY C13_ lC lD pX Ec lE H134
def aw.l213 (F:Nat) (aX:KR) (aY:KR) (C13_:Lr):Nat->Int->Bool->Nat->Nat->Int->Int->Hp->OA
 | 0,_,_,_,_,_,_,_=>none
 | yW+1,ff,fg,gF,jQ,dS,dU,H103=>(bif (decide (dU<4)) then ((Hp.ldSl H103 gF jQ).bind λs148=>(Sl.idx s148 dS 5).bind λp149=>(Hp.ldI H103 .i64 p149.1 p149.2).bind λn150=>(Hp.ldI H103 .i64 p149.1 (p149.2+1)).bind λn151=>(Hp.ldI H103 .i64 p149.1 (p149.2+2)).bind λn152=>(Hp.ldI H103 .i64 p149.1 (p149.2+3)).bind λn153=>(Hp.ldI H103 .i64 p149.1 (p149.2+4)).bind λn154=>(aX n150 n151 n152 n153 n154 dU H103).bind λr155=>((r155.1).asI .i64).bind λn156=>(bif (n156==ff) then ((Hp.ldSl r155.2 gF jQ).bind λs157=>(Sl.idx s157 dS 5).bind λp158=>(Hp.ldI r155.2 .i64 p158.1 p158.2).bind λn159=>(Hp.ldI r155.2 .i64 p158.1 (p158.2+1)).bind λn160=>(Hp.ldI r155.2 .i64 p158.1 (p158.2+2)).bind λn161=>(Hp.ldI r155.2 .i64 p158.1 (p158.2+3)).bind λn162=>(Hp.ldI r155.2 .i64 p158.1 (p158.2+4)).bind λn163=>(aY n159 n160 n161 n162 n163 dU r155.2).bind λr164=>((r164.1).asB).bind λb165=>(bif (b165==fg) then (some ((.tup [(.int .i64 dS),(.int .i64 dU)]),r164.2)) else (aw.l213 F aX aY C13_ yW ff fg gF jQ dS (wrap .i64 (dU+1)) r164.2))) else (aw.l213 F aX aY C13_ yW ff fg gF jQ dS (wrap .i64 (dU+1)) r155.2))) else (aw.j4 F aX aY C13_ ff fg gF jQ dS H103))
termination_by structural n=>n
def aw.l13 (F:Nat) (aX:KR) (aY:KR) :Nat->Int->Bool->Nat->Nat->Int->Hp->OA
 | 0,_,_,_,_,_,_=>none
 | fh+1,dE,iB,fN,es,gG,H15=>(Hp.ldSl H15 fN es).bind λs91=>(bif (decide (gG<(s91.n:Int))) then (aw.l213 F aX aY (aw.l13 F aX aY fh) F dE iB fN es gG 0 H15) else (some ((.tup [(.int .i64 (-1)),(.int .i64 (-1))]),H15)))
termination_by structural n=>n
def aw.twX (aX:KR) (aY:KR) (ac:Sl) (ag:Int) (ay:Int) (fH:Bool) (H:Hp):OA:=(Hp.new H [(.sl ac),(.int .i64 ag)]).bind λH5=>aw.l13 F aX aY F ay fH H.length 0 0 H5
def aw.tw:=aw.twX F (bW.tw F) (bX.tw F)
def aw.lh13 (aX:KR) (aY:KR) (ks:KQ) (n:Nat) (tm:Tm) (H:Hp):OA:=match ks,tm 1,tm 2,tm 3,tm 8 with
 | [],(.int .i64 dE),(.bool iB),(.ptr fN es),(.int .i64 gG)=>aw.l13 F aX aY n dE iB fN es gG H
 | _,_,_,_,_=>none
def aw.lh213 (aX:KR) (aY:KR) (ks:KQ) (n:Nat) (tm:Tm) (H:Hp):OA:=match ks,tm 1,tm 2,tm 3,tm 8,tm 9 with
 | [fh],(.int .i64 ff),(.bool fg),(.ptr gF jQ),(.int .i64 dS),(.int .i64 dU)=>aw.l213 F aX aY (aw.l13 F aX aY fh) n ff fg gF jQ dS dU H
 | _,_,_,_,_,_=>none
def aw.lh (aX:KR) (aY:KR) (p:Nat) (ks:KQ) (n:Nat) (tm:Tm) (H:Hp):OA:=bif p.beq 213 then aw.lh213 F aX aY ks n tm H else (bif p.beq 13 then aw.lh13 F aX aY ks n tm H else (none))
def mk7 (g:KZ) (args:KW) (H:Hp):OA:=match args with
 | [(.agg [(.sl ac),(.int .i64 ag)]),(.int .i64 ay),(.bool fH)]=>g ac ag ay fH H
 | _=>none
theorem mk7_E (g:KZ) (ac:Sl) (ag:Int) (ay:Int) (fH:Bool) (H:Hp):mk7 g [(.agg [(.sl ac),(.int .i64 ag)]),(.int .i64 ay),(.bool fH)] H=g ac ag ay fH H:=rfl
def aw.cs (F:Nat) (aX:KR) (aY:KR):Cs:=[(163,mk6 aX),(164,mk6 aY)]
theorem aw.loops (aX:KR) (aY:KR):LO (aS (aw.cs F aX aY)) aK (aw.lh F aX aY) F Try.f198:=
 (af.rt (af.lt (af.rt (af.block (af.la (λn tm H r h=>by change aw.lh13 F aX aY [] n tm H=_ at h;unfold aw.lh13 at h;split at h;have e:bM tm [(1,_),(2,_),(3,_),(8,_)]:=⟨‹_›,‹_›,‹_›,‹_›,trivial⟩;obtain _ | k13:=n;cases h;exact ⟨_,rfl,by rw [<- bP e];exact Eq.trans (by kernel_rfl) h⟩;cases h) λk13=>(af.rt (af.lt (af.block (af.rt (af.block (af.la (λn tm H r h=>by change aw.lh213 F aX aY [k13] n tm H=_ at h;unfold aw.lh213 at h;split at h;have e:bM tm [(1,_),(2,_),(3,_),(8,_),(9,_)]:=⟨‹_›,‹_›,‹_›,‹_›,‹_›,trivial⟩;cases (show [k13]=_ from ‹_›);obtain _ | k213:=n;cases h;exact ⟨_,rfl,by rw [<- bP e];exact Eq.trans (by kernel_rfl) h⟩;cases h) λk213=>af.no)))))))))))
theorem aw.eqX (aX:KR) (aY:KR) (ac:Sl) (ag:Int) (ay:Int) (fH:Bool) (H:Hp):EX (aS (aw.cs F aX aY)) aK (aw.lh F aX aY) F Try.f198 [(.agg [(.sl ac),(.int .i64 ag)]),(.int .i64 ay),(.bool fH)] H=aw.twX F aX aY ac ag ay fH H:=by kernel_rfl
theorem aw.k:Ok Try.prog 198 (mk7 (aw.tw F)):=by
 intro args H v H' h
 unfold mk7 at h
 split at h
 ·exact okT (TB:=aK) Try.func198 (aQ (bW.k F) (aQ (bX.k F) bB)) (aw.loops F (bW.tw F) (bX.tw F)) ((aw.eqX F (bW.tw F) (bX.tw F) _ _ _ _ H).trans h) (by kernel_rfl)
 ·cases h
def cg.twX (F:Nat) (aX:KR) (aY:KR) (bw:KZ) (ac:Sl) (ag:Int) (ay:Int) (H:Hp):OA:=(Hp.new H [(.sl ac),(.int .i64 ag)]).bind λH4=>(Hp.ldSl H4 H.length 0).bind λs5=>(Sl.idx s5 (wrap .i64 (Int.tdiv ay 4)) 5).bind λp6=>(Hp.ldI H4 .i64 p6.1 p6.2).bind λn7=>(Hp.ldI H4 .i64 p6.1 (p6.2+1)).bind λn8=>(Hp.ldI H4 .i64 p6.1 (p6.2+2)).bind λn9=>(Hp.ldI H4 .i64 p6.1 (p6.2+3)).bind λn10=>(Hp.ldI H4 .i64 p6.1 (p6.2+4)).bind λn11=>(Hp.new H4 [.int .i64 0,.int .i64 0,.int .i64 0,.int .i64 0,.int .i64 0]).bind λH12=>(Hp.st H12 H4.length 0 (.int .i64 n7)).bind λH13=>(Hp.st H13 H4.length (0+1) (.int .i64 n8)).bind λH14=>(Hp.st H14 H4.length (0+1+1) (.int .i64 n9)).bind λH15=>(Hp.st H15 H4.length (0+1+1+1) (.int .i64 n10)).bind λH16=>(Hp.st H16 H4.length (0+1+1+1+1) (.int .i64 n11)).bind λH17=>(Hp.ldSl H17 H.length 0).bind λs18=>(Hp.ldI H17 .i64 H.length (0+1)).bind λn19=>(Hp.ldI H17 .i64 H4.length 0).bind λn20=>(Hp.ldI H17 .i64 H4.length (0+1)).bind λn21=>(Hp.ldI H17 .i64 H4.length (0+2)).bind λn22=>(Hp.ldI H17 .i64 H4.length (0+3)).bind λn23=>(Hp.ldI H17 .i64 H4.length (0+4)).bind λn24=>(aX n20 n21 n22 n23 n24 (Int.tmod (wrap .i64 ((Int.tmod ay 4)+1)) 4) H17).bind λr25=>((r25.1).asI .i64).bind λn26=>(if aH H17 r25.2 then ((Hp.ldI r25.2 .i64 H4.length 0).bind λn27=>(Hp.ldI r25.2 .i64 H4.length (0+1)).bind λn28=>(Hp.ldI r25.2 .i64 H4.length (0+2)).bind λn29=>(Hp.ldI r25.2 .i64 H4.length (0+3)).bind λn30=>(Hp.ldI r25.2 .i64 H4.length (0+4)).bind λn31=>(aY n27 n28 n29 n30 n31 (Int.tmod (wrap .i64 ((Int.tmod ay 4)+1)) 4) r25.2).bind λr32=>((r32.1).asB).bind λb33=>(if aH r25.2 r32.2 then ((bw s18 n19 n26 (!b33) r32.2).bind λr34=>((r34.1).asTup 2).bind λl35=>(l35[0]?).bind λv36=>((v36).asI .i64).bind λn37=>(l35[1]?).bind λv38=>((v38).asI .i64).bind λn39=>some ((.int .i64 (wrap .i64 ((wrap .i64 (4 * n37))+n39))),r34.2)) else none)) else none)
def cg.tw:=cg.twX F (bW.tw F) (bX.tw F) (aw.tw F)
def cg.pn:Nat->List Nat:=cN [(3,[8])]
def cg.tb:Nat->List (List Nat):=cN [(3,[[],[],[],[1,2],[],[],[1,2,3,4,5],[1,2,3,4,5,6],[0,1,2,3,4,5,6,7],[0,1,2,3,4,5,6,7,8],[0,1,2,3,4,5,6,7,8,9],[0,1,2,3,4,5,6,7,8,9],[0,1,2,3,4,5,6,7,8,9,10],[0,1,2,3,4,5,6,7,8,9,10,11,12]])]
def cg.cs (F:Nat) (aX:KR) (aY:KR) (bw:KZ):Cs:=[(163,mk6 aX),(164,mk6 aY),(198,mk7 bw)]
theorem cg.eqX (aX:KR) (aY:KR) (bw:KZ) (ac:Sl) (ag:Int) (ay:Int) (H:Hp):EX (aS (cg.cs F aX aY bw)) cg.pn lh0 F Try.f165 [(.agg [(.sl ac),(.int .i64 ag)]),(.int .i64 ay)] H=cg.twX F aX aY bw ac ag ay H:=by kernel_rfl
theorem cg.k:Ok Try.prog 165 (mk1 (cg.tw F)):=by
 intro args H v H' h
 unfold mk1 at h
 split at h
 ·exact okT (TB:=cg.tb) Try.func165 (aQ (bW.k F) (aQ (bX.k F) (aQ (aw.k F) bB))) af.no ((cg.eqX F (bW.tw F) (bX.tw F) (aw.tw F) _ _ _ H).trans h) (by kernel_rfl)
 ·cases h
def az.j4 (F:Nat) (cn:KU) (C61_:Lg) (iC:Nat) (sW:Nat) (sX:Sl) (sY:Sl) (lF:Int) (H108:Hp):OA:=C61_ iC sW sX sY (wrap .i64 (lF+1)) H108
def az.j5 (F:Nat) (cn:KU) (C61_:Lg) (pY:Nat) (Ed:Nat) (Ee:Sl) (Ef:Sl) (lG:Int) (H164:Hp):OA:=C61_ pY Ed Ee Ef (wrap .i64 (lG+1)) H164
def az.j6 (cn:KU) (C61_:Lg) (pZ:Nat) (ja:Nat) (lz:Sl) (Eg:Sl) (lH:Int) (Eh:Sl) (H147:Hp):OA:=(Hp.new H147 [(.sl Eh)]).bind λH148=>(Sl.row H148 (⟨some (H147.length,0),1,.ex 1⟩:Sl) 1).bind λxs150=>(Hp.app H148 1 24 lz (⟨some (H147.length,0),1,.ex 1⟩:Sl).n xs150).bind λa149=>az.j5 F cn C61_ pZ ja a149.1 Eg lH a149.2
def az.l7853 (F:Nat) (cn:KU) (C61_:Lg):Nat->Nat->Nat->Sl->Sl->Int->Sl->Int->Hp->OA
 | 0,_,_,_,_,_,_,_,_=>none
 | Ei+1,ig,lJ,p_,lK,gH,eo,eO,H122=>(Sl.idx lK eO 1).bind λp165=>(Hp.ldB H122 p165.1 p165.2).bind λb166=>(bif (!b166) then ((Sl.idx lK eO 1).bind λp167=>(Hp.st H122 p167.1 p167.2 (.bool true)).bind λH168=>(Hp.new H168 [(.int .i64 eO)]).bind λH169=>(Sl.row H169 (⟨some (H168.length,0),1,.ex 1⟩:Sl) 1).bind λxs171=>(Hp.app H169 1 8 eo (⟨some (H168.length,0),1,.ex 1⟩:Sl).n xs171).bind λa170=>(Hp.ldSl a170.2 ig lJ).bind λs172=>(Hp.ldI a170.2 .i64 ig (lJ+1)).bind λn173=>(cn s172 n173 eO a170.2).bind λr174=>((r174.1).asI .i64).bind λn175=>az.l7853 F cn C61_ Ei ig lJ p_ lK gH a170.1 n175 r174.2) else (az.j6 F cn C61_ ig lJ p_ lK gH eo H122))
termination_by structural n=>n
def az.l61 (F:Nat) (cn:KU) :Nat->Nat->Nat->Sl->Sl->Int->Hp->OA
 | 0,_,_,_,_,_,_=>none
 | cf+1,dR,gD,eN,gE,dx,H15=>(bif (decide (dx<(gE.n:Int))) then ((Sl.idx gE dx 1).bind λp96=>(Hp.ldB H15 p96.1 p96.2).bind λb97=>(bif b97 then (az.j4 F cn (az.l61 F cn cf) dR gD eN gE dx H15) else ((Hp.new H15 []).bind λH109=>az.l7853 F cn (az.l61 F cn cf) F dR gD eN gE dx (⟨some (H15.length,0),0,.ex 0⟩:Sl) dx H109))) else (some ((.sl eN),H15)))
termination_by structural n=>n
def az.twX (cn:KU) (ac:Sl) (ag:Int) (H:Hp):OA:=(Hp.new H [(.sl ac),(.int .i64 ag)]).bind λH3=>(Hp.new H3 []).bind λH4=>(Hp.ldSl H4 H.length 0).bind λs5=>(Hp.mk H4 [.bool false] 1 (wrap .i64 (4 * (s5.n:Int))) (wrap .i64 (4 * (s5.n:Int)))).bind λm6=>az.l61 F cn F H.length 0 (⟨some (H3.length,0),0,.ex 0⟩:Sl) m6.1 0 m6.2
def az.tw:=az.twX F (cg.tw F)
def az.lh61 (cn:KU) (ks:KQ) (n:Nat) (tm:Tm) (H:Hp):OA:=match ks,tm 1,tm 3,tm 4,tm 5 with
 | [],(.ptr dR gD),(.sl eN),(.sl gE),(.int .i64 dx)=>az.l61 F cn n dR gD eN gE dx H
 | _,_,_,_,_=>none
def az.lh7853 (cn:KU) (ks:KQ) (n:Nat) (tm:Tm) (H:Hp):OA:=match ks,tm 1,tm 3,tm 4,tm 5,tm 6,tm 7 with
 | [cf],(.ptr ig lJ),(.sl p_),(.sl lK),(.int .i64 gH),(.sl eo),(.int .i64 eO)=>az.l7853 F cn (az.l61 F cn cf) n ig lJ p_ lK gH eo eO H
 | _,_,_,_,_,_,_=>none
def az.lh (cn:KU) (p:Nat) (ks:KQ) (n:Nat) (tm:Tm) (H:Hp):OA:=bif p.beq 7853 then az.lh7853 F cn ks n tm H else (bif p.beq 61 then az.lh61 F cn ks n tm H else (none))
def az.cs (F:Nat) (cn:KU):Cs:=[(165,mk1 cn)]
theorem az.loops (cn:KU):LO (aS (az.cs F cn)) aK (az.lh F cn) F Try.f108:=
 (af.rt (af.rt (af.rt (af.lt (af.rt (af.block (af.la (λn tm H r h=>by change az.lh61 F cn [] n tm H=_ at h;unfold az.lh61 at h;split at h;have e:bM tm [(1,_),(3,_),(4,_),(5,_)]:=⟨‹_›,‹_›,‹_›,‹_›,trivial⟩;obtain _ | k61:=n;cases h;exact ⟨_,rfl,by rw [<- bP e];exact Eq.trans (by kernel_rfl) h⟩;cases h) λk61=>(af.rt (af.lt (af.block (af.rt (af.rt (af.lt (af.rt (af.block (af.la (λn tm H r h=>by change az.lh7853 F cn [k61] n tm H=_ at h;unfold az.lh7853 at h;split at h;have e:bM tm [(1,_),(3,_),(4,_),(5,_),(6,_),(7,_)]:=⟨‹_›,‹_›,‹_›,‹_›,‹_›,‹_›,trivial⟩;cases (show [k61]=_ from ‹_›);obtain _ | k7853:=n;cases h;exact ⟨_,rfl,by rw [<- bP e];exact Eq.trans (by kernel_rfl) h⟩;cases h) λk7853=>af.no))))))))))))))))
theorem az.eqX (cn:KU) (ac:Sl) (ag:Int) (H:Hp):EX (aS (az.cs F cn)) aK (az.lh F cn) F Try.f108 [(.agg [(.sl ac),(.int .i64 ag)])] H=az.twX F cn ac ag H:=by kernel_rfl
theorem az.k:Ok Try.prog 108 (mk4 (az.tw F)):=by
 intro args H v H' h
 unfold mk4 at h
 split at h
 ·exact okT (TB:=aK) Try.func108 (aQ (cg.k F) bB) (az.loops F (cg.tw F)) ((az.eqX F (cg.tw F) _ _ H).trans h) (by kernel_rfl)
 ·cases h
def aq.j6 (F:Nat) (bw:KZ) (C61_:Lc) (qd:Nat) (Ej:Nat) (Ek:Sl) (lL:Int) (H243:Hp):OA:=C61_ qd Ej Ek (wrap .i64 (lL+1)) H243
def aq.j7 (bw:KZ) (C61_:Lc) (qe:Nat) (El:Nat) (lM:Sl) (jb:Int) (H226:Hp):OA:=aq.j6 F bw C61_ qe El lM jb H226
def aq.j8 (F:Nat) (bw:KZ) (C7855_:Lu) (qf:Nat) (Em:Nat) (En:Sl) (lN:Int) (lO:Int) (lP:Int) (lQ:Int) (H265:Hp):OA:=C7855_ qf Em En lN lO lP (wrap .i64 (lQ+1)) H265
def aq.l7855 (F:Nat) (bw:KZ) (C61_:Lc):Nat->Nat->Nat->Sl->Int->Int->Int->Int->Hp->OA
 | 0,_,_,_,_,_,_,_,_=>none
 | yX+1,iD,nO,jc,fO,dV,dW,eP,H187=>(bif (decide (eP<(jc.n:Int))) then ((Sl.idx jc eP 1).bind λp244=>(Hp.ldI H187 .i64 p244.1 p244.2).bind λn245=>(bif (n245==(if dW>dV then dW else dV)) then ((Sl.idx jc eP 1).bind λp246=>(Hp.st H187 p246.1 p246.2 (.int .i64 (if dW<dV then dW else dV))).bind λH247=>aq.j8 F bw (aq.l7855 F bw C61_ yX) iD nO jc fO dV dW eP H247) else (aq.j8 F bw (aq.l7855 F bw C61_ yX) iD nO jc fO dV dW eP H187))) else (aq.j7 F bw C61_ iD nO jc fO H187))
termination_by structural n=>n
def aq.l61 (F:Nat) (bw:KZ) :Nat->Nat->Nat->Sl->Int->Hp->OA
 | 0,_,_,_,_,_=>none
 | cf+1,gk,jd,lR,fi,H35=>(Hp.ldSl H35 gk jd).bind λs151=>(bif (decide (fi<(wrap .i64 (2 * (s151.n:Int))))) then ((Hp.ldSl H35 gk jd).bind λs152=>(Hp.ldI H35 .i64 gk (jd+1)).bind λn153=>(bw s152 n153 fi true H35).bind λr154=>((r154.1).asTup 2).bind λl155=>(l155[0]?).bind λv156=>((v156).asI .i64).bind λn157=>(l155[1]?).bind λv158=>((v158).asI .i64).bind λn159=>(Hp.ldSl r154.2 gk jd).bind λs160=>(Hp.ldI r154.2 .i64 gk (jd+1)).bind λn161=>(bw s160 n161 fi false r154.2).bind λr162=>((r162.1).asTup 2).bind λl163=>(l163[0]?).bind λv164=>((v164).asI .i64).bind λn165=>(l163[1]?).bind λv166=>((v166).asI .i64).bind λn167=>(Sl.idx lR n157 1).bind λp168=>(Hp.ldI r162.2 .i64 p168.1 p168.2).bind λn169=>(Sl.idx lR n165 1).bind λp170=>(Hp.ldI r162.2 .i64 p170.1 p170.2).bind λn171=>aq.l7855 F bw (aq.l61 F bw cf) F gk jd lR fi n169 n171 0 r162.2) else (some ((.sl lR),H35)))
termination_by structural n=>n
def aq.j9 (bw:KZ) (qg:Nat) (lT:Nat) (Er:Sl) (H25:Hp):OA:=aq.l61 F bw F qg lT Er 0 H25
def aq.l29 (F:Nat) (bw:KZ) :Nat->Nat->Nat->Sl->Int->Hp->OA
 | 0,_,_,_,_,_=>none
 | c_+1,dX,dE,fN,dK,H12=>(Hp.ldSl H12 dX dE).bind λs266=>(bif (decide (dK<(s266.n:Int))) then ((Hp.new H12 [(.int .i64 dK)]).bind λH267=>(Sl.row H267 (⟨some (H12.length,0),1,.ex 1⟩:Sl) 1).bind λxs269=>(Hp.app H267 1 8 fN (⟨some (H12.length,0),1,.ex 1⟩:Sl).n xs269).bind λa268=>aq.l29 F bw c_ dX dE a268.1 (wrap .i64 (dK+1)) a268.2) else (aq.j9 F bw dX dE fN H12))
termination_by structural n=>n
def aq.twX (bw:KZ) (ac:Sl) (ag:Int) (H:Hp):OA:=(Hp.new H [(.sl ac),(.int .i64 ag)]).bind λH3=>(Hp.new H3 []).bind λH4=>aq.l29 F bw F H.length 0 (⟨some (H3.length,0),0,.ex 0⟩:Sl) 0 H4
def aq.tw:=aq.twX F (aw.tw F)
def aq.lh29 (bw:KZ) (ks:KQ) (n:Nat) (tm:Tm) (H:Hp):OA:=match ks,tm 1,tm 3,tm 4 with
 | [],(.ptr dX dE),(.sl fN),(.int .i64 dK)=>aq.l29 F bw n dX dE fN dK H
 | _,_,_,_=>none
def aq.lh61 (bw:KZ) (ks:KQ) (n:Nat) (tm:Tm) (H:Hp):OA:=match ks,tm 1,tm 3,tm 5 with
 | [],(.ptr gk jd),(.sl lR),(.int .i64 fi)=>aq.l61 F bw n gk jd lR fi H
 | _,_,_,_=>none
def aq.lh7855 (bw:KZ) (ks:KQ) (n:Nat) (tm:Tm) (H:Hp):OA:=match ks,tm 1,tm 3,tm 5,tm 10,tm 11,tm 12 with
 | [cf],(.ptr iD nO),(.sl jc),(.int .i64 fO),(.int .i64 dV),(.int .i64 dW),(.int .i64 eP)=>aq.l7855 F bw (aq.l61 F bw cf) n iD nO jc fO dV dW eP H
 | _,_,_,_,_,_,_=>none
def aq.lh (bw:KZ) (p:Nat) (ks:KQ) (n:Nat) (tm:Tm) (H:Hp):OA:=bif p.beq 7855 then aq.lh7855 F bw ks n tm H else (bif p.beq 61 then aq.lh61 F bw ks n tm H else (bif p.beq 29 then aq.lh29 F bw ks n tm H else (none)))
def aq.tb:Nat->List (List Nat):=cN [(11,[[],[],[0,1],[0,1,2],[],[],[4,5],[4,5,6],[0,1,2,3],[0,1,2,3,4,5,6,7,8]])]
def aq.cs (F:Nat) (bw:KZ):Cs:=[(198,mk7 bw)]
theorem aq.loops (bw:KZ):LO (aS (aq.cs F bw)) aK (aq.lh F bw) F Try.f166:=
 (af.rt (af.rt (af.seq (af.rt (af.block (af.la (λn tm H r h=>by change aq.lh29 F bw [] n tm H=_ at h;unfold aq.lh29 at h;split at h;have e:bM tm [(1,_),(3,_),(4,_)]:=⟨‹_›,‹_›,‹_›,trivial⟩;obtain _ | k29:=n;cases h;exact ⟨_,rfl,by rw [<- bP e];exact Eq.trans (by kernel_rfl) h⟩;cases h) λk29=>af.no))) (af.lt (af.rt (af.block (af.la (λn tm H r h=>by change aq.lh61 F bw [] n tm H=_ at h;unfold aq.lh61 at h;split at h;have e:bM tm [(1,_),(3,_),(5,_)]:=⟨‹_›,‹_›,‹_›,trivial⟩;obtain _ | k61:=n;cases h;exact ⟨_,rfl,by rw [<- bP e];exact Eq.trans (by kernel_rfl) h⟩;cases h) λk61=>(af.rt (af.lt (af.block (af.rt (af.rt (af.rt (af.rt (af.block (af.la (λn tm H r h=>by change aq.lh7855 F bw [k61] n tm H=_ at h;unfold aq.lh7855 at h;split at h;have e:bM tm [(1,_),(3,_),(5,_),(10,_),(11,_),(12,_)]:=⟨‹_›,‹_›,‹_›,‹_›,‹_›,‹_›,trivial⟩;cases (show [k61]=_ from ‹_›);obtain _ | k7855:=n;cases h;exact ⟨_,rfl,by rw [<- bP e];exact Eq.trans (by kernel_rfl) h⟩;cases h) λk7855=>af.no))))))))))))))))
theorem aq.eqX (bw:KZ) (ac:Sl) (ag:Int) (H:Hp):EX (aS (aq.cs F bw)) aK (aq.lh F bw) F Try.f166 [(.agg [(.sl ac),(.int .i64 ag)])] H=aq.twX F bw ac ag H:=by kernel_rfl
theorem aq.k:Ok Try.prog 166 (mk4 (aq.tw F)):=by
 intro args H v H' h
 unfold mk4 at h
 split at h
 ·exact okT (TB:=aq.tb) Try.func166 (aQ (aw.k F) bB) (aq.loops F (aw.tw F)) ((aq.eqX F (aw.tw F) _ _ H).trans h) (by kernel_rfl)
 ·cases h
def aU.j2 (F:Nat) (dy:KN) (C61_:Li) (lU:Int) (Es:Sl) (lV:Int) (H42:Hp):OA:=C61_ lU Es (wrap .i64 (lV+1)) H42
def aU.l61 (F:Nat) (dy:KN) :Nat->Int->Sl->Int->Hp->OA
 | 0,_,_,_,_=>none
 | cf+1,fP,lW,eQ,H16=>(bif (decide (eQ<(lW.n:Int))) then ((Sl.idx lW eQ 1).bind λp30=>(Hp.ldI H16 .i64 p30.1 p30.2).bind λn31=>(bif (n31==eQ) then (aU.j2 F dy (aU.l61 F dy cf) (wrap .i64 (fP+1)) lW eQ H16) else (aU.j2 F dy (aU.l61 F dy cf) fP lW eQ H16))) else (some ((.int .i64 fP),H16)))
def aU.twX (dy:KN) (ac:Sl) (ag:Int) (H:Hp):OA:=(Hp.new H [(.sl ac),(.int .i64 ag)]).bind λH3=>(Hp.ldSl H3 H.length 0).bind λs4=>(Hp.ldI H3 .i64 H.length (0+1)).bind λn5=>(dy s4 n5 H3).bind λr6=>((r6.1).asSl).bind λs7=>aU.l61 F dy F 0 s7 0 r6.2
def aU.tw:=aU.twX F (aq.tw F)
def aU.lh61 (dy:KN) (ks:KQ) (n:Nat) (tm:Tm) (H:Hp):OA:=match ks,tm 3,tm 4,tm 5 with
 | [],(.int .i64 fP),(.sl lW),(.int .i64 eQ)=>aU.l61 F dy n fP lW eQ H
 | _,_,_,_=>none
def aU.lh (dy:KN) (p:Nat) (ks:KQ) (n:Nat) (tm:Tm) (H:Hp):OA:=bif p.beq 61 then aU.lh61 F dy ks n tm H else (none)
def aU.cs (F:Nat) (dy:KN):Cs:=[(166,mk4 dy)]
theorem aU.loops (dy:KN):LO (aS (aU.cs F dy)) aK (aU.lh F dy) F Try.f109:=
 (af.rt (af.rt (af.rt (af.lt (af.rt (af.block (af.la (λn tm H r h=>by change aU.lh61 F dy [] n tm H=_ at h;unfold aU.lh61 at h;split at h;have e:bM tm [(3,_),(4,_),(5,_)]:=⟨‹_›,‹_›,‹_›,trivial⟩;obtain _ | k61:=n;cases h;exact ⟨_,rfl,by rw [<- bP e];exact Eq.trans (by kernel_rfl) h⟩;cases h) λk61=>af.no)))))))
theorem aU.eqX (dy:KN) (ac:Sl) (ag:Int) (H:Hp):EX (aS (aU.cs F dy)) aK (aU.lh F dy) F Try.f109 [(.agg [(.sl ac),(.int .i64 ag)])] H=aU.twX F dy ac ag H:=by kernel_rfl
theorem aU.k:Ok Try.prog 109 (mk4 (aU.tw F)):=by
 intro args H v H' h
 unfold mk4 at h
 split at h
 ·exact okT (TB:=aK) Try.func109 (aQ (aq.k F) bB) (aU.loops F (aq.tw F)) ((aU.eqX F (aq.tw F) _ _ H).trans h) (by kernel_rfl)
 ·cases h
def cu.twX (F:Nat) (b_:KY) (lX:KN) (lY:KN) (lZ:KN) (ac:Sl) (ag:Int) (H:Hp):OA:=(Hp.new H [(.sl ac),(.int .i64 ag)]).bind λH3=>(Hp.ldSl H3 H.length 0).bind λs4=>(bif (decide ((s4.n:Int)>10)) then (some ((.bool false),H3)) else ((Hp.ldI H3 .i64 H.length 1).bind λn5=>(b_ n5 0 8 H3).bind λr6=>((r6.1).asB).bind λb7=>(bif (!b7) then (some ((.bool false),r6.2)) else ((Hp.ldSl r6.2 H.length 0).bind λs8=>(Hp.ldI r6.2 .i64 H.length (0+1)).bind λn9=>(lX s8 n9 r6.2).bind λr10=>((r10.1).asB).bind λb11=>(bif (!b11) then (some ((.bool false),r10.2)) else ((Hp.ldSl r10.2 H.length 0).bind λs12=>(Hp.ldI r10.2 .i64 H.length (0+1)).bind λn13=>(lY s12 n13 r10.2).bind λr14=>((r14.1).asSl).bind λs15=>(if aH r10.2 r14.2 then ((Hp.ldSl r14.2 H.length 0).bind λs16=>(Hp.ldSl r14.2 H.length 0).bind λs17=>(Hp.ldI r14.2 .i64 H.length (0+1)).bind λn18=>(lZ s17 n18 r14.2).bind λr19=>((r19.1).asI .i64).bind λn20=>(if aH r14.2 r19.2 then (some ((.bool ((s15.n:Int)==(wrap .i64 ((s16.n:Int)+(wrap .i64 (2 * n20)))))),r19.2)) else none)) else none)))))))
def cu.tw:=cu.twX F (cP.tw F) (aE.tw F) (az.tw F) (aU.tw F)
def cu.tb:Nat->List (List Nat):=cN [(3,[[],[0],[0,1],[],[3],[3,4],[],[0,1,6],[0,1,6,7],[0,1,3,4,5,6,7,8],[0,1,2,3,4,5,6,7,8,9],[0,1,2,3,4,5,6,7,8,9,10]])]
def cu.cs (F:Nat) (b_:KY) (lX:KN) (lY:KN) (lZ:KN):Cs:=[(106,mk5 b_),(107,mk4 lX),(108,mk4 lY),(109,mk4 lZ)]
theorem cu.eqX (b_:KY) (lX:KN) (lY:KN) (lZ:KN) (ac:Sl) (ag:Int) (H:Hp):EX (aS (cu.cs F b_ lX lY lZ)) aK lh0 F Try.f47 [(.agg [(.sl ac),(.int .i64 ag)])] H=cu.twX F b_ lX lY lZ ac ag H:=by kernel_rfl
theorem cu.k:Ok Try.prog 47 (mk4 (cu.tw F)):=by
 intro args H v H' h
 unfold mk4 at h
 split at h
 ·exact okT (TB:=cu.tb) Try.func47 (aQ (cP.k F) (aQ (aE.k F) (aQ (az.k F) (aQ (aU.k F) bB)))) af.no ((cu.eqX F (cP.tw F) (aE.tw F) (az.tw F) (aU.tw F) _ _ H).trans h) (by kernel_rfl)
 ·cases h
def ai.j6 (F:Nat) (qh:Nat) (Et:Nat) (Eu:Sl) (l_:Int) (H211:Hp):OA:=(Hp.ldI H211 .i64 qh (Et+1)).bind λn212=>some ((.tup [(.sl Eu),(.int .i64 (wrap .i64 (l_+n212)))]),H211)
def ai.j7 (F:Nat) (C509_:Lx) (qi:Nat) (Ev:Nat) (Ew:Sl) (Ex:Sl) (ma:Int) (mb:Int) (H234:Hp):OA:=C509_ qi Ev Ew Ex ma (wrap .i64 (mb+1)) H234
def ai.l509 (F:Nat) :Nat->Nat->Nat->Sl->Sl->Int->Int->Hp->OA
 | 0,_,_,_,_,_,_,_=>none
 | yY+1,iE,nP,jR,mc,eR,dY,H166=>(bif (decide (dY<(jR.n:Int))) then ((Sl.idx jR dY 1).bind λp213=>(Hp.ldI H166 .i64 p213.1 p213.2).bind λn214=>(bif (n214==dY) then ((Hp.new H166 [(.int .i64 eR)]).bind λH215=>(Sl.row H215 (⟨some (H166.length,0),1,.ex 1⟩:Sl) 1).bind λxs217=>(Hp.app H215 1 8 mc (⟨some (H166.length,0),1,.ex 1⟩:Sl).n xs217).bind λa216=>ai.j7 F (ai.l509 F yY) iE nP jR a216.1 (wrap .i64 (eR+1)) dY a216.2) else ((Sl.idx jR dY 1).bind λp235=>(Hp.ldI H166 .i64 p235.1 p235.2).bind λn236=>(Sl.idx mc n236 1).bind λp237=>(Hp.ldI H166 .i64 p237.1 p237.2).bind λn238=>(Hp.new H166 [(.int .i64 n238)]).bind λH239=>(Sl.row H239 (⟨some (H166.length,0),1,.ex 1⟩:Sl) 1).bind λxs241=>(Hp.app H239 1 8 mc (⟨some (H166.length,0),1,.ex 1⟩:Sl).n xs241).bind λa240=>ai.j7 F (ai.l509 F yY) iE nP jR a240.1 eR dY a240.2))) else (ai.j6 F iE nP mc eR H166))
termination_by structural n=>n
def ai.j8 (qj:Nat) (Ey:Nat) (Ez:Sl) (H150:Hp):OA:=(Hp.new H150 []).bind λH151=>ai.l509 F F qj Ey Ez (⟨some (H150.length,0),0,.ex 0⟩:Sl) 0 0 H151
def ai.j10 (F:Nat) (C61_:Lc) (qk:Nat) (EA:Nat) (EB:Sl) (md:Int) (H320:Hp):OA:=C61_ qk EA EB (wrap .i64 (md+1)) H320
def ai.j11 (C61_:Lc) (ql:Nat) (EC:Nat) (ED:Sl) (mf:Int) (H304:Hp):OA:=ai.j10 F C61_ ql EC ED mf H304
def ai.j12 (F:Nat) (C1963_:Lu) (qn:Nat) (EE:Nat) (EF:Sl) (mg:Int) (mh:Int) (mi:Int) (mj:Int) (H341:Hp):OA:=C1963_ qn EE EF mg mh mi (wrap .i64 (mj+1)) H341
def ai.l1963 (F:Nat) (C61_:Lc):Nat->Nat->Nat->Sl->Int->Int->Int->Int->Hp->OA
 | 0,_,_,_,_,_,_,_,_=>none
 | yZ+1,iF,nQ,je,fQ,dZ,d_,eS,H267=>(bif (decide (eS<(je.n:Int))) then ((Sl.idx je eS 1).bind λp321=>(Hp.ldI H267 .i64 p321.1 p321.2).bind λn322=>(bif (n322==(if d_>dZ then d_ else dZ)) then ((Sl.idx je eS 1).bind λp323=>(Hp.st H267 p323.1 p323.2 (.int .i64 (if d_<dZ then d_ else dZ))).bind λH324=>ai.j12 F (ai.l1963 F C61_ yZ) iF nQ je fQ dZ d_ eS H324) else (ai.j12 F (ai.l1963 F C61_ yZ) iF nQ je fQ dZ d_ eS H267))) else (ai.j11 F C61_ iF nQ je fQ H267))
termination_by structural n=>n
def ai.l61 (F:Nat) :Nat->Nat->Nat->Sl->Int->Hp->OA
 | 0,_,_,_,_,_=>none
 | cf+1,gI,jS,ml,bR,H38=>(Hp.ldSl H38 gI jS).bind λs242=>(bif (decide (bR<(s242.n:Int))) then ((Hp.ldSl H38 gI jS).bind λs243=>(Sl.idx s243 bR 5).bind λp244=>(Hp.ldI H38 .i64 p244.1 (p244.2+1)).bind λn245=>(Sl.idx ml n245 1).bind λp246=>(Hp.ldI H38 .i64 p246.1 p246.2).bind λn247=>(Hp.ldSl H38 gI jS).bind λs248=>(Sl.idx s248 bR 5).bind λp249=>(Hp.ldI H38 .i64 p249.1 (p249.2+3)).bind λn250=>(Sl.idx ml n250 1).bind λp251=>(Hp.ldI H38 .i64 p251.1 p251.2).bind λn252=>ai.l1963 F (ai.l61 F cf) F gI jS ml bR n247 n252 0 H38) else (ai.j8 F gI jS ml H38))
termination_by structural n=>n
def ai.j13 (lT:Nat) (EG:Nat) (EH:Sl) (H27:Hp):OA:=ai.l61 F F lT EG EH 0 H27
def ai.l29 (F:Nat) :Nat->Nat->Nat->Sl->Int->Hp->OA
 | 0,_,_,_,_,_=>none
 | c_+1,dX,dE,dK,fj,H13=>(Hp.ldSl H13 dX dE).bind λs342=>(bif (decide (fj<(wrap .i64 (2 * (s342.n:Int))))) then ((Hp.new H13 [(.int .i64 fj)]).bind λH343=>(Sl.row H343 (⟨some (H13.length,0),1,.ex 1⟩:Sl) 1).bind λxs345=>(Hp.app H343 1 8 dK (⟨some (H13.length,0),1,.ex 1⟩:Sl).n xs345).bind λa344=>ai.l29 F c_ dX dE a344.1 (wrap .i64 (fj+1)) a344.2) else (ai.j13 F dX dE dK H13))
termination_by structural n=>n
def ai.twX (ac:Sl) (ag:Int) (H:Hp):OA:=(Hp.new H [(.sl ac),(.int .i64 ag)]).bind λH3=>(Hp.new H3 []).bind λH4=>ai.l29 F F H.length 0 (⟨some (H3.length,0),0,.ex 0⟩:Sl) 0 H4
def ai.tw:=ai.twX F
def ai.lh29 (ks:KQ) (n:Nat) (tm:Tm) (H:Hp):OA:=match ks,tm 1,tm 4,tm 5 with
 | [],(.ptr dX dE),(.sl dK),(.int .i64 fj)=>ai.l29 F n dX dE dK fj H
 | _,_,_,_=>none
def ai.lh61 (ks:KQ) (n:Nat) (tm:Tm) (H:Hp):OA:=match ks,tm 1,tm 4,tm 6 with
 | [],(.ptr gI jS),(.sl ml),(.int .i64 bR)=>ai.l61 F n gI jS ml bR H
 | _,_,_,_=>none
def ai.lh509 (ks:KQ) (n:Nat) (tm:Tm) (H:Hp):OA:=match ks,tm 1,tm 4,tm 10,tm 11,tm 12 with
 | [],(.ptr iE nP),(.sl jR),(.sl mc),(.int .i64 eR),(.int .i64 dY)=>ai.l509 F n iE nP jR mc eR dY H
 | _,_,_,_,_,_=>none
def ai.lh1963 (ks:KQ) (n:Nat) (tm:Tm) (H:Hp):OA:=match ks,tm 1,tm 4,tm 6,tm 7,tm 8,tm 9 with
 | [cf],(.ptr iF nQ),(.sl je),(.int .i64 fQ),(.int .i64 dZ),(.int .i64 d_),(.int .i64 eS)=>ai.l1963 F (ai.l61 F cf) n iF nQ je fQ dZ d_ eS H
 | _,_,_,_,_,_,_=>none
def ai.lh (p:Nat) (ks:KQ) (n:Nat) (tm:Tm) (H:Hp):OA:=bif p.beq 1963 then ai.lh1963 F ks n tm H else (bif p.beq 509 then ai.lh509 F ks n tm H else (bif p.beq 61 then ai.lh61 F ks n tm H else (bif p.beq 29 then ai.lh29 F ks n tm H else (none))))
def ai.tb:Nat->List (List Nat):=cN [(9,[[],[],[1],[],[1,2,3],[1,2,3,4],[1,2,3,4,5],[0,1,2,3,4,5,6],[0,1,2,3,4,5,6,7],[],[],[10],[],[10,11,12],[10,11,12,13],[10,11,12,13,14],[9,10,11,12,13,14,15],[9,10,11,12,13,14,15,16],[0,1,2,3,4,5,6,7,8],[0,1,2,3,4,5,6,7,8,9,10,11,12,13,14,15,16,17,18]]),(24,[[],[],[],[2],[1,2,3],[0],[0,1,2,3,4,5]])]
theorem ai.loops:LO (aS []) aK (ai.lh F) F Try.f59:=
 (af.rt (af.rt (af.seq (af.rt (af.block (af.la (λn tm H r h=>by change ai.lh29 F [] n tm H=_ at h;unfold ai.lh29 at h;split at h;have e:bM tm [(1,_),(4,_),(5,_)]:=⟨‹_›,‹_›,‹_›,trivial⟩;obtain _ | k29:=n;cases h;exact ⟨_,rfl,by rw [<- bP e];exact Eq.trans (by kernel_rfl) h⟩;cases h) λk29=>af.no))) (af.seq (af.rt (af.block (af.la (λn tm H r h=>by change ai.lh61 F [] n tm H=_ at h;unfold ai.lh61 at h;split at h;have e:bM tm [(1,_),(4,_),(6,_)]:=⟨‹_›,‹_›,‹_›,trivial⟩;obtain _ | k61:=n;cases h;exact ⟨_,rfl,by rw [<- bP e];exact Eq.trans (by kernel_rfl) h⟩;cases h) λk61=>(af.rt (af.lt (af.block (af.rt (af.rt (af.block (af.la (λn tm H r h=>by change ai.lh1963 F [k61] n tm H=_ at h;unfold ai.lh1963 at h;split at h;have e:bM tm [(1,_),(4,_),(6,_),(7,_),(8,_),(9,_)]:=⟨‹_›,‹_›,‹_›,‹_›,‹_›,‹_›,trivial⟩;cases (show [k61]=_ from ‹_›);obtain _ | k1963:=n;cases h;exact ⟨_,rfl,by rw [<- bP e];exact Eq.trans (by kernel_rfl) h⟩;cases h) λk1963=>af.no)))))))))) (af.rt (af.rt (af.lt (af.rt (af.block (af.la (λn tm H r h=>by change ai.lh509 F [] n tm H=_ at h;unfold ai.lh509 at h;split at h;have e:bM tm [(1,_),(4,_),(10,_),(11,_),(12,_)]:=⟨‹_›,‹_›,‹_›,‹_›,‹_›,trivial⟩;obtain _ | k509:=n;cases h;exact ⟨_,rfl,by rw [<- bP e];exact Eq.trans (by kernel_rfl) h⟩;cases h) λk509=>af.no))))))))))
theorem ai.k:Ok Try.prog 59 (mk4 (ai.tw F)):=by
 intro args H v H' h
 unfold mk4 at h
 split at h
 ·exact okT (PN:=aK) (LH:=(ai.lh F)) (F:=F) (TB:=ai.tb) Try.func59 bB (ai.loops F) (Eq.trans (by kernel_rfl) h) (by kernel_rfl)
 ·cases h
def aR.j2 (F:Nat) (bN:KN) (C61_:Lg) (iC:Nat) (sW:Nat) (sX:Sl) (sY:Sl) (mm:Int) (H113:Hp):OA:=C61_ iC sW sX sY (wrap .i64 (mm+1)) H113
def aR.l61 (F:Nat) (bN:KN) :Nat->Nat->Nat->Sl->Sl->Int->Hp->OA
 | 0,_,_,_,_,_,_=>none
 | cf+1,ii,mn,gl,jT,fk,H21=>(Hp.ldSl H21 ii mn).bind λs70=>(bif (decide (fk<(s70.n:Int))) then ((Hp.ldSl H21 ii mn).bind λs71=>(Sl.idx s71 fk 5).bind λp72=>(Hp.ldI H21 .i64 p72.1 p72.2).bind λn73=>(Hp.ldI H21 .i64 p72.1 (p72.2+1)).bind λn74=>(Hp.ldI H21 .i64 p72.1 (p72.2+2)).bind λn75=>(Hp.ldI H21 .i64 p72.1 (p72.2+3)).bind λn76=>(Hp.ldI H21 .i64 p72.1 (p72.2+4)).bind λn77=>(Hp.new H21 [.int .i64 0,.int .i64 0,.int .i64 0,.int .i64 0,.int .i64 0]).bind λH78=>(Hp.st H78 H21.length 0 (.int .i64 n73)).bind λH79=>(Hp.st H79 H21.length (0+1) (.int .i64 n74)).bind λH80=>(Hp.st H80 H21.length (0+1+1) (.int .i64 n75)).bind λH81=>(Hp.st H81 H21.length (0+1+1+1) (.int .i64 n76)).bind λH82=>(Hp.st H82 H21.length (0+1+1+1+1) (.int .i64 n77)).bind λH83=>(Hp.ldI H83 .i64 H21.length 0).bind λn84=>(Sl.idx jT n84 1).bind λp85=>(Hp.ldI H83 .i64 p85.1 p85.2).bind λn86=>(Hp.ldI H83 .i64 H21.length 2).bind λn87=>(Sl.idx jT n87 1).bind λp88=>(Hp.ldI H83 .i64 p88.1 p88.2).bind λn89=>(Hp.ldI H83 .i64 H21.length 1).bind λn90=>(Sl.idx jT n90 1).bind λp91=>(Hp.ldI H83 .i64 p91.1 p91.2).bind λn92=>(Hp.ldI H83 .i64 H21.length 4).bind λn93=>(bif (n93==1) then ((Hp.new H83 [(.int .i64 (wrap .i64 (n89+1))),(.int .i64 (wrap .i64 (n92+1))),(.int .i64 (wrap .i64 (0 - (wrap .i64 (n86+1))))),(.int .i64 (wrap .i64 (0 - (wrap .i64 (n92+1)))))]).bind λH94=>(Hp.new H94 [(.sl (⟨some (H83.length,0),4,.ex 4⟩:Sl))]).bind λH95=>(Sl.row H95 (⟨some (H94.length,0),1,.ex 1⟩:Sl) 1).bind λxs97=>(Hp.app H95 1 24 gl (⟨some (H94.length,0),1,.ex 1⟩:Sl).n xs97).bind λa96=>aR.j2 F bN (aR.l61 F bN cf) ii mn a96.1 jT fk a96.2) else ((Hp.new H83 [(.int .i64 (wrap .i64 (n89+1))),(.int .i64 (wrap .i64 (0 - (wrap .i64 (n92+1))))),(.int .i64 (wrap .i64 (0 - (wrap .i64 (n86+1))))),(.int .i64 (wrap .i64 (n92+1)))]).bind λH114=>(Hp.new H114 [(.sl (⟨some (H83.length,0),4,.ex 4⟩:Sl))]).bind λH115=>(Sl.row H115 (⟨some (H114.length,0),1,.ex 1⟩:Sl) 1).bind λxs117=>(Hp.app H115 1 24 gl (⟨some (H114.length,0),1,.ex 1⟩:Sl).n xs117).bind λa116=>aR.j2 F bN (aR.l61 F bN cf) ii mn a116.1 jT fk a116.2))) else (some ((.sl gl),H21)))
termination_by structural n=>n
def aR.twX (bN:KN) (ac:Sl) (ag:Int) (H:Hp):OA:=(Hp.new H [(.sl ac),(.int .i64 ag)]).bind λH3=>(Hp.new H3 []).bind λH4=>(Hp.ldSl H4 H.length 0).bind λs5=>(Hp.ldI H4 .i64 H.length (0+1)).bind λn6=>(bN s5 n6 H4).bind λr7=>((r7.1).asTup 2).bind λl8=>(l8[0]?).bind λv9=>((v9).asSl).bind λs10=>(l8[1]?).bind λv11=>((v11).asI .i64).bind λn12=>aR.l61 F bN F H.length 0 (⟨some (H3.length,0),0,.ex 0⟩:Sl) s10 0 r7.2
def aR.tw:=aR.twX F (ai.tw F)
def aR.lh61 (bN:KN) (ks:KQ) (n:Nat) (tm:Tm) (H:Hp):OA:=match ks,tm 1,tm 3,tm 4,tm 6 with
 | [],(.ptr ii mn),(.sl gl),(.sl jT),(.int .i64 fk)=>aR.l61 F bN n ii mn gl jT fk H
 | _,_,_,_,_=>none
def aR.lh (bN:KN) (p:Nat) (ks:KQ) (n:Nat) (tm:Tm) (H:Hp):OA:=bif p.beq 61 then aR.lh61 F bN ks n tm H else (none)
def aR.tb:Nat->List (List Nat):=cN [(7,[[],[],[1],[0,1,2],[0,1,2,3],[0,1,2,3,4],[],[],[7],[6,7,8],[6,7,8,9],[6,7,8,9,10],[],[],[13],[12,13,14],[12,13,14,15],[12,13,14,15,16],[0,1,2,3,4,5],[0,1,2,3,4,5,6,7,8,9,10,11,18],[0,1,2,3,4,5,6,7,8,9,10,11,12,13,14,15,16,17,18,19]])]
def aR.cs (F:Nat) (bN:KN):Cs:=[(59,mk4 bN)]
theorem aR.loops (bN:KN):LO (aS (aR.cs F bN)) aK (aR.lh F bN) F Try.f60:=
 (af.rt (af.rt (af.rt (af.lt (af.rt (af.block (af.la (λn tm H r h=>by change aR.lh61 F bN [] n tm H=_ at h;unfold aR.lh61 at h;split at h;have e:bM tm [(1,_),(3,_),(4,_),(6,_)]:=⟨‹_›,‹_›,‹_›,‹_›,trivial⟩;obtain _ | k61:=n;cases h;exact ⟨_,rfl,by rw [<- bP e];exact Eq.trans (by kernel_rfl) h⟩;cases h) λk61=>af.no)))))))
theorem aR.eqX (bN:KN) (ac:Sl) (ag:Int) (H:Hp):EX (aS (aR.cs F bN)) aK (aR.lh F bN) F Try.f60 [(.agg [(.sl ac),(.int .i64 ag)])] H=aR.twX F bN ac ag H:=by kernel_rfl
theorem aR.k:Ok Try.prog 60 (mk4 (aR.tw F)):=by
 intro args H v H' h
 unfold mk4 at h
 split at h
 ·exact okT (TB:=aR.tb) Try.func60 (aQ (ai.k F) bB) (aR.loops F (ai.tw F)) ((aR.eqX F (ai.tw F) _ _ H).trans h) (by kernel_rfl)
 ·cases h
def bC.j2 (F:Nat) (C29_:Ly) (EI:Sl) (sZ:Sl) (EJ:Int) (H43:Hp):OA:=C29_ EI sZ (wrap .i64 (EJ+1)) H43
def bC.l29 (F:Nat) :Nat->Sl->Sl->Int->Hp->OA
 | 0,_,_,_,_=>none
 | c_+1,aZ,eZ,da,H7=>(bif (decide (da<(aZ.n:Int))) then ((bif (decide ((eZ.n:Int)>0)) then ((Sl.idx eZ (wrap .i64 ((eZ.n:Int) - 1)) 1).bind λp31=>(Hp.ldI H7 .i64 p31.1 p31.2).bind λn32=>(Sl.idx aZ da 1).bind λp33=>(Hp.ldI H7 .i64 p33.1 p33.2).bind λn34=>(bif (n32==(wrap .i64 (0 - n34))) then ((Sl.cut eZ 1 0 (wrap .i64 ((eZ.n:Int) - 1))).bind λs35=>bC.j2 F (bC.l29 F c_) aZ s35 da H7) else ((Sl.idx aZ da 1).bind λp44=>(Hp.ldI H7 .i64 p44.1 p44.2).bind λn45=>(Hp.new H7 [(.int .i64 n45)]).bind λH46=>(Sl.row H46 (⟨some (H7.length,0),1,.ex 1⟩:Sl) 1).bind λxs48=>(Hp.app H46 1 8 eZ (⟨some (H7.length,0),1,.ex 1⟩:Sl).n xs48).bind λa47=>bC.j2 F (bC.l29 F c_) aZ a47.1 da a47.2))) else ((Sl.idx aZ da 1).bind λp49=>(Hp.ldI H7 .i64 p49.1 p49.2).bind λn50=>(Hp.new H7 [(.int .i64 n50)]).bind λH51=>(Sl.row H51 (⟨some (H7.length,0),1,.ex 1⟩:Sl) 1).bind λxs53=>(Hp.app H51 1 8 eZ (⟨some (H7.length,0),1,.ex 1⟩:Sl).n xs53).bind λa52=>bC.l29 F c_ aZ a52.1 (wrap .i64 (da+1)) a52.2))) else (some ((.sl eZ),H7)))
def bC.twX (ac:Sl) (H:Hp):OA:=(Hp.new H []).bind λH2=>bC.l29 F F ac (⟨some (H.length,0),0,.ex 0⟩:Sl) 0 H2
def bC.tw:=bC.twX F
def bC.lh29 (ks:KQ) (n:Nat) (tm:Tm) (H:Hp):OA:=match ks,tm 0,tm 3,tm 4 with
 | [],(.sl aZ),(.sl eZ),(.int .i64 da)=>bC.l29 F n aZ eZ da H
 | _,_,_,_=>none
def bC.lh (p:Nat) (ks:KQ) (n:Nat) (tm:Tm) (H:Hp):OA:=bif p.beq 29 then bC.lh29 F ks n tm H else (none)
def bC.tb:Nat->List (List Nat):=cN [(6,[[],[0],[0,1],[0,1,2],[0,1,2],[0,1,2,4],[0,1,2,3,4,5],[0,1,2,3,4,5,6],[0,1,2],[0,1,2],[0,1,2,8,9],[0,1,2,8,9,10],[0,1,2,8,9,10,11],[0,1,2,3,4,5,6,7,8,9,10,11,12],[0,1,2,3,4,5,6,7,8,9,10,11,12,13]])]
theorem bC.loops:LO (aS []) aK (bC.lh F) F Try.f61:=
 (af.rt (af.rt (af.lt (af.rt (af.block (af.la (λn tm H r h=>by change bC.lh29 F [] n tm H=_ at h;unfold bC.lh29 at h;split at h;have e:bM tm [(0,_),(3,_),(4,_)]:=⟨‹_›,‹_›,‹_›,trivial⟩;obtain _ | k29:=n;cases h;exact ⟨_,rfl,by rw [<- bP e];exact Eq.trans (by kernel_rfl) h⟩;cases h) λk29=>af.no))))))
theorem bC.k:Ok Try.prog 61 (mk3 (bC.tw F)):=by
 intro args H v H' h
 unfold mk3 at h
 split at h
 ·exact okT (PN:=aK) (LH:=(bC.lh F)) (F:=F) (TB:=bC.tb) Try.func61 bB (bC.loops F) (Eq.trans (by kernel_rfl) h) (by kernel_rfl)
 ·cases h
def bg.l253 (F:Nat) (et:KN) (bN:KN) (eu:KN) (ev:KP) :Nat->Nat->Nat->Nat->Nat->Sl->Int->Hp->OA
 | 0,_,_,_,_,_,_,_=>none
 | EK+1,du,fl,bR,fm,nR,fR,H41=>(bif (decide (fR<(nR.n:Int))) then ((Hp.ldSl H41 bR (fm+1)).bind λs57=>(Sl.idx nR fR 1).bind λp58=>(Hp.ldSl H41 p58.1 p58.2).bind λs59=>(ev s59 H41).bind λr60=>((r60.1).asSl).bind λs61=>(if aH H41 r60.2 then ((Hp.new r60.2 [(.sl s61)]).bind λH62=>(Sl.row H62 (⟨some (r60.2.length,0),1,.ex 1⟩:Sl) 1).bind λxs64=>(Hp.app H62 1 24 s57 (⟨some (r60.2.length,0),1,.ex 1⟩:Sl).n xs64).bind λa63=>(Hp.st a63.2 bR (fm+1) (.sl a63.1)).bind λH65=>bg.l253 F et bN eu ev EK du fl bR fm nR (wrap .i64 (fR+1)) H65) else none)) else ((Hp.ldI H41 .i64 bR fm).bind λn66=>(Hp.ldSl H41 bR (fm+1)).bind λs67=>(Hp.st H41 du fl (.int .i64 n66)).bind λH68=>(Hp.st H68 du (fl+1) (.sl s67)).bind λH69=>(Hp.ldI H69 .i64 du fl).bind λn70=>(Hp.ldSl H69 du (fl+1)).bind λs71=>some ((.tup [(.agg [(.int .i64 n70),(.sl s71)]),(.int .i64 0)]),H69)))
termination_by structural n=>n
def bg.twX (et:KN) (bN:KN) (eu:KN) (ev:KP) (ac:Sl) (ag:Int) (H:Hp):OA:=(Hp.new H [(.sl ac),(.int .i64 ag)]).bind λH3=>(Hp.new H3 [.int .i64 0,.sl ⟨none,0,.ex 0⟩]).bind λH4=>(Hp.ldSl H4 H.length 0).bind λs5=>(Hp.ldI H4 .i64 H.length (0+1)).bind λn6=>(et s5 n6 H4).bind λr7=>((r7.1).asB).bind λb8=>(bif (!b8) then ((Hp.st r7.2 H3.length 0 (.int .i64 0)).bind λH9=>(Hp.st H9 H3.length (0+1) (.sl (⟨none,0,.ex 0⟩:Sl))).bind λH10=>(Hp.ldI H10 .i64 H3.length 0).bind λn11=>(Hp.ldSl H10 H3.length (0+1)).bind λs12=>some ((.tup [(.agg [(.int .i64 n11),(.sl s12)]),(.int .i64 1)]),H10)) else ((Hp.ldSl r7.2 H.length 0).bind λs13=>(Hp.ldI r7.2 .i64 H.length (0+1)).bind λn14=>(bN s13 n14 r7.2).bind λr15=>((r15.1).asTup 2).bind λl16=>(l16[0]?).bind λv17=>((v17).asSl).bind λs18=>(l16[1]?).bind λv19=>((v19).asI .i64).bind λn20=>(Hp.new r15.2 [.int .i64 0,.sl ⟨none,0,.ex 0⟩]).bind λH21=>(Hp.st H21 r15.2.length 0 (.int .i64 n20)).bind λH22=>(Hp.st H22 r15.2.length (0+1) (.sl (⟨none,0,.ex 0⟩:Sl))).bind λH23=>(Hp.ldSl H23 H.length 0).bind λs24=>(Hp.ldI H23 .i64 H.length (0+1)).bind λn25=>(eu s24 n25 H23).bind λr26=>((r26.1).asSl).bind λs27=>bg.l253 F et bN eu ev F H3.length 0 r15.2.length 0 s27 0 r26.2))
def bg.tw:=bg.twX F (cu.tw F) (ai.tw F) (aR.tw F) (bC.tw F)
def bg.lh253 (et:KN) (bN:KN) (eu:KN) (ev:KP) (ks:KQ) (n:Nat) (tm:Tm) (H:Hp):OA:=match ks,tm 2,tm 6,tm 7,tm 8 with
 | [],(.ptr du fl),(.ptr bR fm),(.sl nR),(.int .i64 fR)=>bg.l253 F et bN eu ev n du fl bR fm nR fR H
 | _,_,_,_,_=>none
def bg.lh (et:KN) (bN:KN) (eu:KN) (ev:KP) (p:Nat) (ks:KQ) (n:Nat) (tm:Tm) (H:Hp):OA:=bif p.beq 253 then bg.lh253 F et bN eu ev ks n tm H else (none)
def bg.pn:Nat->List Nat:=cN [(9,[8,10])]
def bg.tb:Nat->List (List Nat):=cN [(9,[[],[0],[],[],[2,3],[2,3,4],[2,3,4,5],[2,3,4,5,6],[0,1,2,3,4,5,6,7],[0,1,2,3,4,5,6,7,8],[0,1,2,3,4,5,6,7,8,9]])]
def bg.cs (F:Nat) (et:KN) (bN:KN) (eu:KN) (ev:KP):Cs:=[(47,mk4 et),(59,mk4 bN),(60,mk4 eu),(61,mk3 ev)]
theorem bg.loops (et:KN) (bN:KN) (eu:KN) (ev:KP):LO (aS (bg.cs F et bN eu ev)) bg.pn (bg.lh F et bN eu ev) F Try.f12:=
 (af.rt (af.rt (af.rt (af.rt (af.rt (af.lt (af.rt (af.block (af.la (λn tm H r h=>by change bg.lh253 F et bN eu ev [] n tm H=_ at h;unfold bg.lh253 at h;split at h;have e:bM tm [(2,_),(6,_),(7,_),(8,_)]:=⟨‹_›,‹_›,‹_›,‹_›,trivial⟩;obtain _ | k253:=n;cases h;exact ⟨_,rfl,by rw [<- bP e];exact Eq.trans (by kernel_rfl) h⟩;cases h) λk253=>af.no)))))))))
theorem bg.eqX (et:KN) (bN:KN) (eu:KN) (ev:KP) (ac:Sl) (ag:Int) (H:Hp):EX (aS (bg.cs F et bN eu ev)) bg.pn (bg.lh F et bN eu ev) F Try.f12 [(.agg [(.sl ac),(.int .i64 ag)])] H=bg.twX F et bN eu ev ac ag H:=by kernel_rfl
theorem bg.k:Ok Try.prog 12 (mk4 (bg.tw F)):=by
 intro args H v H' h
 unfold mk4 at h
 split at h
 ·exact okT (TB:=bg.tb) Try.func12 (aQ (cu.k F) (aQ (ai.k F) (aQ (aR.k F) (aQ (bC.k F) bB)))) (bg.loops F (cu.tw F) (ai.tw F) (aR.tw F) (bC.tw F)) ((bg.eqX F (cu.tw F) (ai.tw F) (aR.tw F) (bC.tw F) _ _ H).trans h) (by kernel_rfl)
 ·cases h
def bQ.twX (F:Nat) (ac:Sl) (H:Hp):OA:=some ((.int .i64 (ac.n:Int)),H)
def bQ.tw:=bQ.twX F
theorem bQ.k:Ok Try.prog 128 (mk3 (bQ.tw F)):=by
 intro args H v H' h
 unfold mk3 at h
 split at h
 ·exact ok0 Try.func128 (Eq.trans (by kernel_rfl) h) (by kernel_rfl) (by kernel_rfl)
 ·cases h
def db.twX (F:Nat) (ac:Int) (ar:Int) (cA:Int) (H:Hp):OA:=(bif (decide (ar<=ac)) then (some ((.bool (decide (ac<=cA))),H)) else (some ((.bool false),H)))
def db.tw:=db.twX F
theorem db.k:Ok Try.prog 112 (mk5 (db.tw F)):=by
 intro args H v H' h
 unfold mk5 at h
 split at h
 ·exact ok0 Try.func112 (Eq.trans (by kernel_rfl) h) (by kernel_rfl) (by kernel_rfl)
 ·cases h
def dG.twX (F:Nat) (ac:Int) (ag:Int) (bm:Int) (bo:Int) (bf:Int) (H:Hp):OA:=(Hp.new H [(.int .i64 ac),(.int .i64 ag),(.int .i64 bm),(.int .i64 bo),(.int .i64 bf)]).bind λH6=>(Hp.ldI H6 .i64 H.length 4).bind λn7=>(bif (n7 != 1) then ((Hp.ldI H6 .i64 H.length 4).bind λn8=>some ((.bool (n8 != (-1))),H6)) else (some ((.bool false),H6)))
def dG.tw:=dG.twX F
theorem dG.k:Ok Try.prog 157 (mk2 (dG.tw F)):=by
 intro args H v H' h
 unfold mk2 at h
 split at h
 ·exact ok0 Try.func157 (Eq.trans (by kernel_rfl) h) (by kernel_rfl) (by kernel_rfl)
 ·cases h
def bq.l13 (F:Nat) (ew:KX) :Nat->Sl->Int->Int->Hp->OA
 | 0,_,_,_,_=>none
 | fh+1,qo,gJ,fo,H6=>(bif (decide (fo<gJ)) then ((Sl.idx qo fo 5).bind λp15=>(Hp.ldI H6 .i64 p15.1 p15.2).bind λn16=>(Hp.ldI H6 .i64 p15.1 (p15.2+1)).bind λn17=>(Hp.ldI H6 .i64 p15.1 (p15.2+2)).bind λn18=>(Hp.ldI H6 .i64 p15.1 (p15.2+3)).bind λn19=>(Hp.ldI H6 .i64 p15.1 (p15.2+4)).bind λn20=>(ew n16 n17 n18 n19 n20 H6).bind λr21=>((r21.1).asB).bind λb22=>(bif b22 then (some ((.int .i64 fo),r21.2)) else (bq.l13 F ew fh qo gJ (wrap .i64 (fo+1)) r21.2))) else (some ((.int .i64 (-1)),H6)))
def bq.twX (ew:KX) (ac:Sl) (H:Hp):OA:=bq.l13 F ew F ac (ac.n:Int) 0 H
def bq.tw:=bq.twX F (dG.tw F)
def bq.lh13 (ew:KX) (ks:KQ) (n:Nat) (tm:Tm) (H:Hp):OA:=match ks,tm 0,tm 1,tm 7,tm 8 with
 | [],(.sl qo),(.fn 157 []),(.int .i64 gJ),(.int .i64 fo)=>bq.l13 F ew n qo gJ fo H
 | _,_,_,_,_=>none
def bq.lh (ew:KX) (p:Nat) (ks:KQ) (n:Nat) (tm:Tm) (H:Hp):OA:=bif p.beq 13 then bq.lh13 F ew ks n tm H else (none)
def mk8 (g:KP) (args:KW) (H:Hp):OA:=match args with
 | [(.sl ac),(.fn 157 [])]=>g ac H
 | _=>none
theorem mk8_E (g:KP) (ac:Sl) (H:Hp):mk8 g [(.sl ac),(.fn 157 [])] H=g ac H:=rfl
def bq.cs (F:Nat) (ew:KX):Cs:=[(157,mk2 ew)]
theorem bq.loops (ew:KX):LO (aS (bq.cs F ew)) aK (bq.lh F ew) F Try.f192:=
 (af.rt (af.lt (af.rt (af.block (af.la (λn tm H r h=>by change bq.lh13 F ew [] n tm H=_ at h;unfold bq.lh13 at h;split at h;have e:bM tm [(0,_),(1,_),(7,_),(8,_)]:=⟨‹_›,‹_›,‹_›,‹_›,trivial⟩;obtain _ | k13:=n;cases h;exact ⟨_,rfl,by rw [<- bP e];exact Eq.trans (by kernel_rfl) h⟩;cases h) λk13=>af.no)))))
theorem bq.eqX (ew:KX) (ac:Sl) (H:Hp):EX (aS (bq.cs F ew)) aK (bq.lh F ew) F Try.f192 [(.sl ac),(.fn 157 [])] H=bq.twX F ew ac H:=by kernel_rfl
theorem bq.k:Ok Try.prog 192 (mk8 (bq.tw F)):=by
 intro args H v H' h
 unfold mk8 at h
 split at h
 ·exact okT (TB:=aK) Try.func192 (aQ (dG.k F) bB) (bq.loops F (dG.tw F)) ((bq.eqX F (dG.tw F) _ H).trans h) (by kernel_rfl)
 ·cases h
def dc.twX (F:Nat) (mo:KP) (ac:Sl) (H:Hp):OA:=(mo ac H).bind λr2=>((r2.1).asI .i64).bind λn3=>some ((.bool (decide (n3>=0))),r2.2)
def dc.tw:=dc.twX F (bq.tw F)
def dc.cs (F:Nat) (mo:KP):Cs:=[(192,mk8 mo)]
theorem dc.eqX (mo:KP) (ac:Sl) (H:Hp):EX (aS (dc.cs F mo)) aK lh0 F Try.f156 [(.sl ac),(.fn 157 [])] H=dc.twX F mo ac H:=by kernel_rfl
theorem dc.k:Ok Try.prog 156 (mk8 (dc.tw F)):=by
 intro args H v H' h
 unfold mk8 at h
 split at h
 ·exact okT (TB:=aK) Try.func156 (aQ (bq.k F) bB) af.no ((dc.eqX F (bq.tw F) _ H).trans h) (by kernel_rfl)
 ·cases h
def bits_Mul64.twX (F:Nat) (ac:Int) (ar:Int) (H:Hp):OA:=some ((.tup [(.int .u64 (IntKind.u64.wrap ((IntKind.u64.wrap ((IntKind.u64.wrap ((Int.fdiv ac (2 ^ (min (32:Int).toNat (IntKind.u64).bits))) * (Int.fdiv ar (2 ^ (min (32:Int).toNat (IntKind.u64).bits)))))+(Int.fdiv (IntKind.u64.wrap ((IntKind.u64.wrap ((Int.fdiv ac (2 ^ (min (32:Int).toNat (IntKind.u64).bits))) * (Go.bits .and .u64 ar 4294967295)))+(Int.fdiv (IntKind.u64.wrap ((Go.bits .and .u64 ac 4294967295) * (Go.bits .and .u64 ar 4294967295))) (2 ^ (min (32:Int).toNat (IntKind.u64).bits))))) (2 ^ (min (32:Int).toNat (IntKind.u64).bits)))))+(Int.fdiv (IntKind.u64.wrap ((Go.bits .and .u64 (IntKind.u64.wrap ((IntKind.u64.wrap ((Int.fdiv ac (2 ^ (min (32:Int).toNat (IntKind.u64).bits))) * (Go.bits .and .u64 ar 4294967295)))+(Int.fdiv (IntKind.u64.wrap ((Go.bits .and .u64 ac 4294967295) * (Go.bits .and .u64 ar 4294967295))) (2 ^ (min (32:Int).toNat (IntKind.u64).bits))))) 4294967295)+(IntKind.u64.wrap ((Go.bits .and .u64 ac 4294967295) * (Int.fdiv ar (2 ^ (min (32:Int).toNat (IntKind.u64).bits))))))) (2 ^ (min (32:Int).toNat (IntKind.u64).bits)))))),(.int .u64 (IntKind.u64.wrap (ac * ar)))]),H)
def bits_Mul64.tw:=bits_Mul64.twX F
def mk9 (g:Le) (args:KW) (H:Hp):OA:=match args with
 | [(.int .u64 ac),(.int .u64 ar)]=>g ac ar H
 | _=>none
theorem mk9_E (g:Le) (ac:Int) (ar:Int) (H:Hp):mk9 g [(.int .u64 ac),(.int .u64 ar)] H=g ac ar H:=rfl
theorem bits_Mul64.k:Ok Try.prog 219 (mk9 (bits_Mul64.tw F)):=by
 intro args H v H' h
 unfold mk9 at h
 split at h
 ·exact ok0 Try.func219 (Eq.trans (by kernel_rfl) h) (by kernel_rfl) (by kernel_rfl)
 ·cases h
def bits_Mul.twX (F:Nat) (g_bits_Mul64:Le) (ac:Int) (ar:Int) (H:Hp):OA:=(g_bits_Mul64 ac ar H).bind λr3=>((r3.1).asTup 2).bind λl4=>(l4[0]?).bind λv5=>((v5).asI .u64).bind λn6=>(l4[1]?).bind λv7=>((v7).asI .u64).bind λn8=>some ((.tup [(.int .u64 n6),(.int .u64 n8)]),r3.2)
def bits_Mul.tw:=bits_Mul.twX F (bits_Mul64.tw F)
def bits_Mul.cs (F:Nat) (g_bits_Mul64:Le):Cs:=[(219,mk9 g_bits_Mul64)]
theorem bits_Mul.eqX (g_bits_Mul64:Le) (ac:Int) (ar:Int) (H:Hp):EX (aS (bits_Mul.cs F g_bits_Mul64)) aK lh0 F Try.f197 [(.int .u64 ac),(.int .u64 ar)] H=bits_Mul.twX F g_bits_Mul64 ac ar H:=by kernel_rfl
theorem bits_Mul.k:Ok Try.prog 197 (mk9 (bits_Mul.tw F)):=by
 intro args H v H' h
 unfold mk9 at h
 split at h
 ·exact okT (TB:=aK) Try.func197 (aQ (bits_Mul64.k F) bB) af.no ((bits_Mul.eqX F (bits_Mul64.tw F) _ _ H).trans h) (by kernel_rfl)
 ·cases h
def aT.l254 (F:Nat) (g_bits_Mul:Le) :Nat->Sl->Int->Hp->OA
 | 0,_,_,_=>none
 | EL+1,jf,mp,H33=>(bif (decide (mp<(jf.n:Int))) then ((Sl.cut jf 2 mp (jf.n:Int)).bind λs37=>(Sl.cut jf 2 0 mp).bind λs38=>(Hp.cpy H33 2 s37 s38).bind λc39=>aT.l254 F g_bits_Mul EL jf (wrap .i64 (mp+(c39.1:Int))) c39.2) else (some ((.sl jf),H33)))
def aT.j1 (g_bits_Mul:Le) (EM:Sl) (jU:Int) (H21:Hp):OA:=(Hp.mk H21 [.int .i64 0,.int .i64 0] 16 (wrap .i64 jU) (wrap .i64 jU)).bind λm22=>(Hp.cpy m22.2 2 m22.1 EM).bind λc23=>aT.l254 F g_bits_Mul F m22.1 (c23.1:Int) c23.2
def aT.j2 (g_bits_Mul:Le) (y_:Sl) (mq:Int) (H7:Hp):OA:=(g_bits_Mul (IntKind.u64.wrap (y_.n:Int)) (IntKind.u64.wrap mq) H7).bind λr8=>((r8.1).asTup 2).bind λl9=>(l9[0]?).bind λv10=>((v10).asI .u64).bind λn11=>(l9[1]?).bind λv12=>((v12).asI .u64).bind λn13=>(bif (decide (n11>0)) then (none) else ((bif (decide (n13>9223372036854775807)) then (none) else (aT.j1 F g_bits_Mul y_ n13 r8.2))))
def aT.twX (g_bits_Mul:Le) (ac:Sl) (ar:Int) (H:Hp):OA:=(bif (decide (ar<0)) then (none) else (aT.j2 F g_bits_Mul ac ar H))
def aT.tw:=aT.twX F (bits_Mul.tw F)
def aT.lh254 (g_bits_Mul:Le) (ks:KQ) (n:Nat) (tm:Tm) (H:Hp):OA:=match ks,tm 7,tm 8 with
 | [],(.sl jf),(.int .i64 mp)=>aT.l254 F g_bits_Mul n jf mp H
 | _,_,_=>none
def aT.lh (g_bits_Mul:Le) (p:Nat) (ks:KQ) (n:Nat) (tm:Tm) (H:Hp):OA:=bif p.beq 254 then aT.lh254 F g_bits_Mul ks n tm H else (none)
def aT.pn:Nat->List Nat:=cN [(9,[7])]
def aT.tb:Nat->List (List Nat):=cN [(9,[[],[],[],[1,2],[],[],[4,5],[1,2,3,4,5,6],[0,1,2,3,4,5,6,7],[0,1,2,3,4,5,6,7,8]])]
def aT.cs (F:Nat) (g_bits_Mul:Le):Cs:=[(197,mk9 g_bits_Mul)]
theorem aT.loops (g_bits_Mul:Le):LO (aS (aT.cs F g_bits_Mul)) aT.pn (aT.lh F g_bits_Mul) F Try.f193:=
 (af.rt (af.rt (af.rt (af.rt (af.rt (af.rt (af.lt (af.block (af.la (λn tm H r h=>by change aT.lh254 F g_bits_Mul [] n tm H=_ at h;unfold aT.lh254 at h;split at h;have e:bM tm [(7,_),(8,_)]:=⟨‹_›,‹_›,trivial⟩;obtain _ | k254:=n;cases h;exact ⟨_,rfl,by rw [<- bP e];exact Eq.trans (by kernel_rfl) h⟩;cases h) λk254=>af.no)))))))))
theorem aT.eqX (g_bits_Mul:Le) (ac:Sl) (ar:Int) (H:Hp):EX (aS (aT.cs F g_bits_Mul)) aT.pn (aT.lh F g_bits_Mul) F Try.f193 [(.sl ac),(.int .i64 ar)] H=aT.twX F g_bits_Mul ac ar H:=by kernel_rfl
theorem aT.k:Ok Try.prog 193 (mk0 (aT.tw F)):=by
 intro args H v H' h
 unfold mk0 at h
 split at h
 ·exact okT (TB:=aT.tb) Try.func193 (aQ (bits_Mul.k F) bB) (aT.loops F (bits_Mul.tw F)) ((aT.eqX F (bits_Mul.tw F) _ _ H).trans h) (by kernel_rfl)
 ·cases h
def cQ.twX (F:Nat) (ac:Int) (ag:Int) (bm:Int) (bo:Int) (bf:Int) (H:Hp):OA:=(Hp.new H [(.int .i64 ac),(.int .i64 ag),(.int .i64 bm),(.int .i64 bo),(.int .i64 bf)]).bind λH6=>(Hp.new H6 [.int .i64 0,.int .i64 0,.int .i64 0,.int .i64 0]).bind λH7=>(Hp.ldI H7 .i64 H.length 0).bind λn8=>(Hp.ldI H7 .i64 H.length 1).bind λn9=>(Hp.ldI H7 .i64 H.length 2).bind λn10=>(Hp.ldI H7 .i64 H.length 3).bind λn11=>(Hp.st H7 H6.length 0 (.int .i64 n8)).bind λH12=>(Hp.st H12 H6.length (0+1) (.int .i64 n9)).bind λH13=>(Hp.st H13 H6.length (0+1+1) (.int .i64 n10)).bind λH14=>(Hp.st H14 H6.length (0+1+1+1) (.int .i64 n11)).bind λH15=>(Hp.ldI H15 .i64 H6.length 0).bind λn16=>(Hp.ldI H15 .i64 H6.length (0+1)).bind λn17=>(Hp.ldI H15 .i64 H6.length (0+2)).bind λn18=>(Hp.ldI H15 .i64 H6.length (0+3)).bind λn19=>some ((.agg [(.int .i64 n16),(.int .i64 n17),(.int .i64 n18),(.int .i64 n19)]),H15)
def cQ.tw:=cQ.twX F
theorem cQ.k:Ok Try.prog 194 (mk2 (cQ.tw F)):=by
 intro args H v H' h
 unfold mk2 at h
 split at h
 ·exact ok0 Try.func194 (Eq.trans (by kernel_rfl) h) (by kernel_rfl) (by kernel_rfl)
 ·cases h
def cR.twX (F:Nat) (ac:Int) (ag:Int) (bm:Int) (bo:Int) (bf:Int) (bG:Int) (H:Hp):OA:=(Hp.new H [(.int .i64 ac),(.int .i64 ag),(.int .i64 bm),(.int .i64 bo),(.int .i64 bf)]).bind λH7=>(bif (bG==0) then (some ((.bool true),H7)) else ((Hp.ldI H7 .i64 H.length 4).bind λn8=>some ((.bool (bG==(wrap .i64 (2+n8)))),H7)))
def cR.tw:=cR.twX F
theorem cR.k:Ok Try.prog 195 (mk6 (cR.tw F)):=by
 intro args H v H' h
 unfold mk6 at h
 split at h
 ·exact ok0 Try.func195 (Eq.trans (by kernel_rfl) h) (by kernel_rfl) (by kernel_rfl)
 ·cases h
def eb.twX (F:Nat) (ac:Sl) (H:Hp):OA:=some ((.int .i64 (ac.n:Int)),H)
def eb.tw:=eb.twX F
theorem eb.k:Ok Try.prog 217 (mk3 (eb.tw F)):=by
 intro args H v H' h
 unfold mk3 at h
 split at h
 ·exact ok0 Try.func217 (Eq.trans (by kernel_rfl) h) (by kernel_rfl) (by kernel_rfl)
 ·cases h
def cB.twX (F:Nat) (mr:KP) (fS:KY) (ac:Sl) (ar:Int) (H:Hp):OA:=(mr ac H).bind λr3=>((r3.1).asI .i64).bind λn4=>(fS ar 0 (wrap .i64 (n4 - 1)) r3.2).bind λr5=>((r5.1).asB).bind λb6=>some ((.bool b6),r5.2)
def cB.tw:=cB.twX F (eb.tw F) (db.tw F)
def cB.cs (F:Nat) (mr:KP) (fS:KY):Cs:=[(217,mk3 mr),(112,mk5 fS)]
theorem cB.eqX (mr:KP) (fS:KY) (ac:Sl) (ar:Int) (H:Hp):EX (aS (cB.cs F mr fS)) aK lh0 F Try.f196 [(.sl ac),(.int .i64 ar)] H=cB.twX F mr fS ac ar H:=by kernel_rfl
theorem cB.k:Ok Try.prog 196 (mk0 (cB.tw F)):=by
 intro args H v H' h
 unfold mk0 at h
 split at h
 ·exact okT (TB:=aK) Try.func196 (aQ (eb.k F) (aQ (db.k F) bB)) af.no ((cB.eqX F (eb.tw F) (db.tw F) _ _ H).trans h) (by kernel_rfl)
 ·cases h
def aI.l3931 (F:Nat) (cS:KN) (ch:KX) (ci:KR) (cT:KN) (C61_:LC):Nat->Nat->Nat->Nat->Nat->Sl->Int->Int->Nat->Nat->Int->Int->Int->Int->Int->Int->Hp->OA
 | 0,_,_,_,_,_,_,_,_,_,_,_,_,_,_,_,_=>none
 | za+1,dd,dH,ec,fp,nS,fT,fU,fV,iG,fq,dL,dM,dN,dO,cw,H233=>(bif (decide (cw<4)) then ((if 0<=cw/\cw<(4:Int) then (([(.int .i64 dL),(.int .i64 dM),(.int .i64 dN),(.int .i64 dO)]:List AV)[(cw:Int).toNat * 1]?).bind λv283=>((v283).asI .i64).bind λn284=>(Hp.ldSl H233 ec fp).bind λs285=>(Hp.ldI H233 .i64 fV iG).bind λn286=>(Hp.ldI H233 .i64 fV (iG+1)).bind λn287=>(Hp.ldI H233 .i64 fV (iG+2)).bind λn288=>(Hp.ldI H233 .i64 fV (iG+3)).bind λn289=>(Hp.ldI H233 .i64 fV (iG+4)).bind λn290=>(ci n286 n287 n288 n289 n290 cw H233).bind λr291=>((r291.1).asB).bind λb292=>(bif b292 then ((Hp.ldSl r291.2 ec (fp+1)).bind λs293=>(cT s293 n284 r291.2).bind λr294=>((r294.1).asB).bind λb295=>(bif (!b295) then ((Hp.ldSl r294.2 ec fp).bind λs296=>(Hp.ldSl r294.2 ec (fp+1)).bind λs297=>(Hp.st r294.2 dd dH (.sl s296)).bind λH298=>(Hp.st H298 dd (dH+1) (.sl s297)).bind λH299=>(Hp.ldSl H299 dd dH).bind λs300=>(Hp.ldSl H299 dd (dH+1)).bind λs301=>some ((.tup [(.agg [(.sl s300),(.sl s301)]),(.bool false)]),H299)) else ((Sl.idx s293 n284 2).bind λp302=>(Hp.ldI r294.2 .i64 p302.1 p302.2).bind λn303=>(bif (decide (n303>=0)) then ((Hp.ldSl r294.2 ec fp).bind λs304=>(Hp.ldSl r294.2 ec (fp+1)).bind λs305=>(Hp.st r294.2 dd dH (.sl s304)).bind λH306=>(Hp.st H306 dd (dH+1) (.sl s305)).bind λH307=>(Hp.ldSl H307 dd dH).bind λs308=>(Hp.ldSl H307 dd (dH+1)).bind λs309=>some ((.tup [(.agg [(.sl s308),(.sl s309)]),(.bool false)]),H307)) else ((Sl.idx s293 n284 2).bind λp310=>(Hp.st r294.2 p310.1 p310.2 (.int .i64 fq)).bind λH311=>(Hp.st H311 p310.1 (p310.2+1) (.int .i64 cw)).bind λH312=>aI.l3931 F cS ch ci cT C61_ za dd dH ec fp nS fT fU fV iG fq dL dM dN dO (wrap .i64 (cw+1)) H312))))) else ((cT s285 n284 r291.2).bind λr313=>((r313.1).asB).bind λb314=>(bif (!b314) then ((Hp.ldSl r313.2 ec fp).bind λs315=>(Hp.ldSl r313.2 ec (fp+1)).bind λs316=>(Hp.st r313.2 dd dH (.sl s315)).bind λH317=>(Hp.st H317 dd (dH+1) (.sl s316)).bind λH318=>(Hp.ldSl H318 dd dH).bind λs319=>(Hp.ldSl H318 dd (dH+1)).bind λs320=>some ((.tup [(.agg [(.sl s319),(.sl s320)]),(.bool false)]),H318)) else ((Sl.idx s285 n284 2).bind λp321=>(Hp.ldI r313.2 .i64 p321.1 p321.2).bind λn322=>(bif (decide (n322>=0)) then ((Hp.ldSl r313.2 ec fp).bind λs323=>(Hp.ldSl r313.2 ec (fp+1)).bind λs324=>(Hp.st r313.2 dd dH (.sl s323)).bind λH325=>(Hp.st H325 dd (dH+1) (.sl s324)).bind λH326=>(Hp.ldSl H326 dd dH).bind λs327=>(Hp.ldSl H326 dd (dH+1)).bind λs328=>some ((.tup [(.agg [(.sl s327),(.sl s328)]),(.bool false)]),H326)) else ((Sl.idx s285 n284 2).bind λp329=>(Hp.st r313.2 p329.1 p329.2 (.int .i64 fq)).bind λH330=>(Hp.st H330 p329.1 (p329.2+1) (.int .i64 cw)).bind λH331=>aI.l3931 F cS ch ci cT C61_ za dd dH ec fp nS fT fU fV iG fq dL dM dN dO (wrap .i64 (cw+1)) H331)))))) else none)) else (C61_ dd dH ec fp nS fT (wrap .i64 (fU+1)) H233))
termination_by structural n=>n
def aI.l61 (F:Nat) (cS:KN) (ch:KX) (ci:KR) (cT:KN) :Nat->Nat->Nat->Nat->Nat->Sl->Int->Int->Hp->OA
 | 0,_,_,_,_,_,_,_,_=>none
 | cf+1,gK,jV,iH,nT,qp,gL,ft,H29=>(bif (decide (ft<gL)) then ((Sl.idx qp ft 5).bind λp184=>(Hp.ldI H29 .i64 p184.1 p184.2).bind λn185=>(Hp.ldI H29 .i64 p184.1 (p184.2+1)).bind λn186=>(Hp.ldI H29 .i64 p184.1 (p184.2+2)).bind λn187=>(Hp.ldI H29 .i64 p184.1 (p184.2+3)).bind λn188=>(Hp.ldI H29 .i64 p184.1 (p184.2+4)).bind λn189=>(Hp.new H29 [.int .i64 0,.int .i64 0,.int .i64 0,.int .i64 0,.int .i64 0]).bind λH190=>(Hp.st H190 H29.length 0 (.int .i64 n185)).bind λH191=>(Hp.st H191 H29.length (0+1) (.int .i64 n186)).bind λH192=>(Hp.st H192 H29.length (0+1+1) (.int .i64 n187)).bind λH193=>(Hp.st H193 H29.length (0+1+1+1) (.int .i64 n188)).bind λH194=>(Hp.st H194 H29.length (0+1+1+1+1) (.int .i64 n189)).bind λH195=>(Hp.ldI H195 .i64 H29.length 0).bind λn196=>(Hp.ldI H195 .i64 H29.length (0+1)).bind λn197=>(Hp.ldI H195 .i64 H29.length (0+2)).bind λn198=>(Hp.ldI H195 .i64 H29.length (0+3)).bind λn199=>(Hp.ldI H195 .i64 H29.length (0+4)).bind λn200=>(ch n196 n197 n198 n199 n200 H195).bind λr201=>((r201.1).asAgg 4).bind λl202=>(l202[0]?).bind λv203=>((v203).asI .i64).bind λn204=>(l202[1]?).bind λv205=>((v205).asI .i64).bind λn206=>(l202[2]?).bind λv207=>((v207).asI .i64).bind λn208=>(l202[3]?).bind λv209=>((v209).asI .i64).bind λn210=>aI.l3931 F cS ch ci cT (aI.l61 F cS ch ci cT cf) F gK jV iH nT qp gL ft H29.length 0 ft n204 n206 n208 n210 0 r201.2) else ((Hp.ldSl H29 iH nT).bind λs332=>(Hp.ldSl H29 iH (nT+1)).bind λs333=>(Hp.st H29 gK jV (.sl s332)).bind λH334=>(Hp.st H334 gK (jV+1) (.sl s333)).bind λH335=>(Hp.ldSl H335 gK jV).bind λs336=>(Hp.ldSl H335 gK (jV+1)).bind λs337=>some ((.tup [(.agg [(.sl s336),(.sl s337)]),(.bool true)]),H335)))
termination_by structural n=>n
def aI.twX (cS:KN) (ch:KX) (ci:KR) (cT:KN) (ac:Sl) (ag:Int) (H:Hp):OA:=(Hp.new H [(.sl ac),(.int .i64 ag)]).bind λH3=>(Hp.new H3 [.sl ⟨none,0,.ex 0⟩,.sl ⟨none,0,.ex 0⟩]).bind λH4=>(Hp.ldSl H4 H.length 0).bind λs5=>(Hp.new H4 [(.int .i64 (-1)),(.int .i64 0)]).bind λH6=>(cS (⟨some (H4.length,0),1,.ex 1⟩:Sl) (wrap .i64 (2 * (s5.n:Int))) H6).bind λr7=>((r7.1).asSl).bind λs8=>(Hp.new r7.2 [(.int .i64 (-1)),(.int .i64 0)]).bind λH9=>(cS (⟨some (r7.2.length,0),1,.ex 1⟩:Sl) (wrap .i64 (2 * (s5.n:Int))) H9).bind λr10=>((r10.1).asSl).bind λs11=>(Hp.new r10.2 [.sl ⟨none,0,.ex 0⟩,.sl ⟨none,0,.ex 0⟩]).bind λH12=>(Hp.st H12 r10.2.length 0 (.sl s8)).bind λH13=>(Hp.st H13 r10.2.length (0+1) (.sl s11)).bind λH14=>(Hp.ldSl H14 H.length 0).bind λs15=>aI.l61 F cS ch ci cT F H3.length 0 r10.2.length 0 s15 (s15.n:Int) 0 H14
def aI.tw:=aI.twX F (aT.tw F) (cQ.tw F) (cR.tw F) (cB.tw F)
def aI.lh61 (cS:KN) (ch:KX) (ci:KR) (cT:KN) (ks:KQ) (n:Nat) (tm:Tm) (H:Hp):OA:=match ks,tm 2,tm 5,tm 25,tm 26,tm 27 with
 | [],(.ptr gK jV),(.ptr iH nT),(.sl qp),(.int .i64 gL),(.int .i64 ft)=>aI.l61 F cS ch ci cT n gK jV iH nT qp gL ft H
 | _,_,_,_,_,_=>none
def aI.lh3931 (cS:KN) (ch:KX) (ci:KR) (cT:KN) (ks:KQ) (n:Nat) (tm:Tm) (H:Hp):OA:=match ks,tm 2,tm 5,tm 6,tm 7,tm 25,tm 26,tm 27,tm 33,tm 34 with
 | [cf],(.ptr dd dH),(.ptr ec fp),(.int .i64 fq),(.ptr fV iG),(.sl nS),(.int .i64 fT),(.int .i64 fU),(.agg [(.int .i64 dL),(.int .i64 dM),(.int .i64 dN),(.int .i64 dO)]),(.int .i64 cw)=>aI.l3931 F cS ch ci cT (aI.l61 F cS ch ci cT cf) n dd dH ec fp nS fT fU fV iG fq dL dM dN dO cw H
 | _,_,_,_,_,_,_,_,_,_=>none
def aI.lh (cS:KN) (ch:KX) (ci:KR) (cT:KN) (p:Nat) (ks:KQ) (n:Nat) (tm:Tm) (H:Hp):OA:=bif p.beq 3931 then aI.lh3931 F cS ch ci cT ks n tm H else (bif p.beq 61 then aI.lh61 F cS ch ci cT ks n tm H else (none))
def aI.cs (F:Nat) (cS:KN) (ch:KX) (ci:KR) (cT:KN):Cs:=[(193,mk0 cS),(194,mk2 ch),(195,mk6 ci),(196,mk0 cT)]
theorem aI.loops (cS:KN) (ch:KX) (ci:KR) (cT:KN):LO (aS (aI.cs F cS ch ci cT)) aK (aI.lh F cS ch ci cT) F Try.f158:=
 (af.rt (af.rt (af.rt (af.lt (af.rt (af.block (af.la (λn tm H r h=>by change aI.lh61 F cS ch ci cT [] n tm H=_ at h;unfold aI.lh61 at h;split at h;have e:bM tm [(2,_),(5,_),(25,_),(26,_),(27,_)]:=⟨‹_›,‹_›,‹_›,‹_›,‹_›,trivial⟩;obtain _ | k61:=n;cases h;exact ⟨_,rfl,by rw [<- bP e];exact Eq.trans (by kernel_rfl) h⟩;cases h) λk61=>(af.rt (af.rt (af.lt (af.block (af.rt (af.rt (af.block (af.la (λn tm H r h=>by change aI.lh3931 F cS ch ci cT [k61] n tm H=_ at h;unfold aI.lh3931 at h;split at h;have e:bM tm [(2,_),(5,_),(6,_),(7,_),(25,_),(26,_),(27,_),(33,_),(34,_)]:=⟨‹_›,‹_›,‹_›,‹_›,‹_›,‹_›,‹_›,‹_›,‹_›,trivial⟩;cases (show [k61]=_ from ‹_›);obtain _ | k3931:=n;cases h;exact ⟨_,rfl,by rw [<- bP e];exact Eq.trans (by kernel_rfl) h⟩;cases h) λk3931=>af.no)))))))))))))))
theorem aI.eqX (cS:KN) (ch:KX) (ci:KR) (cT:KN) (ac:Sl) (ag:Int) (H:Hp):EX (aS (aI.cs F cS ch ci cT)) aK (aI.lh F cS ch ci cT) F Try.f158 [(.agg [(.sl ac),(.int .i64 ag)])] H=aI.twX F cS ch ci cT ac ag H:=by kernel_rfl
theorem aI.k:Ok Try.prog 158 (mk4 (aI.tw F)):=by
 intro args H v H' h
 unfold mk4 at h
 split at h
 ·exact okT (TB:=aK) Try.func158 (aQ (aT.k F) (aQ (cQ.k F) (aQ (cR.k F) (aQ (cB.k F) bB)))) (aI.loops F (aT.tw F) (cQ.tw F) (cR.tw F) (cB.tw F)) ((aI.eqX F (aT.tw F) (cQ.tw F) (cR.tw F) (cB.tw F) _ _ H).trans h) (by kernel_rfl)
 ·cases h
def cj.twX (F:Nat) (ch:KX) (ci:KR) (ac:Sl) (ag:Int) (ay:Sl) (bz:Sl) (fI:Int) (ed:Int) (H:Hp):OA:=(Hp.new H [(.sl ac),(.int .i64 ag)]).bind λH7=>(Hp.new H7 [(.sl ay),(.sl bz)]).bind λH8=>(Hp.new H8 [(.int .i64 fI),(.int .i64 ed)]).bind λH9=>(Hp.new H9 [.int .i64 0,.int .i64 0]).bind λH10=>(Hp.ldSl H10 H.length 0).bind λs11=>(Hp.ldI H10 .i64 H8.length 0).bind λn12=>(Sl.idx s11 n12 5).bind λp13=>(Hp.ldI H10 .i64 p13.1 p13.2).bind λn14=>(Hp.ldI H10 .i64 p13.1 (p13.2+1)).bind λn15=>(Hp.ldI H10 .i64 p13.1 (p13.2+2)).bind λn16=>(Hp.ldI H10 .i64 p13.1 (p13.2+3)).bind λn17=>(Hp.ldI H10 .i64 p13.1 (p13.2+4)).bind λn18=>(Hp.new H10 [.int .i64 0,.int .i64 0,.int .i64 0,.int .i64 0,.int .i64 0]).bind λH19=>(Hp.st H19 H10.length 0 (.int .i64 n14)).bind λH20=>(Hp.st H20 H10.length (0+1) (.int .i64 n15)).bind λH21=>(Hp.st H21 H10.length (0+1+1) (.int .i64 n16)).bind λH22=>(Hp.st H22 H10.length (0+1+1+1) (.int .i64 n17)).bind λH23=>(Hp.st H23 H10.length (0+1+1+1+1) (.int .i64 n18)).bind λH24=>(Hp.ldI H24 .i64 H10.length 0).bind λn25=>(Hp.ldI H24 .i64 H10.length (0+1)).bind λn26=>(Hp.ldI H24 .i64 H10.length (0+2)).bind λn27=>(Hp.ldI H24 .i64 H10.length (0+3)).bind λn28=>(Hp.ldI H24 .i64 H10.length (0+4)).bind λn29=>(ch n25 n26 n27 n28 n29 H24).bind λr30=>((r30.1).asAgg 4).bind λl31=>(l31[0]?).bind λv32=>((v32).asI .i64).bind λn33=>(l31[1]?).bind λv34=>((v34).asI .i64).bind λn35=>(l31[2]?).bind λv36=>((v36).asI .i64).bind λn37=>(l31[3]?).bind λv38=>((v38).asI .i64).bind λn39=>(if aH H24 r30.2 then ((Hp.ldI r30.2 .i64 H8.length 1).bind λn40=>(if 0<=n40/\n40<(4:Int) then (([(.int .i64 n33),(.int .i64 n35),(.int .i64 n37),(.int .i64 n39)]:List AV)[(n40:Int).toNat * 1]?).bind λv41=>((v41).asI .i64).bind λn42=>(Hp.ldI r30.2 .i64 H10.length 0).bind λn43=>(Hp.ldI r30.2 .i64 H10.length (0+1)).bind λn44=>(Hp.ldI r30.2 .i64 H10.length (0+2)).bind λn45=>(Hp.ldI r30.2 .i64 H10.length (0+3)).bind λn46=>(Hp.ldI r30.2 .i64 H10.length (0+4)).bind λn47=>(Hp.ldI r30.2 .i64 H8.length 1).bind λn48=>(ci n43 n44 n45 n46 n47 n48 r30.2).bind λr49=>((r49.1).asB).bind λb50=>(bif b50 then ((Hp.ldSl r49.2 H7.length 0).bind λs51=>(Sl.idx s51 n42 2).bind λp52=>(Hp.ldI r49.2 .i64 p52.1 p52.2).bind λn53=>(Hp.ldI r49.2 .i64 p52.1 (p52.2+1)).bind λn54=>(Hp.st r49.2 H9.length 0 (.int .i64 n53)).bind λH55=>(Hp.st H55 H9.length (0+1) (.int .i64 n54)).bind λH56=>(Hp.ldI H56 .i64 H9.length 0).bind λn57=>(Hp.ldI H56 .i64 H9.length (0+1)).bind λn58=>some ((.agg [(.int .i64 n57),(.int .i64 n58)]),H56)) else ((Hp.ldSl r49.2 H7.length 1).bind λs59=>(Sl.idx s59 n42 2).bind λp60=>(Hp.ldI r49.2 .i64 p60.1 p60.2).bind λn61=>(Hp.ldI r49.2 .i64 p60.1 (p60.2+1)).bind λn62=>(Hp.st r49.2 H9.length 0 (.int .i64 n61)).bind λH63=>(Hp.st H63 H9.length (0+1) (.int .i64 n62)).bind λH64=>(Hp.ldI H64 .i64 H9.length 0).bind λn65=>(Hp.ldI H64 .i64 H9.length (0+1)).bind λn66=>some ((.agg [(.int .i64 n65),(.int .i64 n66)]),H64))) else none)) else none)
def cj.tw:=cj.twX F (cQ.tw F) (cR.tw F)
def cj.tb:Nat->List (List Nat):=cN [(2,[[],[0],[],[2],[0,1,2,3],[0,1,2,3,4]])]
def mk10 (g:Lf) (args:KW) (H:Hp):OA:=match args with
 | [(.agg [(.sl ac),(.int .i64 ag)]),(.agg [(.sl ay),(.sl bz)]),(.agg [(.int .i64 fI),(.int .i64 ed)])]=>g ac ag ay bz fI ed H
 | _=>none
theorem mk10_E (g:Lf) (ac:Sl) (ag:Int) (ay:Sl) (bz:Sl) (fI:Int) (ed:Int) (H:Hp):mk10 g [(.agg [(.sl ac),(.int .i64 ag)]),(.agg [(.sl ay),(.sl bz)]),(.agg [(.int .i64 fI),(.int .i64 ed)])] H=g ac ag ay bz fI ed H:=rfl
def cj.cs (F:Nat) (ch:KX) (ci:KR):Cs:=[(194,mk2 ch),(195,mk6 ci)]
theorem cj.eqX (ch:KX) (ci:KR) (ac:Sl) (ag:Int) (ay:Sl) (bz:Sl) (fI:Int) (ed:Int) (H:Hp):EX (aS (cj.cs F ch ci)) aK lh0 F Try.f160 [(.agg [(.sl ac),(.int .i64 ag)]),(.agg [(.sl ay),(.sl bz)]),(.agg [(.int .i64 fI),(.int .i64 ed)])] H=cj.twX F ch ci ac ag ay bz fI ed H:=by kernel_rfl
theorem cj.k:Ok Try.prog 160 (mk10 (cj.tw F)):=by
 intro args H v H' h
 unfold mk10 at h
 split at h
 ·exact okT (TB:=cj.tb) Try.func160 (aQ (cQ.k F) (aQ (cR.k F) bB)) af.no ((cj.eqX F (cQ.tw F) (cR.tw F) _ _ _ _ _ _ H).trans h) (by kernel_rfl)
 ·cases h
def ax.j4 (F:Nat) (co:Lf) (C61_:Lj) (qq:Nat) (EN:Nat) (qs:Nat) (EO:Nat) (EP:Sl) (EQ:Sl) (ms:Int) (mu:Int) (H248:Hp):OA:=C61_ qq EN qs EO EP EQ ms (wrap .i64 (mu+1)) H248
def ax.j5 (co:Lf) (C61_:Lj) (qt:Nat) (ER:Nat) (lM:Nat) (ES:Nat) (jb:Sl) (ET:Sl) (mv:Int) (mw:Int) (H228:Hp):OA:=ax.j4 F co C61_ qt ER lM ES jb ET mv mw H228
def ax.j6 (co:Lf) (C61_:Lj) (nU:Nat) (zb:Nat) (nV:Nat) (zd:Nat) (ze:Sl) (zf:Sl) (zg:Sl) (jg:Int) (jh:Int) (H205:Hp):OA:=(bif (decide ((zg.n:Int)>0)) then ((Hp.new H205 [(.sl zg)]).bind λH206=>(Sl.row H206 (⟨some (H205.length,0),1,.ex 1⟩:Sl) 1).bind λxs208=>(Hp.app H206 1 24 ze (⟨some (H205.length,0),1,.ex 1⟩:Sl).n xs208).bind λa207=>ax.j5 F co C61_ nU zb nV zd a207.1 zf jg jh a207.2) else (ax.j5 F co C61_ nU zb nV zd ze zf jg jh H205))
def ax.l15725 (F:Nat) (co:Lf) (C61_:Lj):Nat->Nat->Nat->Nat->Nat->Sl->Sl->Int->Int->Sl->Int->Hp->OA
 | 0,_,_,_,_,_,_,_,_,_,_,_=>none
 | EU+1,ij,mz,ik,mA,qu,mB,gM,gN,qv,ee,H164=>(Sl.idx mB ee 1).bind λp249=>(Hp.ldB H164 p249.1 p249.2).bind λb250=>(bif (!b250) then ((Sl.idx mB ee 1).bind λp251=>(Hp.st H164 p251.1 p251.2 (.bool true)).bind λH252=>(Hp.new H252 [(.int .i64 ee)]).bind λH253=>(Sl.row H253 (⟨some (H252.length,0),1,.ex 1⟩:Sl) 1).bind λxs255=>(Hp.app H253 1 8 qv (⟨some (H252.length,0),1,.ex 1⟩:Sl).n xs255).bind λa254=>(Hp.ldSl a254.2 ij mz).bind λs256=>(Hp.ldI a254.2 .i64 ij (mz+1)).bind λn257=>(Hp.ldSl a254.2 ik mA).bind λs258=>(Hp.ldSl a254.2 ik (mA+1)).bind λs259=>(co s256 n257 s258 s259 (wrap .i64 (Int.tdiv ee 4)) (Int.tmod (wrap .i64 (ee+1)) 4) a254.2).bind λr260=>((r260.1).asAgg 2).bind λl261=>(l261[0]?).bind λv262=>((v262).asI .i64).bind λn263=>(l261[1]?).bind λv264=>((v264).asI .i64).bind λn265=>(Hp.new r260.2 [.int .i64 0,.int .i64 0]).bind λH266=>(Hp.st H266 r260.2.length 0 (.int .i64 n263)).bind λH267=>(Hp.st H267 r260.2.length (0+1) (.int .i64 n265)).bind λH268=>(Hp.ldI H268 .i64 r260.2.length 0).bind λn269=>(Hp.ldI H268 .i64 r260.2.length 1).bind λn270=>ax.l15725 F co C61_ EU ij mz ik mA qu mB gM gN a254.1 (wrap .i64 ((wrap .i64 (4 * n269))+n270)) H268) else (ax.j6 F co C61_ ij mz ik mA qu mB qv gM gN H164))
termination_by structural n=>n
def ax.l61 (F:Nat) (co:Lf) :Nat->Nat->Nat->Nat->Nat->Sl->Sl->Int->Int->Hp->OA
 | 0,_,_,_,_,_,_,_,_,_=>none
 | cf+1,jW,s_,jX,ta,qw,tc,e_,de,H22=>(bif (decide (de<e_)) then (ax.l15725 F co (ax.l61 F co cf) F jW s_ jX ta qw tc e_ de (⟨none,0,.ex 0⟩:Sl) de H22) else (some ((.sl qw),H22)))
termination_by structural n=>n
def ax.twX (co:Lf) (ac:Sl) (ag:Int) (ay:Sl) (bz:Sl) (H:Hp):OA:=(Hp.new H [(.sl ac),(.int .i64 ag)]).bind λH5=>(Hp.new H5 [(.sl ay),(.sl bz)]).bind λH6=>(Hp.ldSl H6 H.length 0).bind λs7=>(Hp.mk H6 [.bool false] 1 (wrap .i64 (4 * (s7.n:Int))) (wrap .i64 (4 * (s7.n:Int)))).bind λm8=>ax.l61 F co F H.length 0 H5.length 0 (⟨none,0,.ex 0⟩:Sl) m8.1 (m8.1.n:Int) 0 m8.2
def ax.tw:=ax.twX F (cj.tw F)
def ax.lh61 (co:Lf) (ks:KQ) (n:Nat) (tm:Tm) (H:Hp):OA:=match ks,tm 2,tm 3,tm 5,tm 6,tm 17,tm 18 with
 | [],(.ptr jW s_),(.ptr jX ta),(.sl qw),(.sl tc),(.int .i64 e_),(.int .i64 de)=>ax.l61 F co n jW s_ jX ta qw tc e_ de H
 | _,_,_,_,_,_,_=>none
def ax.lh15725 (co:Lf) (ks:KQ) (n:Nat) (tm:Tm) (H:Hp):OA:=match ks,tm 2,tm 3,tm 5,tm 6,tm 8,tm 9,tm 17,tm 18 with
 | [cf],(.ptr ij mz),(.ptr ik mA),(.sl qu),(.sl mB),(.sl qv),(.int .i64 ee),(.int .i64 gM),(.int .i64 gN)=>ax.l15725 F co (ax.l61 F co cf) n ij mz ik mA qu mB gM gN qv ee H
 | _,_,_,_,_,_,_,_,_=>none
def ax.lh (co:Lf) (p:Nat) (ks:KQ) (n:Nat) (tm:Tm) (H:Hp):OA:=bif p.beq 15725 then ax.lh15725 F co ks n tm H else (bif p.beq 61 then ax.lh61 F co ks n tm H else (none))
def mk11 (g:Ln) (args:KW) (H:Hp):OA:=match args with
 | [(.agg [(.sl ac),(.int .i64 ag)]),(.agg [(.sl ay),(.sl bz)])]=>g ac ag ay bz H
 | _=>none
theorem mk11_E (g:Ln) (ac:Sl) (ag:Int) (ay:Sl) (bz:Sl) (H:Hp):mk11 g [(.agg [(.sl ac),(.int .i64 ag)]),(.agg [(.sl ay),(.sl bz)])] H=g ac ag ay bz H:=rfl
def ax.cs (F:Nat) (co:Lf):Cs:=[(160,mk10 co)]
theorem ax.loops (co:Lf):LO (aS (ax.cs F co)) aK (ax.lh F co) F Try.f104:=
 (af.rt (af.rt (af.rt (af.lt (af.rt (af.block (af.la (λn tm H r h=>by change ax.lh61 F co [] n tm H=_ at h;unfold ax.lh61 at h;split at h;have e:bM tm [(2,_),(3,_),(5,_),(6,_),(17,_),(18,_)]:=⟨‹_›,‹_›,‹_›,‹_›,‹_›,‹_›,trivial⟩;obtain _ | k61:=n;cases h;exact ⟨_,rfl,by rw [<- bP e];exact Eq.trans (by kernel_rfl) h⟩;cases h) λk61=>(af.rt (af.rt (af.lt (af.block (af.rt (af.rt (af.lt (af.rt (af.block (af.la (λn tm H r h=>by change ax.lh15725 F co [k61] n tm H=_ at h;unfold ax.lh15725 at h;split at h;have e:bM tm [(2,_),(3,_),(5,_),(6,_),(8,_),(9,_),(17,_),(18,_)]:=⟨‹_›,‹_›,‹_›,‹_›,‹_›,‹_›,‹_›,‹_›,trivial⟩;cases (show [k61]=_ from ‹_›);obtain _ | k15725:=n;cases h;exact ⟨_,rfl,by rw [<- bP e];exact Eq.trans (by kernel_rfl) h⟩;cases h) λk15725=>af.no)))))))))))))))))
theorem ax.eqX (co:Lf) (ac:Sl) (ag:Int) (ay:Sl) (bz:Sl) (H:Hp):EX (aS (ax.cs F co)) aK (ax.lh F co) F Try.f104 [(.agg [(.sl ac),(.int .i64 ag)]),(.agg [(.sl ay),(.sl bz)])] H=ax.twX F co ac ag ay bz H:=by kernel_rfl
theorem ax.k:Ok Try.prog 104 (mk11 (ax.tw F)):=by
 intro args H v H' h
 unfold mk11 at h
 split at h
 ·exact okT (TB:=aK) Try.func104 (aQ (cj.k F) bB) (ax.loops F (cj.tw F)) ((ax.eqX F (cj.tw F) _ _ _ _ H).trans h) (by kernel_rfl)
 ·cases h
def ef.twX (F:Nat) (ac:Sl) (H:Hp):OA:=some ((.int .i64 (ac.n:Int)),H)
def ef.tw:=ef.twX F
theorem ef.k:Ok Try.prog 85 (mk3 (ef.tw F)):=by
 intro args H v H' h
 unfold mk3 at h
 split at h
 ·exact ok0 Try.func85 (Eq.trans (by kernel_rfl) h) (by kernel_rfl) (by kernel_rfl)
 ·cases h
def bj.l29 (F:Nat) :Nat->Sl->Int->Int->Hp->OA
 | 0,_,_,_,_=>none
 | c_+1,fu,gO,fv,H7=>(bif (decide (fv<gO)) then ((Hp.new H7 [(.int .i64 fv)]).bind λH11=>(Sl.row H11 (⟨some (H7.length,0),1,.ex 1⟩:Sl) 1).bind λxs13=>(Hp.app H11 1 8 fu (⟨some (H7.length,0),1,.ex 1⟩:Sl).n xs13).bind λa12=>bj.l29 F c_ a12.1 gO (wrap .i64 (fv+1)) a12.2) else (some ((.sl fu),H7)))
def bj.twX (ac:Int) (H:Hp):OA:=bj.l29 F F (⟨none,0,.ex 0⟩:Sl) ac 0 H
def bj.tw:=bj.twX F
def bj.lh29 (ks:KQ) (n:Nat) (tm:Tm) (H:Hp):OA:=match ks,tm 3,tm 5,tm 6 with
 | [],(.sl fu),(.int .i64 gO),(.int .i64 fv)=>bj.l29 F n fu gO fv H
 | _,_,_,_=>none
def bj.lh (p:Nat) (ks:KQ) (n:Nat) (tm:Tm) (H:Hp):OA:=bif p.beq 29 then bj.lh29 F ks n tm H else (none)
def mk12 (g:K_) (args:KW) (H:Hp):OA:=match args with
 | [(.int .i64 ac)]=>g ac H
 | _=>none
theorem mk12_E (g:K_) (ac:Int) (H:Hp):mk12 g [(.int .i64 ac)] H=g ac H:=rfl
theorem bj.loops:LO (aS []) aK (bj.lh F) F Try.f125:=
 (af.rt (af.rt (af.lt (af.rt (af.block (af.la (λn tm H r h=>by change bj.lh29 F [] n tm H=_ at h;unfold bj.lh29 at h;split at h;have e:bM tm [(3,_),(5,_),(6,_)]:=⟨‹_›,‹_›,‹_›,trivial⟩;obtain _ | k29:=n;cases h;exact ⟨_,rfl,by rw [<- bP e];exact Eq.trans (by kernel_rfl) h⟩;cases h) λk29=>af.no))))))
theorem bj.k:Ok Try.prog 125 (mk12 (bj.tw F)):=by
 intro args H v H' h
 unfold mk12 at h
 split at h
 ·exact okT (PN:=aK) (LH:=(bj.lh F)) (F:=F) (TB:=aK) Try.func125 bB (bj.loops F) (Eq.trans (by kernel_rfl) h) (by kernel_rfl)
 ·cases h
def aO.j2 (F:Nat) (C7_:LG) (EV:Sl) (mC:Int) (mD:Int) (EW:Sl) (mE:Int) (mF:Int) (H50:Hp):OA:=C7_ EV mC mD EW mE (wrap .i64 (mF+1)) H50
def aO.l7 (F:Nat) :Nat->Sl->Int->Int->Sl->Int->Int->Hp->OA
 | 0,_,_,_,_,_,_,_=>none
 | zh+1,gP,fW,fX,nW,fY,eT,H16=>(bif (decide (eT<fY)) then ((Sl.idx nW eT 1).bind λp34=>(Hp.ldI H16 .i64 p34.1 p34.2).bind λn35=>(bif (n35==fW) then ((Sl.idx gP eT 1).bind λp36=>(Hp.st H16 p36.1 p36.2 (.int .i64 fX)).bind λH37=>aO.j2 F (aO.l7 F zh) gP fW fX nW fY eT H37) else (aO.j2 F (aO.l7 F zh) gP fW fX nW fY eT H16))) else (some ((.tup []),H16)))
def aO.twX (ac:Sl) (ar:Int) (cA:Int) (H:Hp):OA:=(Sl.idx ac cA 1).bind λp4=>(Hp.ldI H .i64 p4.1 p4.2).bind λn5=>(Sl.idx ac ar 1).bind λp6=>(Hp.ldI H .i64 p6.1 p6.2).bind λn7=>aO.l7 F F ac n5 n7 ac (ac.n:Int) 0 H
def aO.tw:=aO.twX F
def aO.lh7 (ks:KQ) (n:Nat) (tm:Tm) (H:Hp):OA:=match ks,tm 0,tm 6,tm 7,tm 18,tm 19,tm 20 with
 | [],(.sl gP),(.int .i64 fW),(.int .i64 fX),(.sl nW),(.int .i64 fY),(.int .i64 eT)=>aO.l7 F n gP fW fX nW fY eT H
 | _,_,_,_,_,_,_=>none
def aO.lh (p:Nat) (ks:KQ) (n:Nat) (tm:Tm) (H:Hp):OA:=bif p.beq 7 then aO.lh7 F ks n tm H else (none)
def aO.tb:Nat->List (List Nat):=cN [(0,[[],[],[0,1],[0,1,2],[],[],[4,5],[4,5,6],[0,1,2,3],[0,1,2,3,4,5,6,7,8]])]
def mk13 (g:KU) (args:KW) (H:Hp):OA:=match args with
 | [(.sl ac),(.int .i64 ar),(.int .i64 cA)]=>g ac ar cA H
 | _=>none
theorem mk13_E (g:KU) (ac:Sl) (ar:Int) (cA:Int) (H:Hp):mk13 g [(.sl ac),(.int .i64 ar),(.int .i64 cA)] H=g ac ar cA H:=rfl
theorem aO.loops:LO (aS []) aK (aO.lh F) F Try.f129:=
 (af.rt (af.rt (af.block (af.la (λn tm H r h=>by change aO.lh7 F [] n tm H=_ at h;unfold aO.lh7 at h;split at h;have e:bM tm [(0,_),(6,_),(7,_),(18,_),(19,_),(20,_)]:=⟨‹_›,‹_›,‹_›,‹_›,‹_›,‹_›,trivial⟩;obtain _ | k7:=n;cases h;exact ⟨_,rfl,by rw [<- bP e];exact Eq.trans (by kernel_rfl) h⟩;cases h) λk7=>af.no))))
theorem aO.k:Ok Try.prog 129 (mk13 (aO.tw F)):=by
 intro args H v H' h
 unfold mk13 at h
 split at h
 ·exact okT (PN:=aK) (LH:=(aO.lh F)) (F:=F) (TB:=aO.tb) Try.func129 bB (aO.loops F) (Eq.trans (by kernel_rfl) h) (by kernel_rfl)
 ·cases h
theorem nm_law:Keyed Try.prog 2:=int_keyed Try.underlying2
theorem nm_zero (w:World):(zeroValue 2).run Try.prog w=.ok (.int .i64 0) w:=by kernel_rfl
theorem nm_info:(Try.prog.info? 2).map (λi=>(i.zero,i.size,i.bytes))=some (some (.int .i64 0),1,8):=by kernel_rfl
theorem nm_none (a:Option Addr) (cap:Nat) (w:World):Calls Try.prog 130 #[.slice a 0 cap] w λe w'=>e=.returned (.slice none 0 0)/\Below w.heap.size w w':=by
 have hmm:=@run_makeMap Try.prog
 go_enter Try.func130,Try.ntmps130
 go_wp2
 refine wp_loop_rounds 1 ?_
 rw [rounds_succ]
 go_wp2
 go_ret
 exact ⟨rfl,(Below.refl _ _).alloc (Nat.le_refl _) _⟩
theorem nm_any (b off len cap:Nat) (zs:KS) (w:World) (hreach:len<=4294967296) (hz:len<=zs.length) (hb:b<w.heap.size)
  (hc:∀ j,j<zs.length->w.cell? ⟨b,off+j,none⟩=some (.int .i64 (zs.getD j 0))) (hwz:∀ n∈zs,(Lit.int .i64 n).wf=true) :
  Calls Try.prog 130 #[.slice (some ⟨b,off,none⟩) len cap] w λe w'=>∃ v,e=.returned v/\w'.ownsRow (w.heap.size+1) 2 1 v len ((nst zs len).2.map (Value.int .i64))/\Below w.heap.size w w':=by
 have hmm:=@run_makeMap Try.prog
 obtain ⟨i0,hi,hz0,hz1,hz2⟩:=info_parts nm_info
 go_enter Try.func130,Try.ntmps130
 go_wp2
 go_loopw [4,12] (λv i wr=>∃ (k:Nat) (D:DataW Unit),k<=len/\i=.int .i64 k/\wr.ownsMap Try.prog 2 (plainElem Try.prog 2) w.heap.size k D/\ND D (nst zs k).1 /\
   wr.ownsRow (w.heap.size+1) 2 1 v k ((nst zs k).2.map (Value.int .i64))/\Below w.heap.size w wr/\w.heap.size+1<=wr.heap.size)
  (λ_ i _=>len - (intOf i).toNat)
 case atStart=>exact ⟨0,.map [],Nat.zero_le _,rfl,World.ownsMap_made _ _ _ _,ND.nil,World.ownsRow_nil _ _ _ _,(Below.refl _ _).alloc (Nat.le_refl _) _,by simp⟩
 case round=>
  obtain ⟨k,D,hk,rfl,hown,hD,hrow,hnx,hws⟩:=hrel
  obtain ⟨x,hx⟩:∃ x,x=zs.getD k 0:=⟨_,rfl⟩
  have hwx:(Lit.int .i64 x).wf=true:=by rw [hx];exact IM hwz k
  have hcx:k<len->wr.cell? ⟨b,off+k,none⟩=some (.int .i64 x):=λ_=>by rw [hx];exact (hnx.cell (by exact hb)).trans (hc k (by omega))
  have hkey:keyOf Try.prog 2 (.int .i64 x)=some (.int .i64 x):=keyOf_int_mk Try.underlying2 hwx
  have hl1:=CT zs k
  have hs1:Maps.size D<=k:=by rw [hD.size];exact hl1
  have hht:=hown.tidy nm_law
  have n1:nst zs (k+1)=(bif (nst zs k).1.contains x then (nst zs k).1 else (nst zs k).1++[x],(nst zs k).2++[(((bif (nst zs k).1.contains x then (nst zs k).1 else (nst zs k).1++[x]).idxOf x:Nat):Int)]):=by rw [hx];rfl
  clear hx
  go_wp2_with (first
   | (at_lookup;first
     | (refine wpList_lookup_own_ok_int _ rfl _ _ 181 rfl 2 2 .i64 nm_law Try.underlying181 Try.underlying2 (nm_zero _) w.heap.size k _ rfl hown _ _ rfl hkey ?_;intro c hat hwc)
     | (refine wpList_lookup_own_int _ rfl _ _ 181 rfl 2 2 .i64 nm_law Try.underlying181 Try.underlying2 (nm_zero _) w.heap.size (k+1) _ rfl hown1 _ _ rfl hkey ?_;intro c2 hat2 hwc2)
     | (refine wpList_lookup_own_int _ rfl _ _ 181 rfl 2 2 .i64 nm_law Try.underlying181 Try.underlying2 (nm_zero _) w.heap.size k _ rfl hown _ _ rfl hkey ?_;intro c2 hat2 hwc2))
   | (at_len;refine wpList_len_own _ rfl _ 181 rfl 2 2 Try.underlying181 _ w.heap.size k _ rfl hown ?_)
   | (at_mapUpdate;refine wpList_mapUpdate_own _ rfl _ _ _ 181 rfl 2 2 nm_law Try.underlying181 (plainElem Try.prog 2) w.heap.size k _ rfl hown (by unfold maxLen;omega) _ _ _ rfl rfl hkey _ [] (plainElem_int Try.underlying2 (WalkArith.wf_i64 (by omega))) ?_;intro w1 hown1 hgrow1)
   | (at_builtin;first
     | (refine wpList_append_own _ rfl _ _ 47 rfl (w.heap.size+1) 2 i0 (.int .i64 0) 1 8 Try.underlying47 hi hz0 hz1 hz2 rfl (by decide) _ _ _ rfl ((hrow.kept hgrow1 (Or.inr (sG hrow (Nat.lt_succ_self _)).symm)).alloc _) ⟨w1.heap.size,0,none⟩ 1 1 [.int .i64 c2] rfl rfl (cell_one_new _ _ _) (ints_oneCell .i64 [c2]) (by unfold maxLen;omega) (by omega) (by have:=hgrow1.size;simp at this ⊢;omega) ?_;intro v' w2 hown' hgrow2 hnil2)
     | (refine wpList_append_own _ rfl _ _ 47 rfl (w.heap.size+1) 2 i0 (.int .i64 0) 1 8 Try.underlying47 hi hz0 hz1 hz2 rfl (by decide) _ _ _ rfl (hrow.alloc _) ⟨wr.heap.size,0,none⟩ 1 1 [.int .i64 c2] rfl rfl (cell_one_new _ _ _) (ints_oneCell .i64 [c2]) (by unfold maxLen;omega) (by omega) (by simp;omega) ?_;intro v' w2 hown' hgrow2 hnil2))
   | go_in)
  ·have hlt:k<len:=by assumption
   have ht:(!Maps.has D (Lit.int .i64 x))=true:=by assumption
   have hc0:(nst zs k).1.contains x=false:=by rw [<- hD.has x];simpa using ht
   have hr1:=hrow.kept hgrow1 (Or.inr (sG hrow (Nat.lt_succ_self _)).symm)
   have s1:=hgrow1.size
   have s2:=hgrow2.size
   simp at s1 s2
   have hD1:=hD.new hht hc0
   rw [hD1.at_ x (by simp) _] at hat2
   have e2:c2=(((nst zs k).1++[x]).idxOf x:Nat):=by injection hat2 with q;injection q with _ q;exact q.symm
   rw [hc0,cond_false] at n1
   go_roundw
   case rel=>
    refine ⟨k+1,_,by omega,by go_num,(hown1.alloc _).kept hgrow2 (sG hr1 (Nat.lt_succ_self _)),by rw [n1];exact hD1,?_,?_,by omega⟩
    ·rw [n1,List.map_append,<-e2];exact hown'
    ·exact (((hnx.grown hgrow1 hnx.size (λj hj=>by cases hj;exact Nat.le_refl _)).alloc (by omega) _).grown hgrow2 (by simp;omega) (λj hj=>Nat.le_trans (Nat.le_succ _) (hr1.lt j hj).1))
   case measure=>simp [intOf];omega
  ·have hlt:k<len:=by assumption
   have ht:(!Maps.has D (Lit.int .i64 x))=false:=by assumption
   have hc1:(nst zs k).1.contains x=true:=by rw [<- hD.has x];simpa using ht
   have s2:=hgrow2.size
   simp at s2
   rw [hD.at_ x hc1 _] at hat2
   have e2:c2=((nst zs k).1.idxOf x:Nat):=by injection hat2 with q;injection q with _ q;exact q.symm
   rw [hc1,cond_true] at n1
   go_roundw
   case rel=>
    refine ⟨k+1,_,by omega,by go_num,((hown.alloc _).kept hgrow2 (sG hrow (Nat.lt_succ_self _))).mono (Nat.le_succ _),by rw [n1];exact hD,?_,?_,by omega⟩
    ·rw [n1,List.map_append,<-e2];exact hown'
    ·exact ((hnx.alloc hnx.size _).grown hgrow2 (by simp;omega) (λj hj=>Nat.le_trans (Nat.le_succ _) (hrow.lt j hj).1))
   case measure=>simp [intOf];omega
  ·have:k=len:=by omega
   subst this
   go_ret
   exact ⟨_,rfl,hrow,hnx⟩
theorem nm_ok:NumOk Try.prog 130 2:=⟨nm_none,nm_any⟩
def bS.tw (F:Nat) (ac:Sl) (H:Hp):OA:=pM ac H
def bS.mk (g:KP) (args:KW) (H:Hp):OA:=match args with
 | [.sl ac]=>g ac H
 | _=>none
theorem bS.T {F:Nat} {ac:Sl} {H:Hp} {v:AV} {H':Hp} (h:bS.tw F ac H=some (v,H')):Go.AE.T Try.prog 130 [.sl ac] H v H':=
 nm_ok.T (IN Try.func130 (by kernel_rfl) (by kernel_rfl)) h
theorem bS.mk_T {F:Nat} {args:KW} {H:Hp} {v:AV} {H':Hp} (h:bS.mk (bS.tw F) args H=some (v,H')):Go.AE.T Try.prog 130 args H v H':=by
 unfold bS.mk at h
 split at h
 ·exact bS.T h
 ·cases h
theorem bS.k:Ok Try.prog 130 (bS.mk (bS.tw F)):=λ_ _ _ _ h=>bS.mk_T h
def bc.l29 (F:Nat) (bE:KP) (bT:K_) (bU:KU) (bV:KP) :Nat->Nat->Nat->Sl->Sl->Int->Int->Hp->OA
 | 0,_,_,_,_,_,_,_=>none
 | c_+1,ji,qx,nX,qy,gQ,fw,H26=>(bif (decide (fw<gQ)) then ((Sl.idx qy fw 2).bind λp40=>(Hp.ldI H26 .i64 p40.1 p40.2).bind λn41=>(Hp.ldI H26 .i64 p40.1 (p40.2+1)).bind λn42=>(Hp.new H26 [.int .i64 0,.int .i64 0]).bind λH43=>(Hp.st H43 H26.length 0 (.int .i64 n41)).bind λH44=>(Hp.st H44 H26.length (0+1) (.int .i64 n42)).bind λH45=>(Hp.ldI H45 .i64 H26.length 0).bind λn46=>(Hp.ldSl H45 ji (qx+1)).bind λs47=>(Sl.idx s47 fw 2).bind λp48=>(Hp.ldI H45 .i64 p48.1 p48.2).bind λn49=>(bU nX n46 n49 H45).bind λr50=>bc.l29 F bE bT bU bV c_ ji qx nX qy gQ (wrap .i64 (fw+1)) r50.2) else ((bV nX H26).bind λr51=>((r51.1).asSl).bind λs52=>some ((.sl s52),r51.2)))
termination_by structural n=>n
def bc.twX (bE:KP) (bT:K_) (bU:KU) (bV:KP) (ac:Sl) (ag:Int) (ay:Sl) (bz:Sl) (H:Hp):OA:=(Hp.new H [(.sl ac),(.int .i64 ag)]).bind λH5=>(Hp.new H5 [(.sl ay),(.sl bz)]).bind λH6=>(Hp.ldSl H6 H.length 0).bind λs7=>(bE s7 H6).bind λr8=>((r8.1).asI .i64).bind λn9=>(bT n9 r8.2).bind λr10=>((r10.1).asSl).bind λs11=>(Hp.ldSl r10.2 H5.length 0).bind λs12=>bc.l29 F bE bT bU bV F H5.length 0 s11 s12 (s12.n:Int) 0 r10.2
def bc.tw:=bc.twX F (bQ.tw F) (bj.tw F) (aO.tw F) (bS.tw F)
def bc.lh29 (bE:KP) (bT:K_) (bU:KU) (bV:KP) (ks:KQ) (n:Nat) (tm:Tm) (H:Hp):OA:=match ks,tm 3,tm 5,tm 13,tm 14,tm 15 with
 | [],(.ptr ji qx),(.sl nX),(.sl qy),(.int .i64 gQ),(.int .i64 fw)=>bc.l29 F bE bT bU bV n ji qx nX qy gQ fw H
 | _,_,_,_,_,_=>none
def bc.lh (bE:KP) (bT:K_) (bU:KU) (bV:KP) (p:Nat) (ks:KQ) (n:Nat) (tm:Tm) (H:Hp):OA:=bif p.beq 29 then bc.lh29 F bE bT bU bV ks n tm H else (none)
def bc.pn:Nat->List Nat:=cN [(5,[9])]
def bc.tb:Nat->List (List Nat):=cN [(5,[[],[],[1],[],[3],[],[3,4,5],[3,4,5,6],[3,4,5,6,7],[0,1,2,3,4,5,6,7,8]])]
def bc.cs (F:Nat) (bE:KP) (bT:K_) (bU:KU) (bV:KP):Cs:=[(128,mk3 bE),(125,mk12 bT),(129,mk13 bU),(130,bS.mk bV)]
theorem bc.loops (bE:KP) (bT:K_) (bU:KU) (bV:KP):LO (aS (bc.cs F bE bT bU bV)) bc.pn (bc.lh F bE bT bU bV) F Try.f159:=
 (af.rt (af.rt (af.lt (af.rt (af.block (af.la (λn tm H r h=>by change bc.lh29 F bE bT bU bV [] n tm H=_ at h;unfold bc.lh29 at h;split at h;have e:bM tm [(3,_),(5,_),(13,_),(14,_),(15,_)]:=⟨‹_›,‹_›,‹_›,‹_›,‹_›,trivial⟩;obtain _ | k29:=n;cases h;exact ⟨_,rfl,by rw [<- bP e];exact Eq.trans (by kernel_rfl) h⟩;cases h) λk29=>af.no))))))
theorem bc.eqX (bE:KP) (bT:K_) (bU:KU) (bV:KP) (ac:Sl) (ag:Int) (ay:Sl) (bz:Sl) (H:Hp):EX (aS (bc.cs F bE bT bU bV)) bc.pn (bc.lh F bE bT bU bV) F Try.f159 [(.agg [(.sl ac),(.int .i64 ag)]),(.agg [(.sl ay),(.sl bz)])] H=bc.twX F bE bT bU bV ac ag ay bz H:=by kernel_rfl
theorem bc.k:Ok Try.prog 159 (mk11 (bc.tw F)):=by
 intro args H v H' h
 unfold mk11 at h
 split at h
 ·exact okT (TB:=bc.tb) Try.func159 (aQ (bQ.k F) (aQ (bj.k F) (aQ (aO.k F) (aQ (bS.k F) bB)))) (bc.loops F (bQ.tw F) (bj.tw F) (aO.tw F) (bS.tw F)) ((bc.eqX F (bQ.tw F) (bj.tw F) (aO.tw F) (bS.tw F) _ _ _ _ H).trans h) (by kernel_rfl)
 ·cases h
def a_.l61 (F:Nat) :Nat->Sl->Int->Int->Hp->OA
 | 0,_,_,_,_=>none
 | cf+1,gP,es,fZ,H13=>(bif (decide (fZ<(gP.n:Int))) then ((Sl.idx gP fZ 1).bind λp16=>(Hp.ldI H13 .i64 p16.1 p16.2).bind λn17=>a_.l61 F cf gP (if n17>es then n17 else es) (wrap .i64 (fZ+1)) H13) else (some ((.int .i64 es),H13)))
def a_.j1 (zi:Sl) (H5:Hp):OA:=(Sl.idx zi 0 1).bind λp6=>(Hp.ldI H5 .i64 p6.1 p6.2).bind λn7=>a_.l61 F F zi n7 1 H5
def a_.twX (ac:Sl) (H:Hp):OA:=(bif (decide ((ac.n:Int)<1)) then (none) else (a_.j1 F ac H))
def a_.tw:=a_.twX F
def a_.lh61 (ks:KQ) (n:Nat) (tm:Tm) (H:Hp):OA:=match ks,tm 0,tm 3,tm 4 with
 | [],(.sl gP),(.int .i64 es),(.int .i64 fZ)=>a_.l61 F n gP es fZ H
 | _,_,_,_=>none
def a_.lh (p:Nat) (ks:KQ) (n:Nat) (tm:Tm) (H:Hp):OA:=bif p.beq 61 then a_.lh61 F ks n tm H else (none)
theorem a_.loops:LO (aS []) aK (a_.lh F) F Try.f171:=
 (af.rt (af.rt (af.rt (af.lt (af.rt (af.block (af.la (λn tm H r h=>by change a_.lh61 F [] n tm H=_ at h;unfold a_.lh61 at h;split at h;have e:bM tm [(0,_),(3,_),(4,_)]:=⟨‹_›,‹_›,‹_›,trivial⟩;obtain _ | k61:=n;cases h;exact ⟨_,rfl,by rw [<- bP e];exact Eq.trans (by kernel_rfl) h⟩;cases h) λk61=>af.no)))))))
theorem a_.k:Ok Try.prog 171 (mk3 (a_.tw F)):=by
 intro args H v H' h
 unfold mk3 at h
 split at h
 ·exact okT (PN:=aK) (LH:=(a_.lh F)) (F:=F) (TB:=aK) Try.func171 bB (a_.loops F) (Eq.trans (by kernel_rfl) h) (by kernel_rfl)
 ·cases h
def cp.twX (F:Nat) (mG:KP) (ac:Sl) (H:Hp):OA:=(bif ((ac.n:Int)==0) then (some ((.int .i64 0),H)) else ((mG ac H).bind λr2=>((r2.1).asI .i64).bind λn3=>some ((.int .i64 (wrap .i64 (n3+1))),r2.2)))
def cp.tw:=cp.twX F (a_.tw F)
def cp.cs (F:Nat) (mG:KP):Cs:=[(171,mk3 mG)]
theorem cp.eqX (mG:KP) (ac:Sl) (H:Hp):EX (aS (cp.cs F mG)) aK lh0 F Try.f131 [(.sl ac)] H=cp.twX F mG ac H:=by kernel_rfl
theorem cp.k:Ok Try.prog 131 (mk3 (cp.tw F)):=by
 intro args H v H' h
 unfold mk3 at h
 split at h
 ·exact okT (TB:=aK) Try.func131 (aQ (a_.k F) bB) af.no ((cp.eqX F (a_.tw F) _ H).trans h) (by kernel_rfl)
 ·cases h
def ca.twX (F:Nat) (bE:KP) (fS:KY) (mH:KP) (mI:KN) (mJ:Ln) (mK:KP) (mL:Ln) (cW:KP) (ac:Sl) (ag:Int) (H:Hp):OA:=(Hp.new H [(.sl ac),(.int .i64 ag)]).bind λH3=>(Hp.new H3 [.sl ⟨none,0,.ex 0⟩,.sl ⟨none,0,.ex 0⟩]).bind λH4=>(Hp.ldSl H4 H.length 0).bind λs5=>(bE s5 H4).bind λr6=>((r6.1).asI .i64).bind λn7=>(bif (decide (n7>10)) then ((Hp.st r6.2 H3.length 0 (.sl (⟨none,0,.ex 0⟩:Sl))).bind λH8=>(Hp.st H8 H3.length (0+1) (.sl (⟨none,0,.ex 0⟩:Sl))).bind λH9=>(Hp.ldSl H9 H3.length 0).bind λs10=>(Hp.ldSl H9 H3.length (0+1)).bind λs11=>some ((.tup [(.agg [(.sl s10),(.sl s11)]),(.bool false)]),H9)) else ((Hp.ldI r6.2 .i64 H.length 1).bind λn12=>(fS n12 0 8 r6.2).bind λr13=>((r13.1).asB).bind λb14=>(bif (!b14) then ((Hp.st r13.2 H3.length 0 (.sl (⟨none,0,.ex 0⟩:Sl))).bind λH15=>(Hp.st H15 H3.length (0+1) (.sl (⟨none,0,.ex 0⟩:Sl))).bind λH16=>(Hp.ldSl H16 H3.length 0).bind λs17=>(Hp.ldSl H16 H3.length (0+1)).bind λs18=>some ((.tup [(.agg [(.sl s17),(.sl s18)]),(.bool false)]),H16)) else ((Hp.ldSl r13.2 H.length 0).bind λs19=>(mH s19 r13.2).bind λr20=>((r20.1).asB).bind λb21=>(bif b21 then ((Hp.st r20.2 H3.length 0 (.sl (⟨none,0,.ex 0⟩:Sl))).bind λH22=>(Hp.st H22 H3.length (0+1) (.sl (⟨none,0,.ex 0⟩:Sl))).bind λH23=>(Hp.ldSl H23 H3.length 0).bind λs24=>(Hp.ldSl H23 H3.length (0+1)).bind λs25=>some ((.tup [(.agg [(.sl s24),(.sl s25)]),(.bool false)]),H23)) else ((Hp.ldSl r20.2 H.length 0).bind λs26=>(Hp.ldI r20.2 .i64 H.length (0+1)).bind λn27=>(mI s26 n27 r20.2).bind λr28=>((r28.1).asTup 2).bind λl29=>(l29[0]?).bind λv30=>((v30).asAgg 2).bind λl31=>(l31[0]?).bind λv32=>((v32).asSl).bind λs33=>(l31[1]?).bind λv34=>((v34).asSl).bind λs35=>(l29[1]?).bind λv36=>((v36).asB).bind λb37=>(Hp.new r28.2 [.sl ⟨none,0,.ex 0⟩,.sl ⟨none,0,.ex 0⟩]).bind λH38=>(Hp.st H38 r28.2.length 0 (.sl s33)).bind λH39=>(Hp.st H39 r28.2.length (0+1) (.sl s35)).bind λH40=>(bif (!b37) then ((Hp.st H40 H3.length 0 (.sl (⟨none,0,.ex 0⟩:Sl))).bind λH41=>(Hp.st H41 H3.length (0+1) (.sl (⟨none,0,.ex 0⟩:Sl))).bind λH42=>(Hp.ldSl H42 H3.length 0).bind λs43=>(Hp.ldSl H42 H3.length (0+1)).bind λs44=>some ((.tup [(.agg [(.sl s43),(.sl s44)]),(.bool false)]),H42)) else ((Hp.ldSl H40 H.length 0).bind λs45=>(Hp.ldI H40 .i64 H.length (0+1)).bind λn46=>(Hp.ldSl H40 r28.2.length 0).bind λs47=>(Hp.ldSl H40 r28.2.length (0+1)).bind λs48=>(mJ s45 n46 s47 s48 H40).bind λr49=>((r49.1).asSl).bind λs50=>(if aH H40 r49.2 then ((mK s50 r49.2).bind λr51=>((r51.1).asI .i64).bind λn52=>(if aH r49.2 r51.2 then ((Hp.ldSl r51.2 H.length 0).bind λs53=>(Hp.ldI r51.2 .i64 H.length (0+1)).bind λn54=>(Hp.ldSl r51.2 r28.2.length 0).bind λs55=>(Hp.ldSl r51.2 r28.2.length (0+1)).bind λs56=>(mL s53 n54 s55 s56 r51.2).bind λr57=>((r57.1).asSl).bind λs58=>(cW s58 r57.2).bind λr59=>((r59.1).asI .i64).bind λn60=>(bif (n52 != (wrap .i64 (n7+(wrap .i64 (2 * n60))))) then ((Hp.st r59.2 H3.length 0 (.sl (⟨none,0,.ex 0⟩:Sl))).bind λH61=>(Hp.st H61 H3.length (0+1) (.sl (⟨none,0,.ex 0⟩:Sl))).bind λH62=>(Hp.ldSl H62 H3.length 0).bind λs63=>(Hp.ldSl H62 H3.length (0+1)).bind λs64=>some ((.tup [(.agg [(.sl s63),(.sl s64)]),(.bool false)]),H62)) else ((Hp.ldSl r59.2 r28.2.length 0).bind λs65=>(Hp.ldSl r59.2 r28.2.length (0+1)).bind λs66=>(Hp.st r59.2 H3.length 0 (.sl s65)).bind λH67=>(Hp.st H67 H3.length (0+1) (.sl s66)).bind λH68=>(Hp.ldSl H68 H3.length 0).bind λs69=>(Hp.ldSl H68 H3.length (0+1)).bind λs70=>some ((.tup [(.agg [(.sl s69),(.sl s70)]),(.bool true)]),H68)))) else none)) else none)))))))))
def ca.tw:=ca.twX F (bQ.tw F) (db.tw F) (dc.tw F) (aI.tw F) (ax.tw F) (ef.tw F) (bc.tw F) (cp.tw F)
def ca.pn:Nat->List Nat:=cN [(5,[10,11])]
def ca.tb:Nat->List (List Nat):=cN [(5,[[],[0],[0,1],[0,1,2],[0,1,2],[0,1,2,3,4],[0,1,2,3,4,5],[0,1,2],[0,1,2],[0,1,2],[0,1,2,3,4,5,6,8,9],[0,1,2,3,4,5,6,8,9,10],[0,1,2,3,4,5,6,8,9,10,11],[0,1,2,3,4,5,6,7,8,9,10,11,12],[0,1,2,3,4,5,6,7,8,9,10,11,12,13],[0,1,2,3,4,5,6,7,8,9,10,11,12,13,14]])]
def ca.cs (F:Nat) (bE:KP) (fS:KY) (mH:KP) (mI:KN) (mJ:Ln) (mK:KP) (mL:Ln) (cW:KP):Cs:=[(128,mk3 bE),(112,mk5 fS),(156,mk8 mH),(158,mk4 mI),(104,mk11 mJ),(85,mk3 mK),(159,mk11 mL),(131,mk3 cW)]
theorem ca.eqX (bE:KP) (fS:KY) (mH:KP) (mI:KN) (mJ:Ln) (mK:KP) (mL:Ln) (cW:KP) (ac:Sl) (ag:Int) (H:Hp):EX (aS (ca.cs F bE fS mH mI mJ mK mL cW)) ca.pn lh0 F Try.f103 [(.agg [(.sl ac),(.int .i64 ag)])] H=ca.twX F bE fS mH mI mJ mK mL cW ac ag H:=by kernel_rfl
theorem ca.k:Ok Try.prog 103 (mk4 (ca.tw F)):=by
 intro args H v H' h
 unfold mk4 at h
 split at h
 ·exact okT (TB:=ca.tb) Try.func103 (aQ (bQ.k F) (aQ (db.k F) (aQ (dc.k F) (aQ (aI.k F) (aQ (ax.k F) (aQ (ef.k F) (aQ (bc.k F) (aQ (cp.k F) bB)))))))) af.no ((ca.eqX F (bQ.tw F) (db.tw F) (dc.tw F) (aI.tw F) (ax.tw F) (ef.tw F) (bc.tw F) (cp.tw F) _ _ H).trans h) (by kernel_rfl)
 ·cases h
def cE.twX (F:Nat) (mM:KN) (ac:Sl) (ag:Int) (H:Hp):OA:=(Hp.new H [(.sl ac),(.int .i64 ag)]).bind λH3=>(Hp.ldSl H3 H.length 0).bind λs4=>(Hp.ldI H3 .i64 H.length (0+1)).bind λn5=>(mM s4 n5 H3).bind λr6=>((r6.1).asTup 2).bind λl7=>(l7[0]?).bind λv8=>((v8).asAgg 2).bind λl9=>(l9[0]?).bind λv10=>((v10).asSl).bind λs11=>(l9[1]?).bind λv12=>((v12).asSl).bind λs13=>(l7[1]?).bind λv14=>((v14).asB).bind λb15=>(Hp.new r6.2 [.sl ⟨none,0,.ex 0⟩,.sl ⟨none,0,.ex 0⟩]).bind λH16=>(Hp.st H16 r6.2.length 0 (.sl s11)).bind λH17=>(Hp.st H17 r6.2.length (0+1) (.sl s13)).bind λH18=>some ((.bool b15),H18)
def cE.tw:=cE.twX F (ca.tw F)
def cE.cs (F:Nat) (mM:KN):Cs:=[(103,mk4 mM)]
theorem cE.eqX (mM:KN) (ac:Sl) (ag:Int) (H:Hp):EX (aS (cE.cs F mM)) aK lh0 F Try.f63 [(.agg [(.sl ac),(.int .i64 ag)])] H=cE.twX F mM ac ag H:=by kernel_rfl
theorem cE.k:Ok Try.prog 63 (mk4 (cE.tw F)):=by
 intro args H v H' h
 unfold mk4 at h
 split at h
 ·exact okT (TB:=aK) Try.func63 (aQ (ca.k F) bB) af.no ((cE.eqX F (ca.tw F) _ _ H).trans h) (by kernel_rfl)
 ·cases h
def aP.j1 (F:Nat) (bE:KP) (bT:K_) (bU:KU) (bV:KP) (cW:KP) (qz:Nat) (EY:Nat) (EZ:Sl) (H47:Hp):OA:=(bV EZ H47).bind λr48=>((r48.1).asSl).bind λs49=>(cW s49 r48.2).bind λr50=>((r50.1).asI .i64).bind λn51=>(if aH r48.2 r50.2 then ((Hp.ldI r50.2 .i64 qz (EY+1)).bind λn52=>some ((.tup [(.sl s49),(.int .i64 (wrap .i64 (n51+n52)))]),r50.2)) else none)
def aP.l29 (F:Nat) (bE:KP) (bT:K_) (bU:KU) (bV:KP) (cW:KP) :Nat->Nat->Nat->Sl->Sl->Int->Int->Hp->OA
 | 0,_,_,_,_,_,_,_=>none
 | c_+1,jj,qA,nY,qB,gR,f_,H20=>(bif (decide (f_<gR)) then ((Sl.idx qB f_ 5).bind λp53=>(Hp.ldI H20 .i64 p53.1 p53.2).bind λn54=>(Hp.ldI H20 .i64 p53.1 (p53.2+1)).bind λn55=>(Hp.ldI H20 .i64 p53.1 (p53.2+2)).bind λn56=>(Hp.ldI H20 .i64 p53.1 (p53.2+3)).bind λn57=>(Hp.ldI H20 .i64 p53.1 (p53.2+4)).bind λn58=>(Hp.new H20 [.int .i64 0,.int .i64 0,.int .i64 0,.int .i64 0,.int .i64 0]).bind λH59=>(Hp.st H59 H20.length 0 (.int .i64 n54)).bind λH60=>(Hp.st H60 H20.length (0+1) (.int .i64 n55)).bind λH61=>(Hp.st H61 H20.length (0+1+1) (.int .i64 n56)).bind λH62=>(Hp.st H62 H20.length (0+1+1+1) (.int .i64 n57)).bind λH63=>(Hp.st H63 H20.length (0+1+1+1+1) (.int .i64 n58)).bind λH64=>(Hp.ldI H64 .i64 H20.length 1).bind λn65=>(Hp.ldI H64 .i64 H20.length 3).bind λn66=>(bU nY n65 n66 H64).bind λr67=>aP.l29 F bE bT bU bV cW c_ jj qA nY qB gR (wrap .i64 (f_+1)) r67.2) else (aP.j1 F bE bT bU bV cW jj qA nY H20))
termination_by structural n=>n
def aP.twX (bE:KP) (bT:K_) (bU:KU) (bV:KP) (cW:KP) (ac:Sl) (ag:Int) (H:Hp):OA:=(Hp.new H [(.sl ac),(.int .i64 ag)]).bind λH3=>(Hp.ldSl H3 H.length 0).bind λs4=>(bE s4 H3).bind λr5=>((r5.1).asI .i64).bind λn6=>(bT (wrap .i64 (2 * n6)) r5.2).bind λr7=>((r7.1).asSl).bind λs8=>(Hp.ldSl r7.2 H.length 0).bind λs9=>aP.l29 F bE bT bU bV cW F H.length 0 s8 s9 (s9.n:Int) 0 r7.2
def aP.tw:=aP.twX F (bQ.tw F) (bj.tw F) (aO.tw F) (bS.tw F) (cp.tw F)
def aP.lh29 (bE:KP) (bT:K_) (bU:KU) (bV:KP) (cW:KP) (ks:KQ) (n:Nat) (tm:Tm) (H:Hp):OA:=match ks,tm 1,tm 4,tm 14,tm 15,tm 16 with
 | [],(.ptr jj qA),(.sl nY),(.sl qB),(.int .i64 gR),(.int .i64 f_)=>aP.l29 F bE bT bU bV cW n jj qA nY qB gR f_ H
 | _,_,_,_,_,_=>none
def aP.lh (bE:KP) (bT:K_) (bU:KU) (bV:KP) (cW:KP) (p:Nat) (ks:KQ) (n:Nat) (tm:Tm) (H:Hp):OA:=bif p.beq 29 then aP.lh29 F bE bT bU bV cW ks n tm H else (none)
def aP.tb:Nat->List (List Nat):=cN [(8,[[],[],[1],[],[3],[1,2,3,4],[0,1,2],[0,1,2,3,4,5,6]])]
def aP.cs (F:Nat) (bE:KP) (bT:K_) (bU:KU) (bV:KP) (cW:KP):Cs:=[(128,mk3 bE),(125,mk12 bT),(129,mk13 bU),(130,bS.mk bV),(131,mk3 cW)]
theorem aP.loops (bE:KP) (bT:K_) (bU:KU) (bV:KP) (cW:KP):LO (aS (aP.cs F bE bT bU bV cW)) aK (aP.lh F bE bT bU bV cW) F Try.f64:=
 (af.rt (af.rt (af.lt (af.rt (af.block (af.la (λn tm H r h=>by change aP.lh29 F bE bT bU bV cW [] n tm H=_ at h;unfold aP.lh29 at h;split at h;have e:bM tm [(1,_),(4,_),(14,_),(15,_),(16,_)]:=⟨‹_›,‹_›,‹_›,‹_›,‹_›,trivial⟩;obtain _ | k29:=n;cases h;exact ⟨_,rfl,by rw [<- bP e];exact Eq.trans (by kernel_rfl) h⟩;cases h) λk29=>af.no))))))
theorem aP.eqX (bE:KP) (bT:K_) (bU:KU) (bV:KP) (cW:KP) (ac:Sl) (ag:Int) (H:Hp):EX (aS (aP.cs F bE bT bU bV cW)) aK (aP.lh F bE bT bU bV cW) F Try.f64 [(.agg [(.sl ac),(.int .i64 ag)])] H=aP.twX F bE bT bU bV cW ac ag H:=by kernel_rfl
theorem aP.k:Ok Try.prog 64 (mk4 (aP.tw F)):=by
 intro args H v H' h
 unfold mk4 at h
 split at h
 ·exact okT (TB:=aP.tb) Try.func64 (aQ (bQ.k F) (aQ (bj.k F) (aQ (aO.k F) (aQ (bS.k F) (aQ (cp.k F) bB))))) (aP.loops F (bQ.tw F) (bj.tw F) (aO.tw F) (bS.tw F) (cp.tw F)) ((aP.eqX F (bQ.tw F) (bj.tw F) (aO.tw F) (bS.tw F) (cp.tw F) _ _ H).trans h) (by kernel_rfl)
 ·cases h
def bk.l61 (F:Nat) (bY:KN) :Nat->Sl->Sl->Sl->Int->Int->Hp->OA
 | 0,_,_,_,_,_,_=>none
 | cf+1,gl,qC,e_,de,ga,H23=>(bif (decide (ga<de)) then ((Sl.idx e_ ga 5).bind λp51=>(Hp.ldI H23 .i64 p51.1 p51.2).bind λn52=>(Hp.ldI H23 .i64 p51.1 (p51.2+1)).bind λn53=>(Hp.ldI H23 .i64 p51.1 (p51.2+2)).bind λn54=>(Hp.ldI H23 .i64 p51.1 (p51.2+3)).bind λn55=>(Hp.ldI H23 .i64 p51.1 (p51.2+4)).bind λn56=>(Hp.new H23 [.int .i64 0,.int .i64 0,.int .i64 0,.int .i64 0,.int .i64 0]).bind λH57=>(Hp.st H57 H23.length 0 (.int .i64 n52)).bind λH58=>(Hp.st H58 H23.length (0+1) (.int .i64 n53)).bind λH59=>(Hp.st H59 H23.length (0+1+1) (.int .i64 n54)).bind λH60=>(Hp.st H60 H23.length (0+1+1+1) (.int .i64 n55)).bind λH61=>(Hp.st H61 H23.length (0+1+1+1+1) (.int .i64 n56)).bind λH62=>(Hp.ldI H62 .i64 H23.length 0).bind λn63=>(Sl.idx gl n63 1).bind λp64=>(Hp.ldI H62 .i64 p64.1 p64.2).bind λn65=>(Hp.ldI H62 .i64 H23.length 2).bind λn66=>(Sl.idx gl n66 1).bind λp67=>(Hp.ldI H62 .i64 p67.1 p67.2).bind λn68=>(Hp.ldI H62 .i64 H23.length 1).bind λn69=>(Sl.idx gl n69 1).bind λp70=>(Hp.ldI H62 .i64 p70.1 p70.2).bind λn71=>(Hp.ldI H62 .i64 H23.length 4).bind λn72=>(Hp.ldI H62 .i64 H23.length 4).bind λn73=>(Hp.new H62 [(.int .i64 (wrap .i64 (n68+1))),(.int .i64 (wrap .i64 (n72 * (wrap .i64 (n71+1))))),(.int .i64 (wrap .i64 (0 - (wrap .i64 (n65+1))))),(.int .i64 (wrap .i64 ((wrap .i64 (0 - n73)) * (wrap .i64 (n71+1)))))]).bind λH74=>(Hp.new H74 [(.sl (⟨some (H62.length,0),4,.ex 4⟩:Sl))]).bind λH75=>(Sl.row H75 (⟨some (H74.length,0),1,.ex 1⟩:Sl) 1).bind λxs77=>(Hp.app H75 1 24 qC (⟨some (H74.length,0),1,.ex 1⟩:Sl).n xs77).bind λa76=>bk.l61 F bY cf gl a76.1 e_ de (wrap .i64 (ga+1)) a76.2) else (some ((.sl qC),H23)))
def bk.twX (bY:KN) (ac:Sl) (ag:Int) (H:Hp):OA:=(Hp.new H [(.sl ac),(.int .i64 ag)]).bind λH3=>(Hp.ldSl H3 H.length 0).bind λs4=>(Hp.ldI H3 .i64 H.length (0+1)).bind λn5=>(bY s4 n5 H3).bind λr6=>((r6.1).asTup 2).bind λl7=>(l7[0]?).bind λv8=>((v8).asSl).bind λs9=>(l7[1]?).bind λv10=>((v10).asI .i64).bind λn11=>(Hp.ldSl r6.2 H.length 0).bind λs12=>bk.l61 F bY F s9 (⟨none,0,.ex 0⟩:Sl) s12 (s12.n:Int) 0 r6.2
def bk.tw:=bk.twX F (aP.tw F)
def bk.lh61 (bY:KN) (ks:KQ) (n:Nat) (tm:Tm) (H:Hp):OA:=match ks,tm 3,tm 5,tm 17,tm 18,tm 19 with
 | [],(.sl gl),(.sl qC),(.sl e_),(.int .i64 de),(.int .i64 ga)=>bk.l61 F bY n gl qC e_ de ga H
 | _,_,_,_,_,_=>none
def bk.lh (bY:KN) (p:Nat) (ks:KQ) (n:Nat) (tm:Tm) (H:Hp):OA:=bif p.beq 61 then bk.lh61 F bY ks n tm H else (none)
def bk.tb:Nat->List (List Nat):=cN [(6,[[],[],[1],[0,1,2],[0,1,2,3],[0,1,2,3,4],[],[],[7],[6,7,8],[6,7,8,9],[6,7,8,9,10],[],[],[13],[12,13,14],[12,13,14,15],[12,13,14,15,16],[0,1,2,3,4,5],[0,1,2,3,4,5,6,7,8,9,10,11,18],[0,1,2,3,4,5,6,7,8,9,10,11,12,13,14,15,16,17,18,19]])]
def bk.cs (F:Nat) (bY:KN):Cs:=[(64,mk4 bY)]
theorem bk.loops (bY:KN):LO (aS (bk.cs F bY)) aK (bk.lh F bY) F Try.f65:=
 (af.rt (af.rt (af.rt (af.lt (af.rt (af.block (af.la (λn tm H r h=>by change bk.lh61 F bY [] n tm H=_ at h;unfold bk.lh61 at h;split at h;have e:bM tm [(3,_),(5,_),(17,_),(18,_),(19,_)]:=⟨‹_›,‹_›,‹_›,‹_›,‹_›,trivial⟩;obtain _ | k61:=n;cases h;exact ⟨_,rfl,by rw [<- bP e];exact Eq.trans (by kernel_rfl) h⟩;cases h) λk61=>af.no)))))))
theorem bk.eqX (bY:KN) (ac:Sl) (ag:Int) (H:Hp):EX (aS (bk.cs F bY)) aK (bk.lh F bY) F Try.f65 [(.agg [(.sl ac),(.int .i64 ag)])] H=bk.twX F bY ac ag H:=by kernel_rfl
theorem bk.k:Ok Try.prog 65 (mk4 (bk.tw F)):=by
 intro args H v H' h
 unfold mk4 at h
 split at h
 ·exact okT (TB:=bk.tb) Try.func65 (aQ (aP.k F) bB) (bk.loops F (aP.tw F)) ((bk.eqX F (aP.tw F) _ _ H).trans h) (by kernel_rfl)
 ·cases h
def bH.j2 (F:Nat) (C29_:Sl->Sl->Int->Int->Hp->OA) (sZ:Sl) (E_:Sl) (Fa:Int) (Fb:Int) (H46:Hp):OA:=C29_ sZ E_ Fa (wrap .i64 (Fb+1)) H46
def bH.l29 (F:Nat) :Nat->Sl->Sl->Int->Int->Hp->OA
 | 0,_,_,_,_,_=>none
 | c_+1,fu,mN,mO,jY,H8=>(bif (decide (jY<mO)) then ((Sl.idx mN jY 1).bind λp31=>(Hp.ldI H8 .i64 p31.1 p31.2).bind λn32=>(bif (decide ((fu.n:Int)>0)) then ((Sl.idx fu (wrap .i64 ((fu.n:Int) - 1)) 1).bind λp33=>(Hp.ldI H8 .i64 p33.1 p33.2).bind λn34=>(bif (n34==(wrap .i64 (0 - n32))) then ((Sl.cut fu 1 0 (wrap .i64 ((fu.n:Int) - 1))).bind λs35=>bH.j2 F (bH.l29 F c_) s35 mN mO jY H8) else ((Hp.new H8 [(.int .i64 n32)]).bind λH47=>(Sl.row H47 (⟨some (H8.length,0),1,.ex 1⟩:Sl) 1).bind λxs49=>(Hp.app H47 1 8 fu (⟨some (H8.length,0),1,.ex 1⟩:Sl).n xs49).bind λa48=>bH.j2 F (bH.l29 F c_) a48.1 mN mO jY a48.2))) else ((Hp.new H8 [(.int .i64 n32)]).bind λH50=>(Sl.row H50 (⟨some (H8.length,0),1,.ex 1⟩:Sl) 1).bind λxs52=>(Hp.app H50 1 8 fu (⟨some (H8.length,0),1,.ex 1⟩:Sl).n xs52).bind λa51=>bH.l29 F c_ a51.1 mN mO (wrap .i64 (jY+1)) a51.2))) else (some ((.sl fu),H8)))
def bH.twX (ac:Sl) (H:Hp):OA:=bH.l29 F F (⟨none,0,.ex 0⟩:Sl) ac (ac.n:Int) 0 H
def bH.tw:=bH.twX F
def bH.lh29 (ks:KQ) (n:Nat) (tm:Tm) (H:Hp):OA:=match ks,tm 3,tm 7,tm 8,tm 9 with
 | [],(.sl fu),(.sl mN),(.int .i64 mO),(.int .i64 jY)=>bH.l29 F n fu mN mO jY H
 | _,_,_,_,_=>none
def bH.lh (p:Nat) (ks:KQ) (n:Nat) (tm:Tm) (H:Hp):OA:=bif p.beq 29 then bH.lh29 F ks n tm H else (none)
theorem bH.loops:LO (aS []) aK (bH.lh F) F Try.f66:=
 (af.rt (af.rt (af.lt (af.rt (af.block (af.la (λn tm H r h=>by change bH.lh29 F [] n tm H=_ at h;unfold bH.lh29 at h;split at h;have e:bM tm [(3,_),(7,_),(8,_),(9,_)]:=⟨‹_›,‹_›,‹_›,‹_›,trivial⟩;obtain _ | k29:=n;cases h;exact ⟨_,rfl,by rw [<- bP e];exact Eq.trans (by kernel_rfl) h⟩;cases h) λk29=>af.no))))))
theorem bH.k:Ok Try.prog 66 (mk3 (bH.tw F)):=by
 intro args H v H' h
 unfold mk3 at h
 split at h
 ·exact okT (PN:=aK) (LH:=(bH.lh F)) (F:=F) (TB:=aK) Try.func66 bB (bH.loops F) (Eq.trans (by kernel_rfl) h) (by kernel_rfl)
 ·cases h
def ba.l125 (F:Nat) (ey:KN) (bY:KN) (ez:KN) (eA:KP) :Nat->Nat->Nat->Nat->Nat->Sl->Int->Int->Hp->OA
 | 0,_,_,_,_,_,_,_,_=>none
 | Fc+1,du,fl,bR,fm,qD,gS,gb,H42=>(bif (decide (gb<gS)) then ((Sl.idx qD gb 1).bind λp58=>(Hp.ldSl H42 p58.1 p58.2).bind λs59=>(Hp.ldSl H42 bR (fm+1)).bind λs60=>(eA s59 H42).bind λr61=>((r61.1).asSl).bind λs62=>(if aH H42 r61.2 then ((Hp.new r61.2 [(.sl s62)]).bind λH63=>(Sl.row H63 (⟨some (r61.2.length,0),1,.ex 1⟩:Sl) 1).bind λxs65=>(Hp.app H63 1 24 s60 (⟨some (r61.2.length,0),1,.ex 1⟩:Sl).n xs65).bind λa64=>(Hp.st a64.2 bR (fm+1) (.sl a64.1)).bind λH66=>ba.l125 F ey bY ez eA Fc du fl bR fm qD gS (wrap .i64 (gb+1)) H66) else none)) else ((Hp.ldI H42 .i64 bR fm).bind λn67=>(Hp.ldSl H42 bR (fm+1)).bind λs68=>(Hp.st H42 du fl (.int .i64 n67)).bind λH69=>(Hp.st H69 du (fl+1) (.sl s68)).bind λH70=>(Hp.ldI H70 .i64 du fl).bind λn71=>(Hp.ldSl H70 du (fl+1)).bind λs72=>some ((.tup [(.agg [(.int .i64 n71),(.sl s72)]),(.int .i64 0)]),H70)))
termination_by structural n=>n
def ba.twX (ey:KN) (bY:KN) (ez:KN) (eA:KP) (ac:Sl) (ag:Int) (H:Hp):OA:=(Hp.new H [(.sl ac),(.int .i64 ag)]).bind λH3=>(Hp.new H3 [.int .i64 0,.sl ⟨none,0,.ex 0⟩]).bind λH4=>(Hp.ldSl H4 H.length 0).bind λs5=>(Hp.ldI H4 .i64 H.length (0+1)).bind λn6=>(ey s5 n6 H4).bind λr7=>((r7.1).asB).bind λb8=>(bif (!b8) then ((Hp.st r7.2 H3.length 0 (.int .i64 0)).bind λH9=>(Hp.st H9 H3.length (0+1) (.sl (⟨none,0,.ex 0⟩:Sl))).bind λH10=>(Hp.ldI H10 .i64 H3.length 0).bind λn11=>(Hp.ldSl H10 H3.length (0+1)).bind λs12=>some ((.tup [(.agg [(.int .i64 n11),(.sl s12)]),(.int .i64 1)]),H10)) else ((Hp.ldSl r7.2 H.length 0).bind λs13=>(Hp.ldI r7.2 .i64 H.length (0+1)).bind λn14=>(bY s13 n14 r7.2).bind λr15=>((r15.1).asTup 2).bind λl16=>(l16[0]?).bind λv17=>((v17).asSl).bind λs18=>(l16[1]?).bind λv19=>((v19).asI .i64).bind λn20=>(Hp.new r15.2 [.int .i64 0,.sl ⟨none,0,.ex 0⟩]).bind λH21=>(Hp.st H21 r15.2.length 0 (.int .i64 n20)).bind λH22=>(Hp.st H22 r15.2.length (0+1) (.sl (⟨none,0,.ex 0⟩:Sl))).bind λH23=>(Hp.ldSl H23 H.length 0).bind λs24=>(Hp.ldI H23 .i64 H.length (0+1)).bind λn25=>(ez s24 n25 H23).bind λr26=>((r26.1).asSl).bind λs27=>ba.l125 F ey bY ez eA F H3.length 0 r15.2.length 0 s27 (s27.n:Int) 0 r26.2))
def ba.tw:=ba.twX F (cE.tw F) (aP.tw F) (bk.tw F) (bH.tw F)
def ba.lh125 (ey:KN) (bY:KN) (ez:KN) (eA:KP) (ks:KQ) (n:Nat) (tm:Tm) (H:Hp):OA:=match ks,tm 2,tm 6,tm 21,tm 22,tm 23 with
 | [],(.ptr du fl),(.ptr bR fm),(.sl qD),(.int .i64 gS),(.int .i64 gb)=>ba.l125 F ey bY ez eA n du fl bR fm qD gS gb H
 | _,_,_,_,_,_=>none
def ba.lh (ey:KN) (bY:KN) (ez:KN) (eA:KP) (p:Nat) (ks:KQ) (n:Nat) (tm:Tm) (H:Hp):OA:=bif p.beq 125 then ba.lh125 F ey bY ez eA ks n tm H else (none)
def ba.pn:Nat->List Nat:=cN [(8,[5,7])]
def ba.tb:Nat->List (List Nat):=cN [(8,[[],[0],[],[2],[2,3],[0,1,2,3,4],[0,1,2,3,4,5],[0,1,2,3,4,5,6]])]
def ba.cs (F:Nat) (ey:KN) (bY:KN) (ez:KN) (eA:KP):Cs:=[(63,mk4 ey),(64,mk4 bY),(65,mk4 ez),(66,mk3 eA)]
theorem ba.loops (ey:KN) (bY:KN) (ez:KN) (eA:KP):LO (aS (ba.cs F ey bY ez eA)) ba.pn (ba.lh F ey bY ez eA) F Try.f14:=
 (af.rt (af.rt (af.rt (af.rt (af.lt (af.rt (af.block (af.la (λn tm H r h=>by change ba.lh125 F ey bY ez eA [] n tm H=_ at h;unfold ba.lh125 at h;split at h;have e:bM tm [(2,_),(6,_),(21,_),(22,_),(23,_)]:=⟨‹_›,‹_›,‹_›,‹_›,‹_›,trivial⟩;obtain _ | k125:=n;cases h;exact ⟨_,rfl,by rw [<- bP e];exact Eq.trans (by kernel_rfl) h⟩;cases h) λk125=>af.no))))))))
theorem ba.eqX (ey:KN) (bY:KN) (ez:KN) (eA:KP) (ac:Sl) (ag:Int) (H:Hp):EX (aS (ba.cs F ey bY ez eA)) ba.pn (ba.lh F ey bY ez eA) F Try.f14 [(.agg [(.sl ac),(.int .i64 ag)])] H=ba.twX F ey bY ez eA ac ag H:=by kernel_rfl
theorem ba.k:Ok Try.prog 14 (mk4 (ba.tw F)):=by
 intro args H v H' h
 unfold mk4 at h
 split at h
 ·exact okT (TB:=ba.tb) Try.func14 (aQ (cE.k F) (aQ (aP.k F) (aQ (bk.k F) (aQ (bH.k F) bB)))) (ba.loops F (cE.tw F) (aP.tw F) (bk.tw F) (bH.tw F)) ((ba.eqX F (cE.tw F) (aP.tw F) (bk.tw F) (bH.tw F) _ _ H).trans h) (by kernel_rfl)
 ·cases h
def bv.l29 (F:Nat) :Nat->Sl->Sl->Int->Hp->OA
 | 0,_,_,_,_=>none
 | c_+1,aZ,aN,bD,H8=>(bif (decide (bD<(aZ.n:Int))) then ((Sl.idx aZ bD 1).bind λp13=>(Hp.ldI H8 .i64 p13.1 p13.2).bind λn14=>(Sl.idx aN bD 1).bind λp15=>(Hp.ldI H8 .i64 p15.1 p15.2).bind λn16=>(bif (n14 != n16) then (some ((.bool false),H8)) else (bv.l29 F c_ aZ aN (wrap .i64 (bD+1)) H8))) else (some ((.bool true),H8)))
def bv.twX (ac:Sl) (ar:Sl) (H:Hp):OA:=(bif ((ac.n:Int) != (ar.n:Int)) then (some ((.bool false),H)) else (bv.l29 F F ac ar 0 H))
def bv.tw:=bv.twX F
def bv.lh29 (ks:KQ) (n:Nat) (tm:Tm) (H:Hp):OA:=match ks,tm 0,tm 1,tm 5 with
 | [],(.sl aZ),(.sl aN),(.int .i64 bD)=>bv.l29 F n aZ aN bD H
 | _,_,_,_=>none
def bv.lh (p:Nat) (ks:KQ) (n:Nat) (tm:Tm) (H:Hp):OA:=bif p.beq 29 then bv.lh29 F ks n tm H else (none)
def bv.tb:Nat->List (List Nat):=cN [(6,[[],[],[0,1],[0,1,2],[],[],[4,5],[4,5,6],[0,1,2,3,4,5,6,7]])]
def mk14 (g:Ld) (args:KW) (H:Hp):OA:=match args with
 | [(.sl ac),(.sl ar)]=>g ac ar H
 | _=>none
theorem mk14_E (g:Ld) (ac:Sl) (ar:Sl) (H:Hp):mk14 g [(.sl ac),(.sl ar)] H=g ac ar H:=rfl
theorem bv.loops:LO (aS []) aK (bv.lh F) F Try.f90:=
 (af.rt (af.rt (af.lt (af.rt (af.block (af.la (λn tm H r h=>by change bv.lh29 F [] n tm H=_ at h;unfold bv.lh29 at h;split at h;have e:bM tm [(0,_),(1,_),(5,_)]:=⟨‹_›,‹_›,‹_›,trivial⟩;obtain _ | k29:=n;cases h;exact ⟨_,rfl,by rw [<- bP e];exact Eq.trans (by kernel_rfl) h⟩;cases h) λk29=>af.no))))))
theorem bv.k:Ok Try.prog 90 (mk14 (bv.tw F)):=by
 intro args H v H' h
 unfold mk14 at h
 split at h
 ·exact okT (PN:=aK) (LH:=(bv.lh F)) (F:=F) (TB:=bv.tb) Try.func90 bB (bv.loops F) (Eq.trans (by kernel_rfl) h) (by kernel_rfl)
 ·cases h
def bh.l29 (F:Nat) (eB:Ld) :Nat->Sl->Sl->Int->Hp->OA
 | 0,_,_,_,_=>none
 | c_+1,aZ,aN,bD,H8=>(bif (decide (bD<(aZ.n:Int))) then ((Sl.idx aZ bD 1).bind λp15=>(Hp.ldSl H8 p15.1 p15.2).bind λs16=>(Sl.idx aN bD 1).bind λp17=>(Hp.ldSl H8 p17.1 p17.2).bind λs18=>(eB s16 s18 H8).bind λr19=>((r19.1).asB).bind λb20=>(bif (!b20) then (some ((.bool false),r19.2)) else (bh.l29 F eB c_ aZ aN (wrap .i64 (bD+1)) r19.2))) else (some ((.bool true),H8)))
def bh.twX (eB:Ld) (ac:Sl) (ar:Sl) (H:Hp):OA:=(bif ((ac.n:Int) != (ar.n:Int)) then (some ((.bool false),H)) else (bh.l29 F eB F ac ar 0 H))
def bh.tw:=bh.twX F (bv.tw F)
def bh.lh29 (eB:Ld) (ks:KQ) (n:Nat) (tm:Tm) (H:Hp):OA:=match ks,tm 0,tm 1,tm 5 with
 | [],(.sl aZ),(.sl aN),(.int .i64 bD)=>bh.l29 F eB n aZ aN bD H
 | _,_,_,_=>none
def bh.lh (eB:Ld) (p:Nat) (ks:KQ) (n:Nat) (tm:Tm) (H:Hp):OA:=bif p.beq 29 then bh.lh29 F eB ks n tm H else (none)
def bh.pn:Nat->List Nat:=cN [(6,[8])]
def bh.tb:Nat->List (List Nat):=cN [(6,[[],[],[0,1],[0,1,2],[],[],[4,5],[4,5,6],[0,1,2,3,4,5,6,7],[0,1,2,3,4,5,6,7,8]])]
def bh.cs (F:Nat) (eB:Ld):Cs:=[(90,mk14 eB)]
theorem bh.loops (eB:Ld):LO (aS (bh.cs F eB)) bh.pn (bh.lh F eB) F Try.f67:=
 (af.rt (af.rt (af.lt (af.rt (af.block (af.la (λn tm H r h=>by change bh.lh29 F eB [] n tm H=_ at h;unfold bh.lh29 at h;split at h;have e:bM tm [(0,_),(1,_),(5,_)]:=⟨‹_›,‹_›,‹_›,trivial⟩;obtain _ | k29:=n;cases h;exact ⟨_,rfl,by rw [<- bP e];exact Eq.trans (by kernel_rfl) h⟩;cases h) λk29=>af.no))))))
theorem bh.eqX (eB:Ld) (ac:Sl) (ar:Sl) (H:Hp):EX (aS (bh.cs F eB)) bh.pn (bh.lh F eB) F Try.f67 [(.sl ac),(.sl ar)] H=bh.twX F eB ac ar H:=by kernel_rfl
theorem bh.k:Ok Try.prog 67 (mk14 (bh.tw F)):=by
 intro args H v H' h
 unfold mk14 at h
 split at h
 ·exact okT (TB:=bh.tb) Try.func67 (aQ (bv.k F) bB) (bh.loops F (bv.tw F)) ((bh.eqX F (bv.tw F) _ _ H).trans h) (by kernel_rfl)
 ·cases h
def cF.twX (F:Nat) (mP:Ld) (ac:Int) (ag:Sl) (ay:Int) (bz:Sl) (H:Hp):OA:=(Hp.new H [(.int .i64 ac),(.sl ag)]).bind λH5=>(Hp.new H5 [(.int .i64 ay),(.sl bz)]).bind λH6=>(Hp.ldI H6 .i64 H.length 0).bind λn7=>(Hp.ldI H6 .i64 H5.length 0).bind λn8=>(bif (n7 != n8) then (some ((.bool false),H6)) else ((Hp.ldSl H6 H.length 1).bind λs9=>(Hp.ldSl H6 H5.length 1).bind λs10=>(mP s9 s10 H6).bind λr11=>((r11.1).asB).bind λb12=>(bif (!b12) then (some ((.bool false),r11.2)) else (some ((.bool true),r11.2)))))
def cF.tw:=cF.twX F (bh.tw F)
def mk15 (g:Lz) (args:KW) (H:Hp):OA:=match args with
 | [(.agg [(.int .i64 ac),(.sl ag)]),(.agg [(.int .i64 ay),(.sl bz)])]=>g ac ag ay bz H
 | _=>none
theorem mk15_E (g:Lz) (ac:Int) (ag:Sl) (ay:Int) (bz:Sl) (H:Hp):mk15 g [(.agg [(.int .i64 ac),(.sl ag)]),(.agg [(.int .i64 ay),(.sl bz)])] H=g ac ag ay bz H:=rfl
def cF.cs (F:Nat) (mP:Ld):Cs:=[(67,mk14 mP)]
theorem cF.eqX (mP:Ld) (ac:Int) (ag:Sl) (ay:Int) (bz:Sl) (H:Hp):EX (aS (cF.cs F mP)) aK lh0 F Try.f15 [(.agg [(.int .i64 ac),(.sl ag)]),(.agg [(.int .i64 ay),(.sl bz)])] H=cF.twX F mP ac ag ay bz H:=by kernel_rfl
theorem cF.k:Ok Try.prog 15 (mk15 (cF.tw F)):=by
 intro args H v H' h
 unfold mk15 at h
 split at h
 ·exact okT (TB:=aK) Try.func15 (aQ (bh.k F) bB) af.no ((cF.eqX F (bh.tw F) _ _ _ _ H).trans h) (by kernel_rfl)
 ·cases h
def dI.twX (F:Nat) (ac:Int) (ag:Int) (bm:Int) (bo:Int) (bf:Int) (bG:Int) (gT:Int) (gU:Int) (gV:Int) (gW:Int) (H:Hp):OA:=(Hp.new H [(.int .i64 ac),(.int .i64 ag),(.int .i64 bm),(.int .i64 bo),(.int .i64 bf)]).bind λH11=>(Hp.new H11 [(.int .i64 bG),(.int .i64 gT),(.int .i64 gU),(.int .i64 gV),(.int .i64 gW)]).bind λH12=>(Hp.ldI H12 .i64 H.length 0).bind λn13=>(Hp.ldI H12 .i64 H11.length 0).bind λn14=>(bif (n13 != n14) then (some ((.bool false),H12)) else ((Hp.ldI H12 .i64 H.length 1).bind λn15=>(Hp.ldI H12 .i64 H11.length 1).bind λn16=>(bif (n15 != n16) then (some ((.bool false),H12)) else ((Hp.ldI H12 .i64 H.length 2).bind λn17=>(Hp.ldI H12 .i64 H11.length 2).bind λn18=>(bif (n17 != n18) then (some ((.bool false),H12)) else ((Hp.ldI H12 .i64 H.length 3).bind λn19=>(Hp.ldI H12 .i64 H11.length 3).bind λn20=>(bif (n19 != n20) then (some ((.bool false),H12)) else ((Hp.ldI H12 .i64 H.length 4).bind λn21=>(Hp.ldI H12 .i64 H11.length 4).bind λn22=>(bif (n21 != n22) then (some ((.bool false),H12)) else (some ((.bool true),H12)))))))))))
def dI.tw:=dI.twX F
def mk16 (g:Lk) (args:KW) (H:Hp):OA:=match args with
 | [(.agg [(.int .i64 ac),(.int .i64 ag),(.int .i64 bm),(.int .i64 bo),(.int .i64 bf)]),(.agg [(.int .i64 bG),(.int .i64 gT),(.int .i64 gU),(.int .i64 gV),(.int .i64 gW)])]=>g ac ag bm bo bf bG gT gU gV gW H
 | _=>none
theorem mk16_E (g:Lk) (ac:Int) (ag:Int) (bm:Int) (bo:Int) (bf:Int) (bG:Int) (gT:Int) (gU:Int) (gV:Int) (gW:Int) (H:Hp):mk16 g [(.agg [(.int .i64 ac),(.int .i64 ag),(.int .i64 bm),(.int .i64 bo),(.int .i64 bf)]),(.agg [(.int .i64 bG),(.int .i64 gT),(.int .i64 gU),(.int .i64 gV),(.int .i64 gW)])] H=g ac ag bm bo bf bG gT gU gV gW H:=rfl
theorem dI.k:Ok Try.prog 132 (mk16 (dI.tw F)):=by
 intro args H v H' h
 unfold mk16 at h
 split at h
 ·exact ok0 Try.func132 (Eq.trans (by kernel_rfl) h) (by kernel_rfl) (by kernel_rfl)
 ·cases h
def bl.l29 (F:Nat) (eC:Lk) :Nat->Sl->Sl->Int->Hp->OA
 | 0,_,_,_,_=>none
 | c_+1,aZ,aN,bD,H8=>(bif (decide (bD<(aZ.n:Int))) then ((Sl.idx aZ bD 5).bind λp23=>(Hp.ldI H8 .i64 p23.1 p23.2).bind λn24=>(Hp.ldI H8 .i64 p23.1 (p23.2+1)).bind λn25=>(Hp.ldI H8 .i64 p23.1 (p23.2+2)).bind λn26=>(Hp.ldI H8 .i64 p23.1 (p23.2+3)).bind λn27=>(Hp.ldI H8 .i64 p23.1 (p23.2+4)).bind λn28=>(Sl.idx aN bD 5).bind λp29=>(Hp.ldI H8 .i64 p29.1 p29.2).bind λn30=>(Hp.ldI H8 .i64 p29.1 (p29.2+1)).bind λn31=>(Hp.ldI H8 .i64 p29.1 (p29.2+2)).bind λn32=>(Hp.ldI H8 .i64 p29.1 (p29.2+3)).bind λn33=>(Hp.ldI H8 .i64 p29.1 (p29.2+4)).bind λn34=>(eC n24 n25 n26 n27 n28 n30 n31 n32 n33 n34 H8).bind λr35=>((r35.1).asB).bind λb36=>(bif (!b36) then (some ((.bool false),r35.2)) else (bl.l29 F eC c_ aZ aN (wrap .i64 (bD+1)) r35.2))) else (some ((.bool true),H8)))
def bl.twX (eC:Lk) (ac:Sl) (ar:Sl) (H:Hp):OA:=(bif ((ac.n:Int) != (ar.n:Int)) then (some ((.bool false),H)) else (bl.l29 F eC F ac ar 0 H))
def bl.tw:=bl.twX F (dI.tw F)
def bl.lh29 (eC:Lk) (ks:KQ) (n:Nat) (tm:Tm) (H:Hp):OA:=match ks,tm 0,tm 1,tm 5 with
 | [],(.sl aZ),(.sl aN),(.int .i64 bD)=>bl.l29 F eC n aZ aN bD H
 | _,_,_,_=>none
def bl.lh (eC:Lk) (p:Nat) (ks:KQ) (n:Nat) (tm:Tm) (H:Hp):OA:=bif p.beq 29 then bl.lh29 F eC ks n tm H else (none)
def bl.pn:Nat->List Nat:=cN [(6,[8])]
def bl.tb:Nat->List (List Nat):=cN [(6,[[],[],[0,1],[0,1,2],[],[],[4,5],[4,5,6],[0,1,2,3,4,5,6,7],[0,1,2,3,4,5,6,7,8]])]
def bl.cs (F:Nat) (eC:Lk):Cs:=[(132,mk16 eC)]
theorem bl.loops (eC:Lk):LO (aS (bl.cs F eC)) bl.pn (bl.lh F eC) F Try.f68:=
 (af.rt (af.rt (af.lt (af.rt (af.block (af.la (λn tm H r h=>by change bl.lh29 F eC [] n tm H=_ at h;unfold bl.lh29 at h;split at h;have e:bM tm [(0,_),(1,_),(5,_)]:=⟨‹_›,‹_›,‹_›,trivial⟩;obtain _ | k29:=n;cases h;exact ⟨_,rfl,by rw [<- bP e];exact Eq.trans (by kernel_rfl) h⟩;cases h) λk29=>af.no))))))
theorem bl.eqX (eC:Lk) (ac:Sl) (ar:Sl) (H:Hp):EX (aS (bl.cs F eC)) bl.pn (bl.lh F eC) F Try.f68 [(.sl ac),(.sl ar)] H=bl.twX F eC ac ar H:=by kernel_rfl
theorem bl.k:Ok Try.prog 68 (mk14 (bl.tw F)):=by
 intro args H v H' h
 unfold mk14 at h
 split at h
 ·exact okT (TB:=bl.tb) Try.func68 (aQ (dI.k F) bB) (bl.loops F (dI.tw F)) ((bl.eqX F (dI.tw F) _ _ H).trans h) (by kernel_rfl)
 ·cases h
def df.twX (F:Nat) (mQ:Ld) (ac:Sl) (ag:Int) (ay:Sl) (bz:Int) (H:Hp):OA:=(Hp.new H [(.sl ac),(.int .i64 ag)]).bind λH5=>(Hp.new H5 [(.sl ay),(.int .i64 bz)]).bind λH6=>(Hp.ldSl H6 H.length 0).bind λs7=>(Hp.ldSl H6 H5.length 0).bind λs8=>(mQ s7 s8 H6).bind λr9=>((r9.1).asB).bind λb10=>(bif (!b10) then (some ((.bool false),r9.2)) else ((Hp.ldI r9.2 .i64 H.length 1).bind λn11=>(Hp.ldI r9.2 .i64 H5.length 1).bind λn12=>(bif (n11 != n12) then (some ((.bool false),r9.2)) else (some ((.bool true),r9.2)))))
def df.tw:=df.twX F (bl.tw F)
def mk17 (g:LA) (args:KW) (H:Hp):OA:=match args with
 | [(.agg [(.sl ac),(.int .i64 ag)]),(.agg [(.sl ay),(.int .i64 bz)])]=>g ac ag ay bz H
 | _=>none
theorem mk17_E (g:LA) (ac:Sl) (ag:Int) (ay:Sl) (bz:Int) (H:Hp):mk17 g [(.agg [(.sl ac),(.int .i64 ag)]),(.agg [(.sl ay),(.int .i64 bz)])] H=g ac ag ay bz H:=rfl
def df.cs (F:Nat) (mQ:Ld):Cs:=[(68,mk14 mQ)]
theorem df.eqX (mQ:Ld) (ac:Sl) (ag:Int) (ay:Sl) (bz:Int) (H:Hp):EX (aS (df.cs F mQ)) aK lh0 F Try.f16 [(.agg [(.sl ac),(.int .i64 ag)]),(.agg [(.sl ay),(.int .i64 bz)])] H=df.twX F mQ ac ag ay bz H:=by kernel_rfl
theorem df.k:Ok Try.prog 16 (mk17 (df.tw F)):=by
 intro args H v H' h
 unfold mk17 at h
 split at h
 ·exact okT (TB:=aK) Try.func16 (aQ (bl.k F) bB) af.no ((df.eqX F (bl.tw F) _ _ _ _ H).trans h) (by kernel_rfl)
 ·cases h
def bA.l13 (F:Nat) :Nat->Sl->Int->Int->Hp->OA
 | 0,_,_,_,_=>none
 | fh+1,aZ,aN,aV,H7=>(bif (decide (aV<(aZ.n:Int))) then ((Sl.idx aZ aV 5).bind λp18=>(Hp.st H7 p18.1 p18.2 (.int .i64 aN)).bind λH19=>(Sl.idx aZ aV 5).bind λp20=>(Hp.st H19 p20.1 (p20.2+1) (.int .i64 (wrap .i64 (aN+1)))).bind λH21=>(Sl.idx aZ aV 5).bind λp22=>(Hp.st H21 p22.1 (p22.2+2) (.int .i64 (wrap .i64 ((wrap .i64 (aN+1))+1)))).bind λH23=>(Sl.idx aZ aV 5).bind λp24=>(Hp.st H23 p24.1 (p24.2+3) (.int .i64 (wrap .i64 ((wrap .i64 ((wrap .i64 (aN+1))+1))+1)))).bind λH25=>(Sl.idx aZ aV 5).bind λp26=>(Hp.st H25 p26.1 (p26.2+4) (.int .i64 (wrap .i64 ((wrap .i64 ((wrap .i64 ((wrap .i64 (aN+1))+1))+1))+1)))).bind λH27=>bA.l13 F fh aZ (wrap .i64 ((wrap .i64 ((wrap .i64 ((wrap .i64 ((wrap .i64 (aN+1))+1))+1))+1))+1)) (wrap .i64 (aV+1)) H27) else (some ((.int .i64 aN),H7)))
def bA.twX (ac:Sl) (ar:Int) (H:Hp):OA:=bA.l13 F F ac ar 0 H
def bA.tw:=bA.twX F
def bA.lh13 (ks:KQ) (n:Nat) (tm:Tm) (H:Hp):OA:=match ks,tm 0,tm 1,tm 5 with
 | [],(.sl aZ),(.int .i64 aN),(.int .i64 aV)=>bA.l13 F n aZ aN aV H
 | _,_,_,_=>none
def bA.lh (p:Nat) (ks:KQ) (n:Nat) (tm:Tm) (H:Hp):OA:=bif p.beq 13 then bA.lh13 F ks n tm H else (none)
theorem bA.loops:LO (aS []) aK (bA.lh F) F Try.f69:=
 (af.rt (af.lt (af.rt (af.block (af.la (λn tm H r h=>by change bA.lh13 F [] n tm H=_ at h;unfold bA.lh13 at h;split at h;have e:bM tm [(0,_),(1,_),(5,_)]:=⟨‹_›,‹_›,‹_›,trivial⟩;obtain _ | k13:=n;cases h;exact ⟨_,rfl,by rw [<- bP e];exact Eq.trans (by kernel_rfl) h⟩;cases h) λk13=>af.no)))))
theorem bA.k:Ok Try.prog 69 (mk0 (bA.tw F)):=by
 intro args H v H' h
 unfold mk0 at h
 split at h
 ·exact okT (PN:=aK) (LH:=(bA.lh F)) (F:=F) (TB:=aK) Try.func69 bB (bA.loops F) (Eq.trans (by kernel_rfl) h) (by kernel_rfl)
 ·cases h
def dg.twX (F:Nat) (mR:KN) (ac:Sl) (ag:Int) (ay:Int) (H:Hp):OA:=(Hp.new H [(.sl ac),(.int .i64 ag)]).bind λH4=>(Hp.ldSl H4 H.length 0).bind λs5=>(mR s5 ay H4).bind λr6=>((r6.1).asI .i64).bind λn7=>some ((.int .i64 n7),r6.2)
def dg.tw:=dg.twX F (bA.tw F)
def dg.cs (F:Nat) (mR:KN):Cs:=[(69,mk0 mR)]
theorem dg.eqX (mR:KN) (ac:Sl) (ag:Int) (ay:Int) (H:Hp):EX (aS (dg.cs F mR)) aK lh0 F Try.f17 [(.agg [(.sl ac),(.int .i64 ag)]),(.int .i64 ay)] H=dg.twX F mR ac ag ay H:=by kernel_rfl
theorem dg.k:Ok Try.prog 17 (mk1 (dg.tw F)):=by
 intro args H v H' h
 unfold mk1 at h
 split at h
 ·exact okT (TB:=aK) Try.func17 (aQ (bA.k F) bB) af.no ((dg.eqX F (bA.tw F) _ _ _ H).trans h) (by kernel_rfl)
 ·cases h
def bs.l13 (F:Nat) :Nat->Sl->Int->Int->Hp->OA
 | 0,_,_,_,_=>none
 | fh+1,aZ,aN,aV,H7=>(bif (decide (aV<(aZ.n:Int))) then ((Sl.idx aZ aV 1).bind λp10=>(Hp.st H7 p10.1 p10.2 (.int .i64 aN)).bind λH11=>bs.l13 F fh aZ (wrap .i64 (aN+1)) (wrap .i64 (aV+1)) H11) else (some ((.int .i64 aN),H7)))
def bs.twX (ac:Sl) (ar:Int) (H:Hp):OA:=bs.l13 F F ac ar 0 H
def bs.tw:=bs.twX F
def bs.lh13 (ks:KQ) (n:Nat) (tm:Tm) (H:Hp):OA:=match ks,tm 0,tm 1,tm 5 with
 | [],(.sl aZ),(.int .i64 aN),(.int .i64 aV)=>bs.l13 F n aZ aN aV H
 | _,_,_,_=>none
def bs.lh (p:Nat) (ks:KQ) (n:Nat) (tm:Tm) (H:Hp):OA:=bif p.beq 13 then bs.lh13 F ks n tm H else (none)
theorem bs.loops:LO (aS []) aK (bs.lh F) F Try.f91:=
 (af.rt (af.lt (af.rt (af.block (af.la (λn tm H r h=>by change bs.lh13 F [] n tm H=_ at h;unfold bs.lh13 at h;split at h;have e:bM tm [(0,_),(1,_),(5,_)]:=⟨‹_›,‹_›,‹_›,trivial⟩;obtain _ | k13:=n;cases h;exact ⟨_,rfl,by rw [<- bP e];exact Eq.trans (by kernel_rfl) h⟩;cases h) λk13=>af.no)))))
theorem bs.k:Ok Try.prog 91 (mk0 (bs.tw F)):=by
 intro args H v H' h
 unfold mk0 at h
 split at h
 ·exact okT (PN:=aK) (LH:=(bs.lh F)) (F:=F) (TB:=aK) Try.func91 bB (bs.loops F) (Eq.trans (by kernel_rfl) h) (by kernel_rfl)
 ·cases h
def bO.l13 (F:Nat) (eD:KN) :Nat->Sl->Int->Int->Hp->OA
 | 0,_,_,_,_=>none
 | fh+1,aZ,aN,aV,H7=>(bif (decide (aV<(aZ.n:Int))) then ((Sl.idx aZ aV 1).bind λp12=>(Hp.ldSl H7 p12.1 p12.2).bind λs13=>(eD s13 aN H7).bind λr14=>((r14.1).asI .i64).bind λn15=>bO.l13 F eD fh aZ n15 (wrap .i64 (aV+1)) r14.2) else (some ((.int .i64 aN),H7)))
def bO.twX (eD:KN) (ac:Sl) (ar:Int) (H:Hp):OA:=bO.l13 F eD F ac ar 0 H
def bO.tw:=bO.twX F (bs.tw F)
def bO.lh13 (eD:KN) (ks:KQ) (n:Nat) (tm:Tm) (H:Hp):OA:=match ks,tm 0,tm 1,tm 5 with
 | [],(.sl aZ),(.int .i64 aN),(.int .i64 aV)=>bO.l13 F eD n aZ aN aV H
 | _,_,_,_=>none
def bO.lh (eD:KN) (p:Nat) (ks:KQ) (n:Nat) (tm:Tm) (H:Hp):OA:=bif p.beq 13 then bO.lh13 F eD ks n tm H else (none)
def bO.cs (F:Nat) (eD:KN):Cs:=[(91,mk0 eD)]
theorem bO.loops (eD:KN):LO (aS (bO.cs F eD)) aK (bO.lh F eD) F Try.f70:=
 (af.rt (af.lt (af.rt (af.block (af.la (λn tm H r h=>by change bO.lh13 F eD [] n tm H=_ at h;unfold bO.lh13 at h;split at h;have e:bM tm [(0,_),(1,_),(5,_)]:=⟨‹_›,‹_›,‹_›,trivial⟩;obtain _ | k13:=n;cases h;exact ⟨_,rfl,by rw [<- bP e];exact Eq.trans (by kernel_rfl) h⟩;cases h) λk13=>af.no)))))
theorem bO.eqX (eD:KN) (ac:Sl) (ar:Int) (H:Hp):EX (aS (bO.cs F eD)) aK (bO.lh F eD) F Try.f70 [(.sl ac),(.int .i64 ar)] H=bO.twX F eD ac ar H:=by kernel_rfl
theorem bO.k:Ok Try.prog 70 (mk0 (bO.tw F)):=by
 intro args H v H' h
 unfold mk0 at h
 split at h
 ·exact okT (TB:=aK) Try.func70 (aQ (bs.k F) bB) (bO.loops F (bs.tw F)) ((bO.eqX F (bs.tw F) _ _ H).trans h) (by kernel_rfl)
 ·cases h
def dk.twX (F:Nat) (mS:KN) (ac:Int) (ag:Sl) (ay:Int) (H:Hp):OA:=(Hp.new H [(.int .i64 ac),(.sl ag)]).bind λH4=>(Hp.ldSl H4 H.length 1).bind λs5=>(mS s5 ay H4).bind λr6=>((r6.1).asI .i64).bind λn7=>some ((.int .i64 n7),r6.2)
def dk.tw:=dk.twX F (bO.tw F)
def mk18 (g:Li) (args:KW) (H:Hp):OA:=match args with
 | [(.agg [(.int .i64 ac),(.sl ag)]),(.int .i64 ay)]=>g ac ag ay H
 | _=>none
theorem mk18_E (g:Li) (ac:Int) (ag:Sl) (ay:Int) (H:Hp):mk18 g [(.agg [(.int .i64 ac),(.sl ag)]),(.int .i64 ay)] H=g ac ag ay H:=rfl
def dk.cs (F:Nat) (mS:KN):Cs:=[(70,mk0 mS)]
theorem dk.eqX (mS:KN) (ac:Int) (ag:Sl) (ay:Int) (H:Hp):EX (aS (dk.cs F mS)) aK lh0 F Try.f18 [(.agg [(.int .i64 ac),(.sl ag)]),(.int .i64 ay)] H=dk.twX F mS ac ag ay H:=by kernel_rfl
theorem dk.k:Ok Try.prog 18 (mk18 (dk.tw F)):=by
 intro args H v H' h
 unfold mk18 at h
 split at h
 ·exact okT (TB:=aK) Try.func18 (aQ (bO.k F) bB) af.no ((dk.eqX F (bO.tw F) _ _ _ H).trans h) (by kernel_rfl)
 ·cases h
def bx.l13 (F:Nat) :Nat->Sl->Int->Int->Hp->OA
 | 0,_,_,_,_=>none
 | fh+1,aZ,aN,aV,H7=>(bif (decide (aV<(aZ.n:Int))) then ((Sl.idx aZ aV 1).bind λp10=>(Hp.ldI H7 .i64 p10.1 p10.2).bind λn11=>(bif (n11 != aN) then (some ((.int .i64 (-1)),H7)) else (bx.l13 F fh aZ (wrap .i64 (aN+1)) (wrap .i64 (aV+1)) H7))) else (some ((.int .i64 aN),H7)))
def bx.twX (ac:Sl) (ar:Int) (H:Hp):OA:=bx.l13 F F ac ar 0 H
def bx.tw:=bx.twX F
def bx.lh13 (ks:KQ) (n:Nat) (tm:Tm) (H:Hp):OA:=match ks,tm 0,tm 1,tm 5 with
 | [],(.sl aZ),(.int .i64 aN),(.int .i64 aV)=>bx.l13 F n aZ aN aV H
 | _,_,_,_=>none
def bx.lh (p:Nat) (ks:KQ) (n:Nat) (tm:Tm) (H:Hp):OA:=bif p.beq 13 then bx.lh13 F ks n tm H else (none)
theorem bx.loops:LO (aS []) aK (bx.lh F) F Try.f92:=
 (af.rt (af.lt (af.rt (af.block (af.la (λn tm H r h=>by change bx.lh13 F [] n tm H=_ at h;unfold bx.lh13 at h;split at h;have e:bM tm [(0,_),(1,_),(5,_)]:=⟨‹_›,‹_›,‹_›,trivial⟩;obtain _ | k13:=n;cases h;exact ⟨_,rfl,by rw [<- bP e];exact Eq.trans (by kernel_rfl) h⟩;cases h) λk13=>af.no)))))
theorem bx.k:Ok Try.prog 92 (mk0 (bx.tw F)):=by
 intro args H v H' h
 unfold mk0 at h
 split at h
 ·exact okT (PN:=aK) (LH:=(bx.lh F)) (F:=F) (TB:=aK) Try.func92 bB (bx.loops F) (Eq.trans (by kernel_rfl) h) (by kernel_rfl)
 ·cases h
def bp.l13 (F:Nat) (eE:KN) :Nat->Sl->Int->Int->Hp->OA
 | 0,_,_,_,_=>none
 | fh+1,aZ,aN,aV,H7=>(bif (decide (aV<(aZ.n:Int))) then ((Sl.idx aZ aV 1).bind λp12=>(Hp.ldSl H7 p12.1 p12.2).bind λs13=>(eE s13 aN H7).bind λr14=>((r14.1).asI .i64).bind λn15=>(bif (decide (n15<0)) then (some ((.int .i64 (-1)),r14.2)) else (bp.l13 F eE fh aZ n15 (wrap .i64 (aV+1)) r14.2))) else (some ((.int .i64 aN),H7)))
def bp.twX (eE:KN) (ac:Sl) (ar:Int) (H:Hp):OA:=bp.l13 F eE F ac ar 0 H
def bp.tw:=bp.twX F (bx.tw F)
def bp.lh13 (eE:KN) (ks:KQ) (n:Nat) (tm:Tm) (H:Hp):OA:=match ks,tm 0,tm 1,tm 5 with
 | [],(.sl aZ),(.int .i64 aN),(.int .i64 aV)=>bp.l13 F eE n aZ aN aV H
 | _,_,_,_=>none
def bp.lh (eE:KN) (p:Nat) (ks:KQ) (n:Nat) (tm:Tm) (H:Hp):OA:=bif p.beq 13 then bp.lh13 F eE ks n tm H else (none)
def bp.cs (F:Nat) (eE:KN):Cs:=[(92,mk0 eE)]
theorem bp.loops (eE:KN):LO (aS (bp.cs F eE)) aK (bp.lh F eE) F Try.f71:=
 (af.rt (af.lt (af.rt (af.block (af.la (λn tm H r h=>by change bp.lh13 F eE [] n tm H=_ at h;unfold bp.lh13 at h;split at h;have e:bM tm [(0,_),(1,_),(5,_)]:=⟨‹_›,‹_›,‹_›,trivial⟩;obtain _ | k13:=n;cases h;exact ⟨_,rfl,by rw [<- bP e];exact Eq.trans (by kernel_rfl) h⟩;cases h) λk13=>af.no)))))
theorem bp.eqX (eE:KN) (ac:Sl) (ar:Int) (H:Hp):EX (aS (bp.cs F eE)) aK (bp.lh F eE) F Try.f71 [(.sl ac),(.int .i64 ar)] H=bp.twX F eE ac ar H:=by kernel_rfl
theorem bp.k:Ok Try.prog 71 (mk0 (bp.tw F)):=by
 intro args H v H' h
 unfold mk0 at h
 split at h
 ·exact okT (TB:=aK) Try.func71 (aQ (bx.k F) bB) (bp.loops F (bx.tw F)) ((bp.eqX F (bx.tw F) _ _ H).trans h) (by kernel_rfl)
 ·cases h
def cX.twX (F:Nat) (mT:KN) (ac:Int) (ag:Sl) (ay:Int) (H:Hp):OA:=(Hp.new H [(.int .i64 ac),(.sl ag)]).bind λH4=>(Hp.ldSl H4 H.length 1).bind λs5=>(mT s5 ay H4).bind λr6=>((r6.1).asI .i64).bind λn7=>(bif (decide (n7<0)) then (some ((.int .i64 (-1)),r6.2)) else (some ((.int .i64 n7),r6.2)))
def cX.tw:=cX.twX F (bp.tw F)
def cX.cs (F:Nat) (mT:KN):Cs:=[(71,mk0 mT)]
theorem cX.eqX (mT:KN) (ac:Int) (ag:Sl) (ay:Int) (H:Hp):EX (aS (cX.cs F mT)) aK lh0 F Try.f19 [(.agg [(.int .i64 ac),(.sl ag)]),(.int .i64 ay)] H=cX.twX F mT ac ag ay H:=by kernel_rfl
theorem cX.k:Ok Try.prog 19 (mk18 (cX.tw F)):=by
 intro args H v H' h
 unfold mk18 at h
 split at h
 ·exact okT (TB:=aK) Try.func19 (aQ (bp.k F) bB) af.no ((cX.eqX F (bp.tw F) _ _ _ H).trans h) (by kernel_rfl)
 ·cases h
def cC.twX (F:Nat) (mU:KU) (iI:KN) (mV:KN) (jZ:KN) (jk:Lz) (mW:LA) (mX:KU) (mY:Li) (j_:Li) (ac:Sl) (ag:Int) (H:Hp):OA:=(Hp.new H [(.sl ac),(.int .i64 ag)]).bind λH3=>(Hp.ldSl H3 H.length 0).bind λs4=>(Hp.ldI H3 .i64 H.length (0+1)).bind λn5=>(mU s4 n5 1048576 H3).bind λr6=>((r6.1).asI .i64).bind λn7=>(bif (decide (n7<0)) then (some ((.bool true),r6.2)) else ((Hp.ldSl r6.2 H.length 0).bind λs8=>(Hp.ldI r6.2 .i64 H.length (0+1)).bind λn9=>(iI s8 n9 r6.2).bind λr10=>((r10.1).asAgg 2).bind λl11=>(l11[0]?).bind λv12=>((v12).asSl).bind λs13=>(l11[1]?).bind λv14=>((v14).asI .i64).bind λn15=>(mV s13 n15 r10.2).bind λr16=>((r16.1).asTup 2).bind λl17=>(l17[0]?).bind λv18=>((v18).asAgg 2).bind λl19=>(l19[0]?).bind λv20=>((v20).asI .i64).bind λn21=>(l19[1]?).bind λv22=>((v22).asSl).bind λs23=>(l17[1]?).bind λv24=>((v24).asI .i64).bind λn25=>(Hp.new r16.2 [.int .i64 0,.sl ⟨none,0,.ex 0⟩]).bind λH26=>(Hp.st H26 r16.2.length 0 (.int .i64 n21)).bind λH27=>(Hp.st H27 r16.2.length (0+1) (.sl s23)).bind λH28=>(Hp.ldSl H28 H.length 0).bind λs29=>(Hp.ldI H28 .i64 H.length (0+1)).bind λn30=>(iI s29 n30 H28).bind λr31=>((r31.1).asAgg 2).bind λl32=>(l32[0]?).bind λv33=>((v33).asSl).bind λs34=>(l32[1]?).bind λv35=>((v35).asI .i64).bind λn36=>(Hp.new r31.2 [.sl ⟨none,0,.ex 0⟩,.int .i64 0]).bind λH37=>(Hp.st H37 r31.2.length 0 (.sl s34)).bind λH38=>(Hp.st H38 r31.2.length (0+1) (.int .i64 n36)).bind λH39=>(Hp.ldSl H39 r31.2.length 0).bind λs40=>(Hp.ldI H39 .i64 r31.2.length (0+1)).bind λn41=>(jZ s40 n41 H39).bind λr42=>((r42.1).asTup 2).bind λl43=>(l43[0]?).bind λv44=>((v44).asAgg 2).bind λl45=>(l45[0]?).bind λv46=>((v46).asI .i64).bind λn47=>(l45[1]?).bind λv48=>((v48).asSl).bind λs49=>(l43[1]?).bind λv50=>((v50).asI .i64).bind λn51=>(Hp.new r42.2 [.int .i64 0,.sl ⟨none,0,.ex 0⟩]).bind λH52=>(Hp.st H52 r42.2.length 0 (.int .i64 n47)).bind λH53=>(Hp.st H53 r42.2.length (0+1) (.sl s49)).bind λH54=>(Hp.ldI H54 .i64 r42.2.length 0).bind λn55=>(Hp.ldSl H54 r42.2.length (0+1)).bind λs56=>(Hp.ldI H54 .i64 r16.2.length 0).bind λn57=>(Hp.ldSl H54 r16.2.length (0+1)).bind λs58=>(jk n55 s56 n57 s58 H54).bind λr59=>((r59.1).asB).bind λb60=>(bif (!b60) then (some ((.bool false),r59.2)) else ((bif (n51 != n25) then (some ((.bool false),r59.2)) else ((Hp.ldSl r59.2 r31.2.length 0).bind λs61=>(Hp.ldI r59.2 .i64 r31.2.length (0+1)).bind λn62=>(Hp.ldSl r59.2 H.length 0).bind λs63=>(Hp.ldI r59.2 .i64 H.length (0+1)).bind λn64=>(iI s63 n64 r59.2).bind λr65=>((r65.1).asAgg 2).bind λl66=>(l66[0]?).bind λv67=>((v67).asSl).bind λs68=>(l66[1]?).bind λv69=>((v69).asI .i64).bind λn70=>(if aH r59.2 r65.2 then ((mW s61 n62 s68 n70 r65.2).bind λr71=>((r71.1).asB).bind λb72=>(bif (!b72) then (some ((.bool false),r71.2)) else ((Hp.ldSl r71.2 r31.2.length 0).bind λs73=>(Hp.ldI r71.2 .i64 r31.2.length (0+1)).bind λn74=>(mX s73 n74 1 r71.2).bind λr75=>((r75.1).asI .i64).bind λn76=>(bif (decide (n76<0)) then (some ((.bool false),r75.2)) else ((Hp.ldI r75.2 .i64 r42.2.length 0).bind λn77=>(Hp.ldSl r75.2 r42.2.length (0+1)).bind λs78=>(Hp.ldI r75.2 .i64 r16.2.length 0).bind λn79=>(Hp.ldSl r75.2 r16.2.length (0+1)).bind λs80=>(jk n77 s78 n79 s80 r75.2).bind λr81=>((r81.1).asB).bind λb82=>(bif (!b82) then (some ((.bool false),r81.2)) else ((bif (n51 != n25) then (some ((.bool false),r81.2)) else ((Hp.ldI r81.2 .i64 r42.2.length 0).bind λn83=>(Hp.ldSl r81.2 r42.2.length (0+1)).bind λs84=>(mY n83 s84 1 r81.2).bind λr85=>((r85.1).asI .i64).bind λn86=>(Hp.ldI r85.2 .i64 r42.2.length 0).bind λn87=>(Hp.ldSl r85.2 r42.2.length (0+1)).bind λs88=>(j_ n87 s88 1 r85.2).bind λr89=>((r89.1).asI .i64).bind λn90=>(bif (decide (n90<0)) then (some ((.bool false),r89.2)) else ((bif (n90 != n86) then (some ((.bool false),r89.2)) else ((Hp.ldSl r89.2 H.length 0).bind λs91=>(Hp.ldI r89.2 .i64 H.length (0+1)).bind λn92=>(iI s91 n92 r89.2).bind λr93=>((r93.1).asAgg 2).bind λl94=>(l94[0]?).bind λv95=>((v95).asSl).bind λs96=>(l94[1]?).bind λv97=>((v97).asI .i64).bind λn98=>(jZ s96 n98 r93.2).bind λr99=>((r99.1).asTup 2).bind λl100=>(l100[0]?).bind λv101=>((v101).asAgg 2).bind λl102=>(l102[0]?).bind λv103=>((v103).asI .i64).bind λn104=>(l102[1]?).bind λv105=>((v105).asSl).bind λs106=>(l100[1]?).bind λv107=>((v107).asI .i64).bind λn108=>(Hp.new r99.2 [.int .i64 0,.sl ⟨none,0,.ex 0⟩]).bind λH109=>(Hp.st H109 r99.2.length 0 (.int .i64 n104)).bind λH110=>(Hp.st H110 r99.2.length (0+1) (.sl s106)).bind λH111=>(Hp.ldI H111 .i64 r99.2.length 0).bind λn112=>(Hp.ldSl H111 r99.2.length (0+1)).bind λs113=>(Hp.ldI H111 .i64 r16.2.length 0).bind λn114=>(Hp.ldSl H111 r16.2.length (0+1)).bind λs115=>(jk n112 s113 n114 s115 H111).bind λr116=>((r116.1).asB).bind λb117=>(bif (!b117) then (some ((.bool false),r116.2)) else ((bif (n108 != n25) then (some ((.bool false),r116.2)) else ((Hp.ldI r116.2 .i64 r42.2.length 0).bind λn118=>(Hp.ldSl r116.2 r42.2.length (0+1)).bind λs119=>(j_ n118 s119 1 r116.2).bind λr120=>((r120.1).asI .i64).bind λn121=>(bif (decide (n121<0)) then (some ((.bool false),r120.2)) else ((bif (n121 != n86) then (some ((.bool false),r120.2)) else (some ((.bool true),r120.2)))))))))))))))))))))) else none)))))))
def cC.tw:=cC.twX F (cV.tw F) (cv.tw F) (bg.tw F) (ba.tw F) (cF.tw F) (df.tw F) (dg.tw F) (dk.tw F) (cX.tw F)
def cC.pn:Nat->List Nat:=cN [(10,[3])]
def cC.tb:Nat->List (List Nat):=cN [(10,[[],[],[1],[0,1,2],[0,1,2,3]])]
def cC.cs (F:Nat) (mU:KU) (iI:KN) (mV:KN) (jZ:KN) (jk:Lz) (mW:LA) (mX:KU) (mY:Li) (j_:Li):Cs:=[(11,mk1 mU),(13,mk4 iI),(12,mk4 mV),(14,mk4 jZ),(15,mk15 jk),(16,mk17 mW),(17,mk1 mX),(18,mk18 mY),(19,mk18 j_)]
theorem cC.eqX (mU:KU) (iI:KN) (mV:KN) (jZ:KN) (jk:Lz) (mW:LA) (mX:KU) (mY:Li) (j_:Li) (ac:Sl) (ag:Int) (H:Hp):EX (aS (cC.cs F mU iI mV jZ jk mW mX mY j_)) cC.pn lh0 F Try.f3 [(.agg [(.sl ac),(.int .i64 ag)])] H=cC.twX F mU iI mV jZ jk mW mX mY j_ ac ag H:=by kernel_rfl
theorem cC.k:Ok Try.prog 3 (mk4 (cC.tw F)):=by
 intro args H v H' h
 unfold mk4 at h
 split at h
 ·exact okT (TB:=cC.tb) Try.func3 (aQ (cV.k F) (aQ (cv.k F) (aQ (bg.k F) (aQ (ba.k F) (aQ (cF.k F) (aQ (df.k F) (aQ (dg.k F) (aQ (dk.k F) (aQ (cX.k F) bB))))))))) af.no ((cC.eqX F (cV.tw F) (cv.tw F) (bg.tw F) (ba.tw F) (cF.tw F) (df.tw F) (dg.tw F) (dk.tw F) (cX.tw F) _ _ H).trans h) (by kernel_rfl)
 ·cases h
theorem cC.T {F:Nat} {ac:Sl} {ag:Int} {H:Hp} {v:AV} {H':Hp} (h:cC.tw F ac ag H=some (v,H')):Go.AE.T Try.prog 3 [(.agg [(.sl ac),(.int .i64 ag)])] H v H':=cC.k F _ _ _ _ ((mk4_E (cC.tw F) ac ag H).trans h)
end
end Go.Proofs.Ytodfdhnlhiaohaa.AE
