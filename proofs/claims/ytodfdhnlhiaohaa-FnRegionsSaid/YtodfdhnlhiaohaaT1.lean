import Derived.Test.YtodfdhnlhiaohaaTab1
import Derived.Test.YtodfdhnlhiaohaaE2
set_option linter.unusedVariables false
set_option linter.unusedSimpArgs false
namespace Go.Proofs.Ytodfdhnlhiaohaa.AE
open Go Go.AE Go.Proofs Go.RowKit Go.Maps IntKind
variable (F:Nat)
set_option linter.unusedVariables false
set_option maxHeartbeats 4000000
set_option maxRecDepth 100000
noncomputable section
def di.twX (F:Nat) (ac:Sl) (H:Hp):OA:=some ((.bool (decide ((ac.n:Int)>4096))),H)
def di.tw:=di.twX F
def mk0 (g:Yt) (args:YE) (H:Hp):OA:=match args with
 | [(.sl ac)]=>g ac H
 | _=>none
theorem mk0_E (g:Yt) (ac:Sl) (H:Hp):mk0 g [(.sl ac)] H=g ac H:=rfl
theorem di.k:Ok Try.prog 43 (mk0 (di.tw F)):=by
 intro args H v H' h
 unfold mk0 at h
 split at h
 ·exact ok0 Try.func43 (Eq.trans (by kernel_rfl) h) (by kernel_rfl) (by kernel_rfl)
 ·cases h
def bE.l29 (F:Nat) :Nat->Sl->Nat->Nat->Int->Hp->OA
 | 0,_,_,_,_,_=>none
 | ft+1,pS,fl,ll,fu,H7=>(bif (decide (fu<(pS.n:Int))) then ((bif (decide (fu<64)) then ((Hp.ldI H7 .i64 fl (ll+2)).bind λn12=>(Sl.idx pS fu 1).bind λp13=>(Hp.ldI H7 .u8 p13.1 p13.2).bind λn14=>(Hp.st H7 fl (ll+2) (.int .i64 (Int.tmod (wrap .i64 ((wrap .i64 (n12 * 37))+(wrap .i64 n14))) 2147483647))).bind λH15=>bE.l29 F ft pS fl ll (wrap .i64 (fu+1)) H15) else (some ((.ptr fl ll),H7)))) else (some ((.ptr fl ll),H7)))
termination_by structural n=>n
def bE.twX (ac:Sl) (H:Hp):OA:=(Hp.new H [(.sl ac),(.int .i64 0),(.int .i64 97531)]).bind λH2=>bE.l29 F F ac H.length 0 0 H2
def bE.tw:=bE.twX F
def bE.lh29 (ks:Yw) (n:Nat) (tm:Tm) (H:Hp):OA:=match ks,tm 0,tm 2,tm 3,tm 4 with
 | [],(.sl pS),.nilp,(.ptr fl ll),(.int .i64 fu)=>bE.l29 F n pS fl ll fu H
 | _,_,_,_,_=>none
def bE.lh (p:Nat) (ks:Yw) (n:Nat) (tm:Tm) (H:Hp):OA:=bif p.beq 29 then bE.lh29 F ks n tm H else (none)
def bE.pn:Nat->List Nat:=cT [(5,[15])]
def bE.tb:Nat->List (List Nat):=cT [(5,[[],[],[1],[1,2],[1,2,3],[1,2,3,4],[],[],[6,7],[6,7,8],[6,7,8,9],[1,2,3,4,5,6,7,8,9,10],[1,2,3,4,5,6,7,8,9,10,11],[0,1,2,3,4,5,6,7,8,9,10,11,12],[0,1,2,3,4,5,6,7,8,9,10,11,12,13],[0,1,2,3,4,5,6,7,8,9,10,11,12,13,14]])]
theorem bE.loops:LO (bp []) bE.pn (bE.lh F) F Try.f102:=
 (ae.rt (ae.rt (ae.lt (ae.rt (ae.block (ae.la (λn tm H r h=>by change bE.lh29 F [] n tm H=_ at h;unfold bE.lh29 at h;split at h;have e:bW tm [(0,_),(2,_),(3,_),(4,_)]:=⟨‹_›,‹_›,‹_›,‹_›,trivial⟩;obtain _ | k29:=n;cases h;exact ⟨_,rfl,by rw [<- ca e];exact Eq.trans (by kernel_rfl) h⟩;cases h) λk29=>ae.no))))))
theorem bE.k:Ok Try.prog 102 (mk0 (bE.tw F)):=by
 intro args H v H' h
 unfold mk0 at h
 split at h
 ·exact okT (PN:=bE.pn) (LH:=(bE.lh F)) (F:=F) (TB:=bE.tb) Try.func102 cj (bE.loops F) (Eq.trans (by kernel_rfl) h) (by kernel_rfl)
 ·cases h
def aJ.j1 (F:Nat) (jV:Int) (mT:Int) (H37:Hp):OA:=(if jV=0 then none else (some ((.int .i64 (Int.tmod mT jV)),H37)))
def aJ.j2 (mU:Int) (jW:Int) (H28:Hp):OA:=aJ.j1 F mU jW H28
def aJ.j3 (F:Nat) (jX:Int) (ga:Int) (H45:Hp):OA:=(if jX=0 then none else (some ((.int .i64 (Int.tmod ga jX)),H45)))
def aJ.twX (ac:Nat) (ag:Nat) (az:Int) (H:Hp):OA:=(bif (decide (az<=1)) then (some ((.int .i64 0),H)) else ((Hp.ldI H .i64 ac (ag+2)).bind λn4=>(Hp.st H ac (ag+2) (.int .i64 (Int.tmod (wrap .i64 ((wrap .i64 (n4 * 48271))+11)) 2147483647))).bind λH5=>(Hp.ldI H5 .i64 ac (ag+2)).bind λn6=>(Hp.ldI H5 .i64 ac (ag+1)).bind λn7=>(Hp.ldSl H5 ac ag).bind λs8=>(bif (decide (n7<(s8.n:Int))) then ((Hp.ldSl H5 ac ag).bind λs9=>(Hp.ldI H5 .i64 ac (ag+1)).bind λn10=>(Sl.idx s9 n10 1).bind λp11=>(Hp.ldI H5 .u8 p11.1 p11.2).bind λn12=>(Hp.ldI H5 .i64 ac (ag+1)).bind λn13=>(Hp.st H5 ac (ag+1) (.int .i64 (wrap .i64 (n13+1)))).bind λH14=>(bif (decide (az<=256)) then ((Hp.ldI H14 .i64 ac (ag+1)).bind λn15=>(bif ((Int.tmod n15 2)==0) then ((Hp.ldSl H14 ac ag).bind λs16=>(Hp.ldI H14 .i64 ac (ag+1)).bind λn17=>(Sl.idx s16 (wrap .i64 (n17 - 1)) 1).bind λp18=>(Hp.ldI H14 .u8 p18.1 p18.2).bind λn19=>aJ.j2 F az (wrap .i64 n19) H14) else (aJ.j2 F az (wrap .i64 ((wrap .i64 (Int.tdiv n6 11))+(wrap .i64 n12))) H14))) else (aJ.j1 F az (wrap .i64 ((wrap .i64 (Int.tdiv n6 11))+(wrap .i64 n12))) H14))) else (aJ.j3 F az (wrap .i64 (Int.tdiv n6 11)) H5))))
def aJ.tw:=aJ.twX F
def aJ.tb:Nat->List (List Nat):=cT [(5,[[],[0],[0,1],[0,1,2],[],[4],[4,5],[4,5,6],[4,5,6,7],[0,1,2,3,4,5,6,7,8]]),(6,[[],[],[1],[1,2],[1,2,3],[],[5],[5,6],[5,6,7],[1,2,3,4,5,6,7,8],[1,2,3,4,5,6,7,8,9],[1,2,3,4,5,6,7,8,9,10],[0,1,2,3,4,5,6,7,8,9,10,11],[0,1,2,3,4,5,6,7,8,9,10,11,12]]),(9,[[],[0],[0,1],[0,1,2],[],[4],[4,5],[4,5,6],[4,5,6,7],[0,1,2,3,4,5,6,7,8],[0,1,2,3,4,5,6,7,8,9],[0,1,2,3,4,5,6,7,8,9,10],[0,1,2,3,4,5,6,7,8,9,10,11]])]
def mk1 (g:Yy) (args:YE) (H:Hp):OA:=match args with
 | [(.ptr ac ag),(.int .i64 az)]=>g ac ag az H
 | _=>none
theorem mk1_E (g:Yy) (ac:Nat) (ag:Nat) (az:Int) (H:Hp):mk1 g [(.ptr ac ag),(.int .i64 az)] H=g ac ag az H:=rfl
theorem aJ.k:Ok Try.prog 121 (mk1 (aJ.tw F)):=by
 intro args H v H' h
 unfold mk1 at h
 split at h
 ·exact okT (PN:=bm) (LH:=lh0) (F:=F) (TB:=aJ.tb) Try.func121 cj ae.no (Eq.trans (by kernel_rfl) h) (by kernel_rfl)
 ·cases h
def cw.twX (F:Nat) (ac:Int) (H:Hp):OA:=some ((.int .i64 (if (wrap .i64 (0 - ac))>ac then (wrap .i64 (0 - ac)) else ac)),H)
def cw.tw:=cw.twX F
def mk2 (g:Yz) (args:YE) (H:Hp):OA:=match args with
 | [(.int .i64 ac)]=>g ac H
 | _=>none
theorem mk2_E (g:Yz) (ac:Int) (H:Hp):mk2 g [(.int .i64 ac)] H=g ac H:=rfl
theorem cw.k:Ok Try.prog 227 (mk2 (cw.tw F)):=by
 intro args H v H' h
 unfold mk2 at h
 split at h
 ·exact ok0 Try.func227 (Eq.trans (by kernel_rfl) h) (by kernel_rfl) (by kernel_rfl)
 ·cases h
def bu.twX (F:Nat) (ac:Int) (ag:Int) (bx:Int) (bz:Int) (bq:Int) (bM:Int) (H:Hp):OA:=(Hp.new H [(.int .i64 ac),(.int .i64 ag),(.int .i64 bx),(.int .i64 bz),(.int .i64 bq)]).bind λH7=>(Hp.ldI H7 .i64 H.length 0).bind λn8=>(Hp.ldI H7 .i64 H.length 1).bind λn9=>(Hp.ldI H7 .i64 H.length 2).bind λn10=>(Hp.ldI H7 .i64 H.length 3).bind λn11=>(Hp.new H7 [(.int .i64 n8),(.int .i64 n9),(.int .i64 n10),(.int .i64 n11)]).bind λH12=>(Sl.idx (⟨some (H7.length,0),4,.ex 4⟩:Sl) bM 1).bind λp13=>(Hp.ldI H12 .i64 p13.1 p13.2).bind λn14=>some ((.int .i64 n14),H12)
def bu.tw:=bu.twX F
def mk3 (g:Yu) (args:YE) (H:Hp):OA:=match args with
 | [(.agg [(.int .i64 ac),(.int .i64 ag),(.int .i64 bx),(.int .i64 bz),(.int .i64 bq)]),(.int .i64 bM)]=>g ac ag bx bz bq bM H
 | _=>none
theorem mk3_E (g:Yu) (ac:Int) (ag:Int) (bx:Int) (bz:Int) (bq:Int) (bM:Int) (H:Hp):mk3 g [(.agg [(.int .i64 ac),(.int .i64 ag),(.int .i64 bx),(.int .i64 bz),(.int .i64 bq)]),(.int .i64 bM)] H=g ac ag bx bz bq bM H:=rfl
theorem bu.k:Ok Try.prog 163 (mk3 (bu.tw F)):=by
 intro args H v H' h
 unfold mk3 at h
 split at h
 ·exact ok0 Try.func163 (Eq.trans (by kernel_rfl) h) (by kernel_rfl) (by kernel_rfl)
 ·cases h
def bY.twX (F:Nat) (ac:Int) (ag:Int) (bx:Int) (bz:Int) (bq:Int) (bM:Int) (eT:Int) (H:Hp):OA:=(Hp.new H [(.int .i64 ac),(.int .i64 ag),(.int .i64 bx),(.int .i64 bz),(.int .i64 bq)]).bind λH8=>(Hp.new H8 [.int .i64 0,.int .i64 0,.int .i64 0,.int .i64 0,.int .i64 0]).bind λH9=>(bif (bM==0) then ((Hp.st H9 H.length 0 (.int .i64 eT)).bind λH10=>(Hp.ldI H10 .i64 H.length 0).bind λn11=>(Hp.ldI H10 .i64 H.length (0+1)).bind λn12=>(Hp.ldI H10 .i64 H.length (0+2)).bind λn13=>(Hp.ldI H10 .i64 H.length (0+3)).bind λn14=>(Hp.ldI H10 .i64 H.length (0+4)).bind λn15=>(Hp.st H10 H8.length 0 (.int .i64 n11)).bind λH16=>(Hp.st H16 H8.length (0+1) (.int .i64 n12)).bind λH17=>(Hp.st H17 H8.length (0+1+1) (.int .i64 n13)).bind λH18=>(Hp.st H18 H8.length (0+1+1+1) (.int .i64 n14)).bind λH19=>(Hp.st H19 H8.length (0+1+1+1+1) (.int .i64 n15)).bind λH20=>(Hp.ldI H20 .i64 H8.length 0).bind λn21=>(Hp.ldI H20 .i64 H8.length (0+1)).bind λn22=>(Hp.ldI H20 .i64 H8.length (0+2)).bind λn23=>(Hp.ldI H20 .i64 H8.length (0+3)).bind λn24=>(Hp.ldI H20 .i64 H8.length (0+4)).bind λn25=>some ((.agg [(.int .i64 n21),(.int .i64 n22),(.int .i64 n23),(.int .i64 n24),(.int .i64 n25)]),H20)) else ((bif (bM==1) then ((Hp.st H9 H.length 1 (.int .i64 eT)).bind λH26=>(Hp.ldI H26 .i64 H.length 0).bind λn27=>(Hp.ldI H26 .i64 H.length (0+1)).bind λn28=>(Hp.ldI H26 .i64 H.length (0+2)).bind λn29=>(Hp.ldI H26 .i64 H.length (0+3)).bind λn30=>(Hp.ldI H26 .i64 H.length (0+4)).bind λn31=>(Hp.st H26 H8.length 0 (.int .i64 n27)).bind λH32=>(Hp.st H32 H8.length (0+1) (.int .i64 n28)).bind λH33=>(Hp.st H33 H8.length (0+1+1) (.int .i64 n29)).bind λH34=>(Hp.st H34 H8.length (0+1+1+1) (.int .i64 n30)).bind λH35=>(Hp.st H35 H8.length (0+1+1+1+1) (.int .i64 n31)).bind λH36=>(Hp.ldI H36 .i64 H8.length 0).bind λn37=>(Hp.ldI H36 .i64 H8.length (0+1)).bind λn38=>(Hp.ldI H36 .i64 H8.length (0+2)).bind λn39=>(Hp.ldI H36 .i64 H8.length (0+3)).bind λn40=>(Hp.ldI H36 .i64 H8.length (0+4)).bind λn41=>some ((.agg [(.int .i64 n37),(.int .i64 n38),(.int .i64 n39),(.int .i64 n40),(.int .i64 n41)]),H36)) else ((bif (bM==2) then ((Hp.st H9 H.length 2 (.int .i64 eT)).bind λH42=>(Hp.ldI H42 .i64 H.length 0).bind λn43=>(Hp.ldI H42 .i64 H.length (0+1)).bind λn44=>(Hp.ldI H42 .i64 H.length (0+2)).bind λn45=>(Hp.ldI H42 .i64 H.length (0+3)).bind λn46=>(Hp.ldI H42 .i64 H.length (0+4)).bind λn47=>(Hp.st H42 H8.length 0 (.int .i64 n43)).bind λH48=>(Hp.st H48 H8.length (0+1) (.int .i64 n44)).bind λH49=>(Hp.st H49 H8.length (0+1+1) (.int .i64 n45)).bind λH50=>(Hp.st H50 H8.length (0+1+1+1) (.int .i64 n46)).bind λH51=>(Hp.st H51 H8.length (0+1+1+1+1) (.int .i64 n47)).bind λH52=>(Hp.ldI H52 .i64 H8.length 0).bind λn53=>(Hp.ldI H52 .i64 H8.length (0+1)).bind λn54=>(Hp.ldI H52 .i64 H8.length (0+2)).bind λn55=>(Hp.ldI H52 .i64 H8.length (0+3)).bind λn56=>(Hp.ldI H52 .i64 H8.length (0+4)).bind λn57=>some ((.agg [(.int .i64 n53),(.int .i64 n54),(.int .i64 n55),(.int .i64 n56),(.int .i64 n57)]),H52)) else ((Hp.st H9 H.length 3 (.int .i64 eT)).bind λH58=>(Hp.ldI H58 .i64 H.length 0).bind λn59=>(Hp.ldI H58 .i64 H.length (0+1)).bind λn60=>(Hp.ldI H58 .i64 H.length (0+2)).bind λn61=>(Hp.ldI H58 .i64 H.length (0+3)).bind λn62=>(Hp.ldI H58 .i64 H.length (0+4)).bind λn63=>(Hp.st H58 H8.length 0 (.int .i64 n59)).bind λH64=>(Hp.st H64 H8.length (0+1) (.int .i64 n60)).bind λH65=>(Hp.st H65 H8.length (0+1+1) (.int .i64 n61)).bind λH66=>(Hp.st H66 H8.length (0+1+1+1) (.int .i64 n62)).bind λH67=>(Hp.st H67 H8.length (0+1+1+1+1) (.int .i64 n63)).bind λH68=>(Hp.ldI H68 .i64 H8.length 0).bind λn69=>(Hp.ldI H68 .i64 H8.length (0+1)).bind λn70=>(Hp.ldI H68 .i64 H8.length (0+2)).bind λn71=>(Hp.ldI H68 .i64 H8.length (0+3)).bind λn72=>(Hp.ldI H68 .i64 H8.length (0+4)).bind λn73=>some ((.agg [(.int .i64 n69),(.int .i64 n70),(.int .i64 n71),(.int .i64 n72),(.int .i64 n73)]),H68)))))))
def bY.tw:=bY.twX F
def mk4 (g:YA) (args:YE) (H:Hp):OA:=match args with
 | [(.agg [(.int .i64 ac),(.int .i64 ag),(.int .i64 bx),(.int .i64 bz),(.int .i64 bq)]),(.int .i64 bM),(.int .i64 eT)]=>g ac ag bx bz bq bM eT H
 | _=>none
theorem mk4_E (g:YA) (ac:Int) (ag:Int) (bx:Int) (bz:Int) (bq:Int) (bM:Int) (eT:Int) (H:Hp):mk4 g [(.agg [(.int .i64 ac),(.int .i64 ag),(.int .i64 bx),(.int .i64 bz),(.int .i64 bq)]),(.int .i64 bM),(.int .i64 eT)] H=g ac ag bx bz bq bM eT H:=rfl
theorem bY.k:Ok Try.prog 214 (mk4 (bY.tw F)):=by
 intro args H v H' h
 unfold mk4 at h
 split at h
 ·exact ok0 Try.func214 (Eq.trans (by kernel_rfl) h) (by kernel_rfl) (by kernel_rfl)
 ·cases h
def ah.j17 (F:Nat) (ba:Yz) (aA:Yu) (aW:YA) (C509_:YM) (mV:Int) (sT:Nat) (Og:Nat) (sU:Nat) (Oh:Nat) (Oi:Sl) (mW:Int) (H793:Hp):OA:=C509_ mV sT Og sU Oh Oi (wrap .i64 (mW+1)) H793
def ah.j18 (ba:Yz) (aA:Yu) (aW:YA) (C509_:YM) (mX:Int) (sV:Nat) (Oj:Nat) (sW:Nat) (Ol:Nat) (Om:Sl) (mY:Int) (H775:Hp):OA:=ah.j17 F ba aA aW C509_ mX sV Oj sW Ol Om mY H775
def ah.j20 (F:Nat) (ba:Yz) (aA:Yu) (aW:YA) (C16299_:YZ) (mZ:Int) (sX:Nat) (On:Nat) (sY:Nat) (Oo:Nat) (Oq:Sl) (m_:Int) (na:Int) (H911:Hp):OA:=C16299_ mZ sX On sY Oo Oq m_ (wrap .i64 (na+1)) H911
def ah.j21 (ba:Yz) (aA:Yu) (aW:YA) (C16299_:YZ) (nb:Int) (sZ:Nat) (Ot:Nat) (s_:Nat) (Ou:Nat) (Ov:Sl) (ng:Int) (nh:Int) (H891:Hp):OA:=ah.j20 F ba aA aW C16299_ nb sZ Ot s_ Ou Ov ng nh H891
def ah.j22 (F:Nat) (ba:Yz) (aA:Yu) (aW:YA) (C260789_:Zj) (ni:Int) (tc:Nat) (Ox:Nat) (tf:Nat) (Oy:Nat) (Oz:Sl) (nj:Int) (nk:Int) (nl:Int) (H969:Hp):OA:=C260789_ ni tc Ox tf Oy Oz nj nk (wrap .i64 (nl+1)) H969
def ah.l260789 (F:Nat) (ba:Yz) (aA:Yu) (aW:YA) (C509_:YM) (C16299_:YZ):Nat->Int->Nat->Nat->Nat->Nat->Sl->Int->Int->Int->Hp->OA
 | 0,_,_,_,_,_,_,_,_,_,_=>none
 | FL+1,gd,jp,pT,gU,jY,nm,eU,ef,eV,H813=>(bif (decide (eV<4)) then ((Hp.ldSl H813 gU jY).bind λs912=>(Sl.idx s912 ef 5).bind λp913=>(Hp.ldI H813 .i64 p913.1 p913.2).bind λn914=>(Hp.ldI H813 .i64 p913.1 (p913.2+1)).bind λn915=>(Hp.ldI H813 .i64 p913.1 (p913.2+2)).bind λn916=>(Hp.ldI H813 .i64 p913.1 (p913.2+3)).bind λn917=>(Hp.ldI H813 .i64 p913.1 (p913.2+4)).bind λn918=>(aA n914 n915 n916 n917 n918 eV H813).bind λr919=>((r919.1).asI .i64).bind λn920=>(bif (n920==(wrap .i64 ((-1) - eU))) then ((Hp.ldSl r919.2 gU jY).bind λs921=>(Hp.ldSl r919.2 gU jY).bind λs922=>(Sl.idx s922 ef 5).bind λp923=>(Hp.ldI r919.2 .i64 p923.1 p923.2).bind λn924=>(Hp.ldI r919.2 .i64 p923.1 (p923.2+1)).bind λn925=>(Hp.ldI r919.2 .i64 p923.1 (p923.2+2)).bind λn926=>(Hp.ldI r919.2 .i64 p923.1 (p923.2+3)).bind λn927=>(Hp.ldI r919.2 .i64 p923.1 (p923.2+4)).bind λn928=>(Sl.idx nm eU 1).bind λp929=>(Hp.ldI r919.2 .i64 p929.1 p929.2).bind λn930=>(aW n924 n925 n926 n927 n928 eV n930 r919.2).bind λr931=>((r931.1).asAgg 5).bind λl932=>(l932[0]?).bind λv933=>((v933).asI .i64).bind λn934=>(l932[1]?).bind λv935=>((v935).asI .i64).bind λn936=>(l932[2]?).bind λv937=>((v937).asI .i64).bind λn938=>(l932[3]?).bind λv939=>((v939).asI .i64).bind λn940=>(l932[4]?).bind λv941=>((v941).asI .i64).bind λn942=>(if aO r919.2 r931.2 then ((Sl.idx s921 ef 5).bind λp943=>(Hp.st r931.2 p943.1 p943.2 (.int .i64 n934)).bind λH944=>(Hp.st H944 p943.1 (p943.2+1) (.int .i64 n936)).bind λH945=>(Hp.st H945 p943.1 (p943.2+1+1) (.int .i64 n938)).bind λH946=>(Hp.st H946 p943.1 (p943.2+1+1+1) (.int .i64 n940)).bind λH947=>(Hp.st H947 p943.1 (p943.2+1+1+1+1) (.int .i64 n942)).bind λH948=>ah.j22 F ba aA aW (ah.l260789 F ba aA aW C509_ C16299_ FL) gd jp pT gU jY nm eU ef eV H948) else none)) else (ah.j22 F ba aA aW (ah.l260789 F ba aA aW C509_ C16299_ FL) gd jp pT gU jY nm eU ef eV r919.2))) else (ah.j21 F ba aA aW C16299_ gd jp pT gU jY nm eU ef H813))
termination_by structural n=>n
def ah.l16299 (F:Nat) (ba:Yz) (aA:Yu) (aW:YA) (C509_:YM):Nat->Int->Nat->Nat->Nat->Nat->Sl->Int->Int->Hp->OA
 | 0,_,_,_,_,_,_,_,_,_=>none
 | xe+1,ic,jZ,tg,jq,pU,th,ig,ii,H581=>(Hp.ldSl H581 jq pU).bind λs794=>(bif (decide (ii<(s794.n:Int))) then (ah.l260789 F ba aA aW C509_ (ah.l16299 F ba aA aW C509_ xe) F ic jZ tg jq pU th ig ii 0 H581) else (ah.j18 F ba aA aW C509_ ic jZ tg jq pU th ig H581))
termination_by structural n=>n
def ah.j23 (ba:Yz) (aA:Yu) (aW:YA) (C509_:YM) (np:Int) (tj:Nat) (OB:Nat) (tn:Nat) (OC:Nat) (OD:Sl) (nq:Int) (H564:Hp):OA:=ah.l16299 F ba aA aW C509_ F np tj OB tn OC OD nq 0 H564
def ah.l509 (F:Nat) (ba:Yz) (aA:Yu) (aW:YA) :Nat->Int->Nat->Nat->Nat->Nat->Sl->Int->Hp->OA
 | 0,_,_,_,_,_,_,_,_=>none
 | ij+1,gf,gV,j_,gW,ka,pV,fv,H113=>(bif (decide (fv<gf)) then ((Sl.idx pV fv 1).bind λp545=>(Hp.ldI H113 .i64 p545.1 p545.2).bind λn546=>(bif (decide (n546<0)) then ((Hp.ldI H113 .i64 gW (ka+1)).bind λn547=>(Hp.st H113 gW (ka+1) (.int .i64 (wrap .i64 (n547+1)))).bind λH548=>ah.j23 F ba aA aW (ah.l509 F ba aA aW ij) gf gV j_ gW ka pV fv H548) else (ah.j23 F ba aA aW (ah.l509 F ba aA aW ij) gf gV j_ gW ka pV fv H113))) else ((Hp.ldSl H113 gW ka).bind λs970=>(Hp.ldI H113 .i64 gW (ka+1)).bind λn971=>(Hp.st H113 gV j_ (.sl s970)).bind λH972=>(Hp.st H972 gV (j_+1) (.int .i64 n971)).bind λH973=>(Hp.ldSl H973 gV j_).bind λs974=>(Hp.ldI H973 .i64 gV (j_+1)).bind λn975=>some ((.agg [(.sl s974),(.int .i64 n975)]),H973)))
termination_by structural n=>n
def ah.j24 (ba:Yz) (aA:Yu) (aW:YA) (nr:Int) (tp:Nat) (OE:Nat) (tq:Nat) (OF:Nat) (OG:Sl) (H99:Hp):OA:=ah.l509 F ba aA aW F nr tp OE tq OF OG 0 H99
def ah.j25 (F:Nat) (ba:Yz) (aA:Yu) (aW:YA) (C253_:Zk) (ns:Int) (OH:Sl) (tt:Nat) (OI:Nat) (tu:Nat) (OJ:Nat) (xf:Sl) (nu:Int) (nv:Int) (kb:Int) (nw:Int) (ny:Int) (H1007:Hp):OA:=(Sl.idx xf kb 1).bind λp1008=>(Hp.st H1007 p1008.1 p1008.2 (.int .i64 nw)).bind λH1009=>(Sl.idx xf (wrap .i64 (kb+1)) 1).bind λp1010=>(Hp.st H1009 p1010.1 p1010.2 (.int .i64 ny)).bind λH1011=>C253_ ns OH tt OI tu OJ xf nu (wrap .i64 (nv+1)) H1011
def ah.l253 (F:Nat) (ba:Yz) (aA:Yu) (aW:YA) :Nat->Int->Sl->Nat->Nat->Nat->Nat->Sl->Int->Int->Hp->OA
 | 0,_,_,_,_,_,_,_,_,_,_=>none
 | pW+1,gh,lm,jr,pX,cZ,js,jt,cz,eW,H41=>(bif (decide (eW<(lm.n:Int))) then ((Sl.idx lm eW 1).bind λp976=>(Hp.ldI H41 .i64 p976.1 p976.2).bind λn977=>(ba n977 H41).bind λr978=>((r978.1).asI .i64).bind λn979=>(Sl.idx lm eW 1).bind λp980=>(Hp.ldI r978.2 .i64 p980.1 p980.2).bind λn981=>(bif (decide (n981>0)) then ((Hp.ldSl r978.2 cZ js).bind λs982=>(Sl.idx jt (wrap .i64 ((wrap .i64 (n979 - 1))+1)) 1).bind λp983=>(Hp.ldI r978.2 .i64 p983.1 p983.2).bind λn984=>(Sl.idx jt (wrap .i64 (n979 - 1)) 1).bind λp985=>(Hp.ldI r978.2 .i64 p985.1 p985.2).bind λn986=>(Hp.new r978.2 [(.int .i64 n984),(.int .i64 (wrap .i64 (cz+1))),(.int .i64 cz),(.int .i64 n986),(.int .i64 1)]).bind λH987=>(Sl.row H987 (⟨some (r978.2.length,0),1,.ex 1⟩:Sl) 5).bind λxs989=>(Hp.app H987 5 40 s982 (⟨some (r978.2.length,0),1,.ex 1⟩:Sl).n xs989).bind λa988=>(Hp.st a988.2 cZ js (.sl a988.1)).bind λH990=>ah.j25 F ba aA aW (ah.l253 F ba aA aW pW) gh lm jr pX cZ js jt (wrap .i64 (cz+2)) eW (wrap .i64 (n979 - 1)) cz (wrap .i64 (cz+1)) H990) else ((Hp.ldSl r978.2 cZ js).bind λs1012=>(Sl.idx jt (wrap .i64 (n979 - 1)) 1).bind λp1013=>(Hp.ldI r978.2 .i64 p1013.1 p1013.2).bind λn1014=>(Sl.idx jt (wrap .i64 ((wrap .i64 (n979 - 1))+1)) 1).bind λp1015=>(Hp.ldI r978.2 .i64 p1015.1 p1015.2).bind λn1016=>(Hp.new r978.2 [(.int .i64 n1014),(.int .i64 n1016),(.int .i64 (wrap .i64 (cz+1))),(.int .i64 cz),(.int .i64 (-1))]).bind λH1017=>(Sl.row H1017 (⟨some (r978.2.length,0),1,.ex 1⟩:Sl) 5).bind λxs1019=>(Hp.app H1017 5 40 s1012 (⟨some (r978.2.length,0),1,.ex 1⟩:Sl).n xs1019).bind λa1018=>(Hp.st a1018.2 cZ js (.sl a1018.1)).bind λH1020=>ah.j25 F ba aA aW (ah.l253 F ba aA aW pW) gh lm jr pX cZ js jt (wrap .i64 (cz+2)) eW (wrap .i64 (n979 - 1)) cz (wrap .i64 (cz+1)) H1020))) else (ah.j24 F ba aA aW gh jr pX cZ js jt H41))
termination_by structural n=>n
def ah.j26 (ba:Yz) (aA:Yu) (aW:YA) (nz:Int) (OK:Sl) (tv:Nat) (OL:Nat) (tz:Nat) (jW:Nat) (OM:Sl) (H29:Hp):OA:=ah.l253 F ba aA aW F nz OK tv OL tz jW OM 0 0 H29
def ah.l61 (F:Nat) (ba:Yz) (aA:Yu) (aW:YA) :Nat->Int->Sl->Nat->Nat->Nat->Nat->Sl->Int->Hp->OA
 | 0,_,_,_,_,_,_,_,_,_=>none
 | cA+1,dq,dA,kd,d_,ke,tB,tC,fw,H16=>(bif (decide (fw<dq)) then ((Hp.new H16 [(.int .i64 (wrap .i64 ((-1) - fw)))]).bind λH1021=>(Sl.row H1021 (⟨some (H16.length,0),1,.ex 1⟩:Sl) 1).bind λxs1023=>(Hp.app H1021 1 8 tC (⟨some (H16.length,0),1,.ex 1⟩:Sl).n xs1023).bind λa1022=>ah.l61 F ba aA aW cA dq dA kd d_ ke tB a1022.1 (wrap .i64 (fw+1)) a1022.2) else (ah.j26 F ba aA aW dq dA kd d_ ke tB tC H16))
termination_by structural n=>n
def ah.twX (ba:Yz) (aA:Yu) (aW:YA) (ac:Int) (aI:Sl) (H:Hp):OA:=(Hp.new H [.sl ⟨none,0,.ex 0⟩,.int .i64 0]).bind λH3=>(Hp.new H3 [.sl ⟨none,0,.ex 0⟩,.int .i64 0]).bind λH4=>(Hp.st H4 H3.length 0 (.sl (⟨none,0,.ex 0⟩:Sl))).bind λH5=>(Hp.st H5 H3.length (0+1) (.int .i64 0)).bind λH6=>(Hp.new H6 []).bind λH7=>ah.l61 F ba aA aW F ac aI H.length 0 H3.length 0 (⟨some (H6.length,0),0,.ex 0⟩:Sl) 0 H7
def ah.tw:=ah.twX F (cw.tw F) (bu.tw F) (bY.tw F)
def ah.lh61 (ba:Yz) (aA:Yu) (aW:YA) (ks:Yw) (n:Nat) (tm:Tm) (H:Hp):OA:=match ks,tm 0,tm 1,tm 4,tm 5,tm 6,tm 7 with
 | [],(.int .i64 dq),(.sl dA),(.ptr kd d_),(.ptr ke tB),(.sl tC),(.int .i64 fw)=>ah.l61 F ba aA aW n dq dA kd d_ ke tB tC fw H
 | _,_,_,_,_,_,_=>none
def ah.lh253 (ba:Yz) (aA:Yu) (aW:YA) (ks:Yw) (n:Nat) (tm:Tm) (H:Hp):OA:=match ks,tm 0,tm 1,tm 4,tm 5,tm 6,tm 8,tm 9 with
 | [],(.int .i64 gh),(.sl lm),(.ptr jr pX),(.ptr cZ js),(.sl jt),(.int .i64 cz),(.int .i64 eW)=>ah.l253 F ba aA aW n gh lm jr pX cZ js jt cz eW H
 | _,_,_,_,_,_,_,_=>none
def ah.lh509 (ba:Yz) (aA:Yu) (aW:YA) (ks:Yw) (n:Nat) (tm:Tm) (H:Hp):OA:=match ks,tm 0,tm 4,tm 5,tm 6,tm 13 with
 | [],(.int .i64 gf),(.ptr gV j_),(.ptr gW ka),(.sl pV),(.int .i64 fv)=>ah.l509 F ba aA aW n gf gV j_ gW ka pV fv H
 | _,_,_,_,_,_=>none
def ah.lh16299 (ba:Yz) (aA:Yu) (aW:YA) (ks:Yw) (n:Nat) (tm:Tm) (H:Hp):OA:=match ks,tm 0,tm 4,tm 5,tm 6,tm 13,tm 14 with
 | [ij],(.int .i64 ic),(.ptr jZ tg),(.ptr jq pU),(.sl th),(.int .i64 ig),(.int .i64 ii)=>ah.l16299 F ba aA aW (ah.l509 F ba aA aW ij) n ic jZ tg jq pU th ig ii H
 | _,_,_,_,_,_,_=>none
def ah.lh260789 (ba:Yz) (aA:Yu) (aW:YA) (ks:Yw) (n:Nat) (tm:Tm) (H:Hp):OA:=match ks,tm 0,tm 4,tm 5,tm 6,tm 13,tm 14,tm 15 with
 | [xe,ij],(.int .i64 gd),(.ptr jp pT),(.ptr gU jY),(.sl nm),(.int .i64 eU),(.int .i64 ef),(.int .i64 eV)=>ah.l260789 F ba aA aW (ah.l509 F ba aA aW ij) (ah.l16299 F ba aA aW (ah.l509 F ba aA aW ij) xe) n gd jp pT gU jY nm eU ef eV H
 | _,_,_,_,_,_,_,_=>none
def ah.lh (ba:Yz) (aA:Yu) (aW:YA) (p:Nat) (ks:Yw) (n:Nat) (tm:Tm) (H:Hp):OA:=bif p.beq 260789 then ah.lh260789 F ba aA aW ks n tm H else (bif p.beq 16299 then ah.lh16299 F ba aA aW ks n tm H else (bif p.beq 509 then ah.lh509 F ba aA aW ks n tm H else (bif p.beq 253 then ah.lh253 F ba aA aW ks n tm H else (bif p.beq 61 then ah.lh61 F ba aA aW ks n tm H else (none)))))
def ah.pn:Nat->List Nat:=cT [(15,[15,17]),(16,[15,17]),(31,[15])]
def ah.tb:Nat->List (List Nat):=cT [(15,[[],[0],[],[],[3],[2,3,4],[2,3,4,5],[],[],[],[],[9,10],[9,10,11],[2,3,4,5,6,7,8,9,10,11,12],[2,3,4,5,6,7,8,9,10,11,12,13],[0,1,2,3,4,5,6,7,8,9,10,11,12,13,14],[0,1,2,3,4,5,6,7,8,9,10,11,12,13,14,15],[0,1,2,3,4,5,6,7,8,9,10,11,12,13,14,15,16]]),(16,[[],[0],[],[],[2,3],[2,3,4],[],[],[7],[6,7,8],[6,7,8,9],[],[],[2,3,4,5,6,7,8,9,10,11,12],[2,3,4,5,6,7,8,9,10,11,12,13],[0,1,2,3,4,5,6,7,8,9,10,11,12,13,14],[0,1,2,3,4,5,6,7,8,9,10,11,12,13,14,15],[0,1,2,3,4,5,6,7,8,9,10,11,12,13,14,15,16]]),(31,[[],[0],[],[],[3],[],[3,4,5],[3,4,5,6],[],[],[],[9,10],[9,10,11],[3,4,5,6,7,8,9,10,11,12],[0,1,2,3,4,5,6,7,8,9,10,11,12,13],[0,1,2,3,4,5,6,7,8,9,10,11,12,13,14]])]
def mk5 (g:YN) (args:YE) (H:Hp):OA:=match args with
 | [(.int .i64 ac),(.sl aI)]=>g ac aI H
 | _=>none
theorem mk5_E (g:YN) (ac:Int) (aI:Sl) (H:Hp):mk5 g [(.int .i64 ac),(.sl aI)] H=g ac aI H:=rfl
def ah.cs (F:Nat) (ba:Yz) (aA:Yu) (aW:YA):Cs:=[(227,mk2 ba),(163,mk3 aA),(214,mk4 aW)]
theorem ah.loops (ba:Yz) (aA:Yu) (aW:YA):LO (bp (ah.cs F ba aA aW)) ah.pn (ah.lh F ba aA aW) F Try.f211:=
 (ae.rt (ae.rt (ae.rt (ae.seq (ae.rt (ae.block (ae.la (λn tm H r h=>by change ah.lh61 F ba aA aW [] n tm H=_ at h;unfold ah.lh61 at h;split at h;have e:bW tm [(0,_),(1,_),(4,_),(5,_),(6,_),(7,_)]:=⟨‹_›,‹_›,‹_›,‹_›,‹_›,‹_›,trivial⟩;obtain _ | k61:=n;cases h;exact ⟨_,rfl,by rw [<- ca e];exact Eq.trans (by kernel_rfl) h⟩;cases h) λk61=>ae.no))) (ae.rt (ae.seq (ae.rt (ae.block (ae.la (λn tm H r h=>by change ah.lh253 F ba aA aW [] n tm H=_ at h;unfold ah.lh253 at h;split at h;have e:bW tm [(0,_),(1,_),(4,_),(5,_),(6,_),(8,_),(9,_)]:=⟨‹_›,‹_›,‹_›,‹_›,‹_›,‹_›,‹_›,trivial⟩;obtain _ | k253:=n;cases h;exact ⟨_,rfl,by rw [<- ca e];exact Eq.trans (by kernel_rfl) h⟩;cases h) λk253=>ae.no))) (ae.lt (ae.rt (ae.block (ae.la (λn tm H r h=>by change ah.lh509 F ba aA aW [] n tm H=_ at h;unfold ah.lh509 at h;split at h;have e:bW tm [(0,_),(4,_),(5,_),(6,_),(13,_)]:=⟨‹_›,‹_›,‹_›,‹_›,‹_›,trivial⟩;obtain _ | k509:=n;cases h;exact ⟨_,rfl,by rw [<- ca e];exact Eq.trans (by kernel_rfl) h⟩;cases h) λk509=>(ae.rt (ae.lt (ae.block (ae.rt (ae.rt (ae.block (ae.la (λn tm H r h=>by change ah.lh16299 F ba aA aW [k509] n tm H=_ at h;unfold ah.lh16299 at h;split at h;have e:bW tm [(0,_),(4,_),(5,_),(6,_),(13,_),(14,_)]:=⟨‹_›,‹_›,‹_›,‹_›,‹_›,‹_›,trivial⟩;cases (show [k509]=_ from ‹_›);obtain _ | k16299:=n;cases h;exact ⟨_,rfl,by rw [<- ca e];exact Eq.trans (by kernel_rfl) h⟩;cases h) λk16299=>(ae.rt (ae.lt (ae.block (ae.rt (ae.block (ae.la (λn tm H r h=>by change ah.lh260789 F ba aA aW [k16299,k509] n tm H=_ at h;unfold ah.lh260789 at h;split at h;have e:bW tm [(0,_),(4,_),(5,_),(6,_),(13,_),(14,_),(15,_)]:=⟨‹_›,‹_›,‹_›,‹_›,‹_›,‹_›,‹_›,trivial⟩;cases (show [k16299,k509]=_ from ‹_›);obtain _ | k260789:=n;cases h;exact ⟨_,rfl,by rw [<- ca e];exact Eq.trans (by kernel_rfl) h⟩;cases h) λk260789=>ae.no)))))))))))))))))))))))
theorem ah.eqX (ba:Yz) (aA:Yu) (aW:YA) (ac:Int) (aI:Sl) (H:Hp):EX (bp (ah.cs F ba aA aW)) ah.pn (ah.lh F ba aA aW) F Try.f211 [(.int .i64 ac),(.sl aI)] H=ah.twX F ba aA aW ac aI H:=by kernel_rfl
theorem ah.k:Ok Try.prog 211 (mk5 (ah.tw F)):=by
 intro args H v H' h
 unfold mk5 at h
 split at h
 ·exact okT (TB:=ah.tb) Try.func211 (aX (cw.k F) (aX (bu.k F) (aX (bY.k F) cj))) (ah.loops F (cw.tw F) (bu.tw F) (bY.tw F)) ((ah.eqX F (cw.tw F) (bu.tw F) (bY.tw F) _ _ H).trans h) (by kernel_rfl)
 ·cases h
def aN.l61 (F:Nat) (bc:Yy) :Nat->Nat->Nat->Sl->Int->Hp->OA
 | 0,_,_,_,_,_=>none
 | cA+1,tD,tE,kf,eX,H31=>(bif (decide (eX>0)) then ((bc tD tE (wrap .i64 (eX+1)) H31).bind λr42=>((r42.1).asI .i64).bind λn43=>(Sl.idx kf eX 1).bind λp44=>(Hp.ldI r42.2 .i64 p44.1 p44.2).bind λn45=>(Sl.idx kf n43 1).bind λp46=>(Hp.ldI r42.2 .i64 p46.1 p46.2).bind λn47=>(Sl.idx kf eX 1).bind λp48=>(Hp.st r42.2 p48.1 p48.2 (.int .i64 n47)).bind λH49=>(Sl.idx kf n43 1).bind λp50=>(Hp.st H49 p50.1 p50.2 (.int .i64 n45)).bind λH51=>aN.l61 F bc cA tD tE kf (wrap .i64 (eX - 1)) H51) else (some ((.sl kf),H31)))
termination_by structural n=>n
def aN.j1 (bc:Yy) (OO:Nat) (OP:Nat) (nA:Int) (OQ:Sl) (H22:Hp):OA:=aN.l61 F bc F OO OP OQ (wrap .i64 (nA - 1)) H22
def aN.l29 (F:Nat) (bc:Yy) :Nat->Nat->Nat->Int->Sl->Int->Hp->OA
 | 0,_,_,_,_,_,_=>none
 | ft+1,tF,tG,dJ,tH,fx,H11=>(bif (decide (fx<dJ)) then ((Hp.new H11 [(.int .i64 fx)]).bind λH52=>(Sl.row H52 (⟨some (H11.length,0),1,.ex 1⟩:Sl) 1).bind λxs54=>(Hp.app H52 1 8 tH (⟨some (H11.length,0),1,.ex 1⟩:Sl).n xs54).bind λa53=>aN.l29 F bc ft tF tG dJ a53.1 (wrap .i64 (fx+1)) a53.2) else (aN.j1 F bc tF tG dJ tH H11))
termination_by structural n=>n
def aN.twX (bc:Yy) (ac:Nat) (ag:Nat) (az:Int) (H:Hp):OA:=(Hp.new H []).bind λH4=>aN.l29 F bc F ac ag az (⟨some (H.length,0),0,.ex 0⟩:Sl) 0 H4
def aN.tw:=aN.twX F (aJ.tw F)
def aN.lh29 (bc:Yy) (ks:Yw) (n:Nat) (tm:Tm) (H:Hp):OA:=match ks,tm 0,tm 1,tm 5,tm 6 with
 | [],(.ptr tF tG),(.int .i64 dJ),(.sl tH),(.int .i64 fx)=>aN.l29 F bc n tF tG dJ tH fx H
 | _,_,_,_,_=>none
def aN.lh61 (bc:Yy) (ks:Yw) (n:Nat) (tm:Tm) (H:Hp):OA:=match ks,tm 0,tm 5,tm 7 with
 | [],(.ptr tD tE),(.sl kf),(.int .i64 eX)=>aN.l61 F bc n tD tE kf eX H
 | _,_,_,_=>none
def aN.lh (bc:Yy) (p:Nat) (ks:Yw) (n:Nat) (tm:Tm) (H:Hp):OA:=bif p.beq 61 then aN.lh61 F bc ks n tm H else (bif p.beq 29 then aN.lh29 F bc ks n tm H else (none))
def aN.cs (F:Nat) (bc:Yy):Cs:=[(121,mk1 bc)]
theorem aN.loops (bc:Yy):LO (bp (aN.cs F bc)) bm (aN.lh F bc) F Try.f212:=
 (ae.rt (ae.rt (ae.seq (ae.rt (ae.block (ae.la (λn tm H r h=>by change aN.lh29 F bc [] n tm H=_ at h;unfold aN.lh29 at h;split at h;have e:bW tm [(0,_),(1,_),(5,_),(6,_)]:=⟨‹_›,‹_›,‹_›,‹_›,trivial⟩;obtain _ | k29:=n;cases h;exact ⟨_,rfl,by rw [<- ca e];exact Eq.trans (by kernel_rfl) h⟩;cases h) λk29=>ae.no))) (ae.lt (ae.rt (ae.block (ae.la (λn tm H r h=>by change aN.lh61 F bc [] n tm H=_ at h;unfold aN.lh61 at h;split at h;have e:bW tm [(0,_),(5,_),(7,_)]:=⟨‹_›,‹_›,‹_›,trivial⟩;obtain _ | k61:=n;cases h;exact ⟨_,rfl,by rw [<- ca e];exact Eq.trans (by kernel_rfl) h⟩;cases h) λk61=>ae.no)))))))
theorem aN.eqX (bc:Yy) (ac:Nat) (ag:Nat) (az:Int) (H:Hp):EX (bp (aN.cs F bc)) bm (aN.lh F bc) F Try.f212 [(.ptr ac ag),(.int .i64 az)] H=aN.twX F bc ac ag az H:=by kernel_rfl
theorem aN.k:Ok Try.prog 212 (mk1 (aN.tw F)):=by
 intro args H v H' h
 unfold mk1 at h
 split at h
 ·exact okT (TB:=bm) Try.func212 (aX (aJ.k F) cj) (aN.loops F (aJ.tw F)) ((aN.eqX F (aJ.tw F) _ _ _ H).trans h) (by kernel_rfl)
 ·cases h
def bC.l29 (F:Nat) :Nat->Sl->Sl->Nat->Nat->Nat->Nat->Nat->Nat->Int->Hp->OA
 | 0,_,_,_,_,_,_,_,_,_,_=>none
 | ft+1,ln,ju,fm,kg,ik,lp,il,lq,gi,H22=>(bif (decide (gi<(ju.n:Int))) then ((Hp.ldSl H22 fm kg).bind λs62=>(Sl.idx ju gi 1).bind λp63=>(Hp.ldI H22 .i64 p63.1 p63.2).bind λn64=>(Sl.idx s62 n64 5).bind λp65=>(Hp.ldI H22 .i64 p65.1 p65.2).bind λn66=>(Hp.ldI H22 .i64 p65.1 (p65.2+1)).bind λn67=>(Hp.ldI H22 .i64 p65.1 (p65.2+2)).bind λn68=>(Hp.ldI H22 .i64 p65.1 (p65.2+3)).bind λn69=>(Hp.ldI H22 .i64 p65.1 (p65.2+4)).bind λn70=>(Hp.new H22 [.int .i64 0,.int .i64 0,.int .i64 0,.int .i64 0,.int .i64 0]).bind λH71=>(Hp.st H71 H22.length 0 (.int .i64 n66)).bind λH72=>(Hp.st H72 H22.length (0+1) (.int .i64 n67)).bind λH73=>(Hp.st H73 H22.length (0+1+1) (.int .i64 n68)).bind λH74=>(Hp.st H74 H22.length (0+1+1+1) (.int .i64 n69)).bind λH75=>(Hp.st H75 H22.length (0+1+1+1+1) (.int .i64 n70)).bind λH76=>(Hp.ldSl H76 il lq).bind λs77=>(Hp.ldI H76 .i64 H22.length 0).bind λn78=>(Sl.idx ln n78 1).bind λp79=>(Hp.ldI H76 .i64 p79.1 p79.2).bind λn80=>(Hp.ldI H76 .i64 H22.length 1).bind λn81=>(Sl.idx ln n81 1).bind λp82=>(Hp.ldI H76 .i64 p82.1 p82.2).bind λn83=>(Hp.ldI H76 .i64 H22.length 2).bind λn84=>(Sl.idx ln n84 1).bind λp85=>(Hp.ldI H76 .i64 p85.1 p85.2).bind λn86=>(Hp.ldI H76 .i64 H22.length 3).bind λn87=>(Sl.idx ln n87 1).bind λp88=>(Hp.ldI H76 .i64 p88.1 p88.2).bind λn89=>(Hp.ldI H76 .i64 H22.length 4).bind λn90=>(Hp.new H76 [(.int .i64 n80),(.int .i64 n83),(.int .i64 n86),(.int .i64 n89),(.int .i64 n90)]).bind λH91=>(Sl.row H91 (⟨some (H76.length,0),1,.ex 1⟩:Sl) 5).bind λxs93=>(Hp.app H91 5 40 s77 (⟨some (H76.length,0),1,.ex 1⟩:Sl).n xs93).bind λa92=>(Hp.st a92.2 il lq (.sl a92.1)).bind λH94=>bC.l29 F ft ln ju fm kg ik lp il lq (wrap .i64 (gi+1)) H94) else ((Hp.ldSl H22 il lq).bind λs95=>(Hp.ldI H22 .i64 il (lq+1)).bind λn96=>(Hp.st H22 ik lp (.sl s95)).bind λH97=>(Hp.st H97 ik (lp+1) (.int .i64 n96)).bind λH98=>(Hp.ldSl H98 ik lp).bind λs99=>(Hp.ldI H98 .i64 ik (lp+1)).bind λn100=>some ((.agg [(.sl s99),(.int .i64 n100)]),H98)))
termination_by structural n=>n
def bC.twX (ac:Sl) (ag:Int) (az:Sl) (cP:Sl) (H:Hp):OA:=(Hp.new H [(.sl ac),(.int .i64 ag)]).bind λH5=>(Hp.new H5 [.sl ⟨none,0,.ex 0⟩,.int .i64 0]).bind λH6=>(Hp.ldI H6 .i64 H.length 1).bind λn7=>(Hp.new H6 [.sl ⟨none,0,.ex 0⟩,.int .i64 0]).bind λH8=>(Hp.st H8 H6.length 0 (.sl (⟨none,0,.ex 0⟩:Sl))).bind λH9=>(Hp.st H9 H6.length (0+1) (.int .i64 n7)).bind λH10=>bC.l29 F F az cP H.length 0 H5.length 0 H6.length 0 0 H10
def bC.tw:=bC.twX F
def bC.lh29 (ks:Yw) (n:Nat) (tm:Tm) (H:Hp):OA:=match ks,tm 1,tm 2,tm 3,tm 6,tm 7,tm 8 with
 | [],(.sl ln),(.sl ju),(.ptr fm kg),(.ptr ik lp),(.ptr il lq),(.int .i64 gi)=>bC.l29 F n ln ju fm kg ik lp il lq gi H
 | _,_,_,_,_,_,_=>none
def bC.lh (p:Nat) (ks:Yw) (n:Nat) (tm:Tm) (H:Hp):OA:=bif p.beq 29 then bC.lh29 F ks n tm H else (none)
def bC.pn:Nat->List Nat:=cT [(5,[9]),(6,[26,28])]
def bC.tb:Nat->List (List Nat):=cT [(5,[[],[0],[],[],[2,3],[2,3,4],[0,1,2,3,4,5],[0,1,2,3,4,5,6],[],[0,1,2,3,4,5,6,7,8]]),(6,[[],[0],[],[],[3],[2,3,4],[2,3,4,5],[],[],[8],[7,8,9],[7,8,9,10],[],[],[13],[12,13,14],[12,13,14,15],[],[],[18],[17,18,19],[17,18,19,20],[],[22],[2,3,4,5,6,7,8,9,10,11,12,13,14,15,16,17,18,19,20,21,22,23],[2,3,4,5,6,7,8,9,10,11,12,13,14,15,16,17,18,19,20,21,22,23,24],[0,1,2,3,4,5,6,7,8,9,10,11,12,13,14,15,16,17,18,19,20,21,22,23,24,25],[0,1,2,3,4,5,6,7,8,9,10,11,12,13,14,15,16,17,18,19,20,21,22,23,24,25,26],[0,1,2,3,4,5,6,7,8,9,10,11,12,13,14,15,16,17,18,19,20,21,22,23,24,25,26,27]])]
def mk6 (g:Yv) (args:YE) (H:Hp):OA:=match args with
 | [(.agg [(.sl ac),(.int .i64 ag)]),(.sl az),(.sl cP)]=>g ac ag az cP H
 | _=>none
theorem mk6_E (g:Yv) (ac:Sl) (ag:Int) (az:Sl) (cP:Sl) (H:Hp):mk6 g [(.agg [(.sl ac),(.int .i64 ag)]),(.sl az),(.sl cP)] H=g ac ag az cP H:=rfl
theorem bC.loops:LO (bp []) bC.pn (bC.lh F) F Try.f213:=
 (ae.rt (ae.rt (ae.lt (ae.rt (ae.block (ae.la (λn tm H r h=>by change bC.lh29 F [] n tm H=_ at h;unfold bC.lh29 at h;split at h;have e:bW tm [(1,_),(2,_),(3,_),(6,_),(7,_),(8,_)]:=⟨‹_›,‹_›,‹_›,‹_›,‹_›,‹_›,trivial⟩;obtain _ | k29:=n;cases h;exact ⟨_,rfl,by rw [<- ca e];exact Eq.trans (by kernel_rfl) h⟩;cases h) λk29=>ae.no))))))
theorem bC.k:Ok Try.prog 213 (mk6 (bC.tw F)):=by
 intro args H v H' h
 unfold mk6 at h
 split at h
 ·exact okT (PN:=bC.pn) (LH:=(bC.lh F)) (F:=F) (TB:=bC.tb) Try.func213 cj (bC.loops F) (Eq.trans (by kernel_rfl) h) (by kernel_rfl)
 ·cases h
def aL.j2 (F:Nat) (bc:Yy) (dr:YN) (dj:Yy) (dt:Yv) (pY:Nat) (xg:Nat) (im:Nat) (ki:Nat) (ga:Int) (OR:Sl) (H47:Hp):OA:=(dr ga OR H47).bind λr48=>((r48.1).asAgg 2).bind λl49=>(l49[0]?).bind λv50=>((v50).asSl).bind λs51=>(l49[1]?).bind λv52=>((v52).asI .i64).bind λn53=>(Hp.new r48.2 [.sl ⟨none,0,.ex 0⟩,.int .i64 0]).bind λH54=>(Hp.st H54 r48.2.length 0 (.sl s51)).bind λH55=>(Hp.st H55 r48.2.length (0+1) (.int .i64 n53)).bind λH56=>(bc pY xg 3 H56).bind λr57=>((r57.1).asI .i64).bind λn58=>(bif (n58==0) then ((Hp.ldSl r57.2 r48.2.length 0).bind λs59=>(Hp.ldI r57.2 .i64 r48.2.length (0+1)).bind λn60=>(Hp.st r57.2 im ki (.sl s59)).bind λH61=>(Hp.st H61 im (ki+1) (.int .i64 n60)).bind λH62=>(Hp.ldSl H62 im ki).bind λs63=>(Hp.ldI H62 .i64 im (ki+1)).bind λn64=>some ((.agg [(.sl s63),(.int .i64 n64)]),H62)) else ((Hp.ldSl r57.2 r48.2.length 0).bind λs65=>(dj pY xg (wrap .i64 (2 * (s65.n:Int))) r57.2).bind λr66=>((r66.1).asSl).bind λs67=>(Hp.ldSl r66.2 r48.2.length 0).bind λs68=>(Hp.ldI r66.2 .i64 r48.2.length (0+1)).bind λn69=>(dj pY xg (s65.n:Int) r66.2).bind λr70=>((r70.1).asSl).bind λs71=>(dt s68 n69 s67 s71 r70.2).bind λr72=>((r72.1).asAgg 2).bind λl73=>(l73[0]?).bind λv74=>((v74).asSl).bind λs75=>(l73[1]?).bind λv76=>((v76).asI .i64).bind λn77=>(Hp.st r72.2 im ki (.sl s75)).bind λH78=>(Hp.st H78 im (ki+1) (.int .i64 n77)).bind λH79=>(ifW (((((Hp.ldSl H79 r48.2.length 0).bind λs80=>(Hp.ldI H79 .i64 r48.2.length (0+1)).bind λn81=>kT (.agg [(.sl s68),(.int .i64 n69)]) H79 (.agg [(.sl s80),(.int .i64 n81)]) H79)=some ())/\(((Hp.ldSl r72.2 r48.2.length 0).bind λs82=>(Hp.ldI r72.2 .i64 r48.2.length (0+1)).bind λn83=>kT (.agg [(.sl s68),(.int .i64 n69)]) r72.2 (.agg [(.sl s82),(.int .i64 n83)]) r72.2)=some ())/\(((Hp.ldSl r70.2 r48.2.length 0).bind λs84=>(Hp.ldI r70.2 .i64 r48.2.length (0+1)).bind λn85=>kT (.agg [(.sl s68),(.int .i64 n69)]) r70.2 (.agg [(.sl s84),(.int .i64 n85)]) r70.2)=some ())/\(((Hp.ldSl r66.2 r48.2.length 0).bind λs86=>(Hp.ldI r66.2 .i64 r48.2.length (0+1)).bind λn87=>kT (.agg [(.sl s68),(.int .i64 n69)]) r66.2 (.agg [(.sl s86),(.int .i64 n87)]) r66.2)=some ())/\True)/\True) ((Hp.ldSl H79 im ki).bind λs88=>(Hp.ldI H79 .i64 im (ki+1)).bind λn89=>some ((.agg [(.sl s88),(.int .i64 n89)]),H79)))))
def aL.j3 (F:Nat) (bc:Yy) (dr:YN) (dj:Yy) (dt:Yv) (C61_:Zl) (OS:Nat) (OU:Nat) (tI:Nat) (OV:Nat) (nB:Int) (OW:Sl) (nC:Int) (kj:Int) (H105:Hp):OA:=(Hp.new H105 [(.int .i64 kj)]).bind λH106=>(Sl.row H106 (⟨some (H105.length,0),1,.ex 1⟩:Sl) 1).bind λxs108=>(Hp.app H106 1 8 OW (⟨some (H105.length,0),1,.ex 1⟩:Sl).n xs108).bind λa107=>C61_ OS OU tI OV nB a107.1 (wrap .i64 (nC - 1)) a107.2
def aL.l61 (F:Nat) (bc:Yy) (dr:YN) (dj:Yy) (dt:Yv) :Nat->Nat->Nat->Nat->Nat->Int->Sl->Int->Hp->OA
 | 0,_,_,_,_,_,_,_,_=>none
 | cA+1,kl,kn,dO,gj,ct,nD,gk,H18=>(bif (decide (gk>0)) then ((bif (decide (ct>1)) then ((bc kl kn (wrap .i64 (ct - 1)) H18).bind λr90=>((r90.1).asI .i64).bind λn91=>(bc kl kn 3 r90.2).bind λr92=>((r92.1).asI .i64).bind λn93=>(bif (n93==0) then (aL.j3 F bc dr dj dt (aL.l61 F bc dr dj dt cA) kl kn dO gj ct nD gk (wrap .i64 (0 - (wrap .i64 (1+n91)))) r92.2) else (aL.j3 F bc dr dj dt (aL.l61 F bc dr dj dt cA) kl kn dO gj ct nD gk (wrap .i64 (1+n91)) r92.2))) else (aL.j2 F bc dr dj dt kl kn dO gj ct nD H18))) else (aL.j2 F bc dr dj dt kl kn dO gj ct nD H18))
termination_by structural n=>n
def aL.twX (bc:Yy) (dr:YN) (dj:Yy) (dt:Yv) (ac:Nat) (ag:Nat) (az:Int) (H:Hp):OA:=(Hp.new H [.sl ⟨none,0,.ex 0⟩,.int .i64 0]).bind λH4=>(bc ac ag 3 H4).bind λr5=>((r5.1).asI .i64).bind λn6=>(Hp.new r5.2 []).bind λH7=>(bc ac ag (wrap .i64 (az+1)) H7).bind λr8=>((r8.1).asI .i64).bind λn9=>aL.l61 F bc dr dj dt F ac ag H.length 0 (wrap .i64 (1+n6)) (⟨some (r5.2.length,0),0,.ex 0⟩:Sl) n9 r8.2
def aL.tw:=aL.twX F (aJ.tw F) (ah.tw F) (aN.tw F) (bC.tw F)
def aL.lh61 (bc:Yy) (dr:YN) (dj:Yy) (dt:Yv) (ks:Yw) (n:Nat) (tm:Tm) (H:Hp):OA:=match ks,tm 0,tm 4,tm 5,tm 6,tm 7 with
 | [],(.ptr kl kn),(.ptr dO gj),(.int .i64 ct),(.sl nD),(.int .i64 gk)=>aL.l61 F bc dr dj dt n kl kn dO gj ct nD gk H
 | _,_,_,_,_,_=>none
def aL.lh (bc:Yy) (dr:YN) (dj:Yy) (dt:Yv) (p:Nat) (ks:Yw) (n:Nat) (tm:Tm) (H:Hp):OA:=bif p.beq 61 then aL.lh61 F bc dr dj dt ks n tm H else (none)
def aL.pn:Nat->List Nat:=cT [(15,[4,5,6,1000])]
def aL.tb:Nat->List (List Nat):=cT [(15,[[],[],[],[],[2,3],[0,1,2,3,4],[0,1,2,3,4,5]])]
def aL.cs (F:Nat) (bc:Yy) (dr:YN) (dj:Yy) (dt:Yv):Cs:=[(121,mk1 bc),(211,mk5 dr),(212,mk1 dj),(213,mk6 dt)]
theorem aL.loops (bc:Yy) (dr:YN) (dj:Yy) (dt:Yv):LO (bp (aL.cs F bc dr dj dt)) aL.pn (aL.lh F bc dr dj dt) F Try.f188:=
 (ae.rt (ae.rt (ae.rt (ae.lt (ae.rt (ae.block (ae.la (λn tm H r h=>by change aL.lh61 F bc dr dj dt [] n tm H=_ at h;unfold aL.lh61 at h;split at h;have e:bW tm [(0,_),(4,_),(5,_),(6,_),(7,_)]:=⟨‹_›,‹_›,‹_›,‹_›,‹_›,trivial⟩;obtain _ | k61:=n;cases h;exact ⟨_,rfl,by rw [<- ca e];exact Eq.trans (by kernel_rfl) h⟩;cases h) λk61=>ae.no)))))))
theorem aL.eqX (bc:Yy) (dr:YN) (dj:Yy) (dt:Yv) (ac:Nat) (ag:Nat) (az:Int) (H:Hp):EX (bp (aL.cs F bc dr dj dt)) aL.pn (aL.lh F bc dr dj dt) F Try.f188 [(.ptr ac ag),(.int .i64 az)] H=aL.twX F bc dr dj dt ac ag az H:=by kernel_rfl
theorem aL.k:Ok Try.prog 188 (mk1 (aL.tw F)):=by
 intro args H v H' h
 unfold mk1 at h
 split at h
 ·exact okT (TB:=aL.tb) Try.func188 (aX (aJ.k F) (aX (ah.k F) (aX (aN.k F) (aX (bC.k F) cj)))) (aL.loops F (aJ.tw F) (ah.tw F) (aN.tw F) (bC.tw F)) ((aL.eqX F (aJ.tw F) (ah.tw F) (aN.tw F) (bC.tw F) _ _ _ H).trans h) (by kernel_rfl)
 ·cases h
def cB.twX (F:Nat) (ac:Int) (aI:Int) (cV:Int) (H:Hp):OA:=(bif (decide (ac>=aI)) then (some ((.bool (decide (ac<=cV))),H)) else (some ((.bool false),H)))
def cB.tw:=cB.twX F
def mk7 (g:YF) (args:YE) (H:Hp):OA:=match args with
 | [(.int .i64 ac),(.int .i64 aI),(.int .i64 cV)]=>g ac aI cV H
 | _=>none
theorem mk7_E (g:YF) (ac:Int) (aI:Int) (cV:Int) (H:Hp):mk7 g [(.int .i64 ac),(.int .i64 aI),(.int .i64 cV)] H=g ac aI cV H:=rfl
theorem cB.k:Ok Try.prog 106 (mk7 (cB.tw F)):=by
 intro args H v H' h
 unfold mk7 at h
 split at h
 ·exact ok0 Try.func106 (Eq.trans (by kernel_rfl) h) (by kernel_rfl) (by kernel_rfl)
 ·cases h
def cq.twX (F:Nat) (ac:Int) (ag:Int) (bx:Int) (bz:Int) (bq:Int) (bM:Int) (H:Hp):OA:=(Hp.new H [(.int .i64 ac),(.int .i64 ag),(.int .i64 bx),(.int .i64 bz),(.int .i64 bq)]).bind λH7=>(bif (bM==0) then (some ((.bool true),H7)) else ((bif (bM==3) then ((Hp.ldI H7 .i64 H.length 4).bind λn8=>(bif (n8==1) then (some ((.bool true),H7)) else ((bif (bM==1) then ((Hp.ldI H7 .i64 H.length 4).bind λn9=>some ((.bool (n9==(-1))),H7)) else (some ((.bool false),H7)))))) else ((bif (bM==1) then ((Hp.ldI H7 .i64 H.length 4).bind λn10=>some ((.bool (n10==(-1))),H7)) else (some ((.bool false),H7)))))))
def cq.tw:=cq.twX F
theorem cq.k:Ok Try.prog 164 (mk3 (cq.tw F)):=by
 intro args H v H' h
 unfold mk3 at h
 split at h
 ·exact ok0 Try.func164 (Eq.trans (by kernel_rfl) h) (by kernel_rfl) (by kernel_rfl)
 ·cases h
def aK.l3927 (F:Nat) (aA:Yu) (bS:YF) (bj:Yu) (C61_:Zm):Nat->Nat->Nat->Int->Sl->Sl->Int->Nat->Nat->Int->Hp->OA
 | 0,_,_,_,_,_,_,_,_,_,_=>none
 | FM+1,jv,pZ,fy,lr,lu,eE,eF,fU,eY,H126=>(bif (decide (eY<4)) then ((Hp.ldI H126 .i64 eF fU).bind λn151=>(Hp.ldI H126 .i64 eF (fU+1)).bind λn152=>(Hp.ldI H126 .i64 eF (fU+2)).bind λn153=>(Hp.ldI H126 .i64 eF (fU+3)).bind λn154=>(Hp.ldI H126 .i64 eF (fU+4)).bind λn155=>(aA n151 n152 n153 n154 n155 eY H126).bind λr156=>((r156.1).asI .i64).bind λn157=>(bS n157 0 (wrap .i64 (fy - 1)) r156.2).bind λr158=>((r158.1).asB).bind λb159=>(bif (!b159) then (some ((.bool false),r158.2)) else ((Hp.ldI r158.2 .i64 eF fU).bind λn160=>(Hp.ldI r158.2 .i64 eF (fU+1)).bind λn161=>(Hp.ldI r158.2 .i64 eF (fU+2)).bind λn162=>(Hp.ldI r158.2 .i64 eF (fU+3)).bind λn163=>(Hp.ldI r158.2 .i64 eF (fU+4)).bind λn164=>(bj n160 n161 n162 n163 n164 eY r158.2).bind λr165=>((r165.1).asB).bind λb166=>(bif b166 then ((Sl.idx lr n157 1).bind λp167=>(Hp.ldB r165.2 p167.1 p167.2).bind λb168=>(bif b168 then (some ((.bool false),r165.2)) else ((Sl.idx lr n157 1).bind λp169=>(Hp.st r165.2 p169.1 p169.2 (.bool true)).bind λH170=>aK.l3927 F aA bS bj C61_ FM jv pZ fy lr lu eE eF fU (wrap .i64 (eY+1)) H170))) else ((Sl.idx lu n157 1).bind λp171=>(Hp.ldB r165.2 p171.1 p171.2).bind λb172=>(bif b172 then (some ((.bool false),r165.2)) else ((Sl.idx lu n157 1).bind λp173=>(Hp.st r165.2 p173.1 p173.2 (.bool true)).bind λH174=>aK.l3927 F aA bS bj C61_ FM jv pZ fy lr lu eE eF fU (wrap .i64 (eY+1)) H174))))))) else (C61_ jv pZ fy lr lu (wrap .i64 (eE+1)) H126))
termination_by structural n=>n
def aK.l61 (F:Nat) (aA:Yu) (bS:YF) (bj:Yu) :Nat->Nat->Nat->Int->Sl->Sl->Int->Hp->OA
 | 0,_,_,_,_,_,_,_=>none
 | cA+1,dA,io,eZ,dO,dP,fz,H16=>(Hp.ldSl H16 dA io).bind λs96=>(bif (decide (fz<(s96.n:Int))) then ((Hp.ldSl H16 dA io).bind λs97=>(Sl.idx s97 fz 5).bind λp98=>(Hp.ldI H16 .i64 p98.1 p98.2).bind λn99=>(Hp.ldI H16 .i64 p98.1 (p98.2+1)).bind λn100=>(Hp.ldI H16 .i64 p98.1 (p98.2+2)).bind λn101=>(Hp.ldI H16 .i64 p98.1 (p98.2+3)).bind λn102=>(Hp.ldI H16 .i64 p98.1 (p98.2+4)).bind λn103=>(Hp.new H16 [.int .i64 0,.int .i64 0,.int .i64 0,.int .i64 0,.int .i64 0]).bind λH104=>(Hp.st H104 H16.length 0 (.int .i64 n99)).bind λH105=>(Hp.st H105 H16.length (0+1) (.int .i64 n100)).bind λH106=>(Hp.st H106 H16.length (0+1+1) (.int .i64 n101)).bind λH107=>(Hp.st H107 H16.length (0+1+1+1) (.int .i64 n102)).bind λH108=>(Hp.st H108 H16.length (0+1+1+1+1) (.int .i64 n103)).bind λH109=>(Hp.ldI H109 .i64 H16.length 4).bind λn110=>(bif (n110 != 1) then ((Hp.ldI H109 .i64 H16.length 4).bind λn111=>(bif (n111 != (-1)) then (some ((.bool false),H109)) else (aK.l3927 F aA bS bj (aK.l61 F aA bS bj cA) F dA io eZ dO dP fz H16.length 0 0 H109))) else (aK.l3927 F aA bS bj (aK.l61 F aA bS bj cA) F dA io eZ dO dP fz H16.length 0 0 H109))) else (some ((.bool true),H16)))
termination_by structural n=>n
def aK.twX (aA:Yu) (bS:YF) (bj:Yu) (ac:Sl) (ag:Int) (H:Hp):OA:=(Hp.new H [(.sl ac),(.int .i64 ag)]).bind λH3=>(Hp.ldSl H3 H.length 0).bind λs4=>(Hp.mk H3 [.bool false] 1 (wrap .i64 (2 * (s4.n:Int))) (wrap .i64 (2 * (s4.n:Int)))).bind λm5=>(Hp.mk m5.2 [.bool false] 1 (wrap .i64 (2 * (s4.n:Int))) (wrap .i64 (2 * (s4.n:Int)))).bind λm6=>aK.l61 F aA bS bj F H.length 0 (wrap .i64 (2 * (s4.n:Int))) m5.1 m6.1 0 m6.2
def aK.tw:=aK.twX F (bu.tw F) (cB.tw F) (cq.tw F)
def aK.lh61 (aA:Yu) (bS:YF) (bj:Yu) (ks:Yw) (n:Nat) (tm:Tm) (H:Hp):OA:=match ks,tm 1,tm 3,tm 4,tm 5,tm 6 with
 | [],(.ptr dA io),(.int .i64 eZ),(.sl dO),(.sl dP),(.int .i64 fz)=>aK.l61 F aA bS bj n dA io eZ dO dP fz H
 | _,_,_,_,_,_=>none
def aK.lh3927 (aA:Yu) (bS:YF) (bj:Yu) (ks:Yw) (n:Nat) (tm:Tm) (H:Hp):OA:=match ks,tm 1,tm 3,tm 4,tm 5,tm 6,tm 7,tm 8 with
 | [cA],(.ptr jv pZ),(.int .i64 fy),(.sl lr),(.sl lu),(.int .i64 eE),(.ptr eF fU),(.int .i64 eY)=>aK.l3927 F aA bS bj (aK.l61 F aA bS bj cA) n jv pZ fy lr lu eE eF fU eY H
 | _,_,_,_,_,_,_,_=>none
def aK.lh (aA:Yu) (bS:YF) (bj:Yu) (p:Nat) (ks:Yw) (n:Nat) (tm:Tm) (H:Hp):OA:=bif p.beq 3927 then aK.lh3927 F aA bS bj ks n tm H else (bif p.beq 61 then aK.lh61 F aA bS bj ks n tm H else (none))
def aK.tb:Nat->List (List Nat):=cT [(2,[[],[0],[],[2],[0,1],[0,1,2,3,4]])]
def mk8 (g:Yq) (args:YE) (H:Hp):OA:=match args with
 | [(.agg [(.sl ac),(.int .i64 ag)])]=>g ac ag H
 | _=>none
theorem mk8_E (g:Yq) (ac:Sl) (ag:Int) (H:Hp):mk8 g [(.agg [(.sl ac),(.int .i64 ag)])] H=g ac ag H:=rfl
def aK.cs (F:Nat) (aA:Yu) (bS:YF) (bj:Yu):Cs:=[(163,mk3 aA),(106,mk7 bS),(164,mk3 bj)]
theorem aK.loops (aA:Yu) (bS:YF) (bj:Yu):LO (bp (aK.cs F aA bS bj)) bm (aK.lh F aA bS bj) F Try.f107:=
 (ae.rt (ae.rt (ae.rt (ae.lt (ae.rt (ae.block (ae.la (λn tm H r h=>by change aK.lh61 F aA bS bj [] n tm H=_ at h;unfold aK.lh61 at h;split at h;have e:bW tm [(1,_),(3,_),(4,_),(5,_),(6,_)]:=⟨‹_›,‹_›,‹_›,‹_›,‹_›,trivial⟩;obtain _ | k61:=n;cases h;exact ⟨_,rfl,by rw [<- ca e];exact Eq.trans (by kernel_rfl) h⟩;cases h) λk61=>(ae.rt (ae.lt (ae.block (ae.rt (ae.rt (ae.rt (ae.block (ae.la (λn tm H r h=>by change aK.lh3927 F aA bS bj [k61] n tm H=_ at h;unfold aK.lh3927 at h;split at h;have e:bW tm [(1,_),(3,_),(4,_),(5,_),(6,_),(7,_),(8,_)]:=⟨‹_›,‹_›,‹_›,‹_›,‹_›,‹_›,‹_›,trivial⟩;cases (show [k61]=_ from ‹_›);obtain _ | k3927:=n;cases h;exact ⟨_,rfl,by rw [<- ca e];exact Eq.trans (by kernel_rfl) h⟩;cases h) λk3927=>ae.no)))))))))))))))
theorem aK.eqX (aA:Yu) (bS:YF) (bj:Yu) (ac:Sl) (ag:Int) (H:Hp):EX (bp (aK.cs F aA bS bj)) bm (aK.lh F aA bS bj) F Try.f107 [(.agg [(.sl ac),(.int .i64 ag)])] H=aK.twX F aA bS bj ac ag H:=by kernel_rfl
theorem aK.k:Ok Try.prog 107 (mk8 (aK.tw F)):=by
 intro args H v H' h
 unfold mk8 at h
 split at h
 ·exact okT (TB:=aK.tb) Try.func107 (aX (bu.k F) (aX (cB.k F) (aX (cq.k F) cj))) (aK.loops F (bu.tw F) (cB.tw F) (cq.tw F)) ((aK.eqX F (bu.tw F) (cB.tw F) (cq.tw F) _ _ H).trans h) (by kernel_rfl)
 ·cases h
def ax.j3 (F:Nat) (aA:Yu) (bj:Yu) (C13_:Y_) (ko:Int) (nE:Bool) (nF:Nat) (OX:Nat) (nG:Int) (H147:Hp):OA:=C13_ ko nE nF OX (wrap .i64 (nG+1)) H147
def ax.j4 (aA:Yu) (bj:Yu) (C13_:Y_) (nH:Int) (nI:Bool) (tJ:Nat) (OY:Nat) (gl:Int) (H134:Hp):OA:=ax.j3 F aA bj C13_ nH nI tJ OY gl H134
def ax.l213 (F:Nat) (aA:Yu) (bj:Yu) (C13_:Y_):Nat->Int->Bool->Nat->Nat->Int->Int->Hp->OA
 | 0,_,_,_,_,_,_,_=>none
 | FN+1,fA,fB,ip,lw,eg,eo,H103=>(bif (decide (eo<4)) then ((Hp.ldSl H103 ip lw).bind λs148=>(Sl.idx s148 eg 5).bind λp149=>(Hp.ldI H103 .i64 p149.1 p149.2).bind λn150=>(Hp.ldI H103 .i64 p149.1 (p149.2+1)).bind λn151=>(Hp.ldI H103 .i64 p149.1 (p149.2+2)).bind λn152=>(Hp.ldI H103 .i64 p149.1 (p149.2+3)).bind λn153=>(Hp.ldI H103 .i64 p149.1 (p149.2+4)).bind λn154=>(aA n150 n151 n152 n153 n154 eo H103).bind λr155=>((r155.1).asI .i64).bind λn156=>(bif (n156==fA) then ((Hp.ldSl r155.2 ip lw).bind λs157=>(Sl.idx s157 eg 5).bind λp158=>(Hp.ldI r155.2 .i64 p158.1 p158.2).bind λn159=>(Hp.ldI r155.2 .i64 p158.1 (p158.2+1)).bind λn160=>(Hp.ldI r155.2 .i64 p158.1 (p158.2+2)).bind λn161=>(Hp.ldI r155.2 .i64 p158.1 (p158.2+3)).bind λn162=>(Hp.ldI r155.2 .i64 p158.1 (p158.2+4)).bind λn163=>(bj n159 n160 n161 n162 n163 eo r155.2).bind λr164=>((r164.1).asB).bind λb165=>(bif (b165==fB) then (some ((.tup [(.int .i64 eg),(.int .i64 eo)]),r164.2)) else (ax.l213 F aA bj C13_ FN fA fB ip lw eg (wrap .i64 (eo+1)) r164.2))) else (ax.l213 F aA bj C13_ FN fA fB ip lw eg (wrap .i64 (eo+1)) r155.2))) else (ax.j4 F aA bj C13_ fA fB ip lw eg H103))
termination_by structural n=>n
def ax.l13 (F:Nat) (aA:Yu) (bj:Yu) :Nat->Int->Bool->Nat->Nat->Int->Hp->OA
 | 0,_,_,_,_,_,_=>none
 | p_+1,fC,jw,gm,eG,iq,H15=>(Hp.ldSl H15 gm eG).bind λs91=>(bif (decide (iq<(s91.n:Int))) then (ax.l213 F aA bj (ax.l13 F aA bj p_) F fC jw gm eG iq 0 H15) else (some ((.tup [(.int .i64 (-1)),(.int .i64 (-1))]),H15)))
termination_by structural n=>n
def ax.twX (aA:Yu) (bj:Yu) (ac:Sl) (ag:Int) (az:Int) (cP:Bool) (H:Hp):OA:=(Hp.new H [(.sl ac),(.int .i64 ag)]).bind λH5=>ax.l13 F aA bj F az cP H.length 0 0 H5
def ax.tw:=ax.twX F (bu.tw F) (cq.tw F)
def ax.lh13 (aA:Yu) (bj:Yu) (ks:Yw) (n:Nat) (tm:Tm) (H:Hp):OA:=match ks,tm 1,tm 2,tm 3,tm 8 with
 | [],(.int .i64 fC),(.bool jw),(.ptr gm eG),(.int .i64 iq)=>ax.l13 F aA bj n fC jw gm eG iq H
 | _,_,_,_,_=>none
def ax.lh213 (aA:Yu) (bj:Yu) (ks:Yw) (n:Nat) (tm:Tm) (H:Hp):OA:=match ks,tm 1,tm 2,tm 3,tm 8,tm 9 with
 | [p_],(.int .i64 fA),(.bool fB),(.ptr ip lw),(.int .i64 eg),(.int .i64 eo)=>ax.l213 F aA bj (ax.l13 F aA bj p_) n fA fB ip lw eg eo H
 | _,_,_,_,_,_=>none
def ax.lh (aA:Yu) (bj:Yu) (p:Nat) (ks:Yw) (n:Nat) (tm:Tm) (H:Hp):OA:=bif p.beq 213 then ax.lh213 F aA bj ks n tm H else (bif p.beq 13 then ax.lh13 F aA bj ks n tm H else (none))
def mk9 (g:YG) (args:YE) (H:Hp):OA:=match args with
 | [(.agg [(.sl ac),(.int .i64 ag)]),(.int .i64 az),(.bool cP)]=>g ac ag az cP H
 | _=>none
theorem mk9_E (g:YG) (ac:Sl) (ag:Int) (az:Int) (cP:Bool) (H:Hp):mk9 g [(.agg [(.sl ac),(.int .i64 ag)]),(.int .i64 az),(.bool cP)] H=g ac ag az cP H:=rfl
def ax.cs (F:Nat) (aA:Yu) (bj:Yu):Cs:=[(163,mk3 aA),(164,mk3 bj)]
theorem ax.loops (aA:Yu) (bj:Yu):LO (bp (ax.cs F aA bj)) bm (ax.lh F aA bj) F Try.f198:=
 (ae.rt (ae.lt (ae.rt (ae.block (ae.la (λn tm H r h=>by change ax.lh13 F aA bj [] n tm H=_ at h;unfold ax.lh13 at h;split at h;have e:bW tm [(1,_),(2,_),(3,_),(8,_)]:=⟨‹_›,‹_›,‹_›,‹_›,trivial⟩;obtain _ | k13:=n;cases h;exact ⟨_,rfl,by rw [<- ca e];exact Eq.trans (by kernel_rfl) h⟩;cases h) λk13=>(ae.rt (ae.lt (ae.block (ae.rt (ae.block (ae.la (λn tm H r h=>by change ax.lh213 F aA bj [k13] n tm H=_ at h;unfold ax.lh213 at h;split at h;have e:bW tm [(1,_),(2,_),(3,_),(8,_),(9,_)]:=⟨‹_›,‹_›,‹_›,‹_›,‹_›,trivial⟩;cases (show [k13]=_ from ‹_›);obtain _ | k213:=n;cases h;exact ⟨_,rfl,by rw [<- ca e];exact Eq.trans (by kernel_rfl) h⟩;cases h) λk213=>ae.no)))))))))))
theorem ax.eqX (aA:Yu) (bj:Yu) (ac:Sl) (ag:Int) (az:Int) (cP:Bool) (H:Hp):EX (bp (ax.cs F aA bj)) bm (ax.lh F aA bj) F Try.f198 [(.agg [(.sl ac),(.int .i64 ag)]),(.int .i64 az),(.bool cP)] H=ax.twX F aA bj ac ag az cP H:=by kernel_rfl
theorem ax.k:Ok Try.prog 198 (mk9 (ax.tw F)):=by
 intro args H v H' h
 unfold mk9 at h
 split at h
 ·exact okT (TB:=bm) Try.func198 (aX (bu.k F) (aX (cq.k F) cj)) (ax.loops F (bu.tw F) (cq.tw F)) ((ax.eqX F (bu.tw F) (cq.tw F) _ _ _ _ H).trans h) (by kernel_rfl)
 ·cases h
def cC.twX (F:Nat) (aA:Yu) (bj:Yu) (bA:YG) (ac:Sl) (ag:Int) (az:Int) (H:Hp):OA:=(Hp.new H [(.sl ac),(.int .i64 ag)]).bind λH4=>(Hp.ldSl H4 H.length 0).bind λs5=>(Sl.idx s5 (wrap .i64 (Int.tdiv az 4)) 5).bind λp6=>(Hp.ldI H4 .i64 p6.1 p6.2).bind λn7=>(Hp.ldI H4 .i64 p6.1 (p6.2+1)).bind λn8=>(Hp.ldI H4 .i64 p6.1 (p6.2+2)).bind λn9=>(Hp.ldI H4 .i64 p6.1 (p6.2+3)).bind λn10=>(Hp.ldI H4 .i64 p6.1 (p6.2+4)).bind λn11=>(Hp.new H4 [.int .i64 0,.int .i64 0,.int .i64 0,.int .i64 0,.int .i64 0]).bind λH12=>(Hp.st H12 H4.length 0 (.int .i64 n7)).bind λH13=>(Hp.st H13 H4.length (0+1) (.int .i64 n8)).bind λH14=>(Hp.st H14 H4.length (0+1+1) (.int .i64 n9)).bind λH15=>(Hp.st H15 H4.length (0+1+1+1) (.int .i64 n10)).bind λH16=>(Hp.st H16 H4.length (0+1+1+1+1) (.int .i64 n11)).bind λH17=>(Hp.ldSl H17 H.length 0).bind λs18=>(Hp.ldI H17 .i64 H.length (0+1)).bind λn19=>(Hp.ldI H17 .i64 H4.length 0).bind λn20=>(Hp.ldI H17 .i64 H4.length (0+1)).bind λn21=>(Hp.ldI H17 .i64 H4.length (0+2)).bind λn22=>(Hp.ldI H17 .i64 H4.length (0+3)).bind λn23=>(Hp.ldI H17 .i64 H4.length (0+4)).bind λn24=>(aA n20 n21 n22 n23 n24 (Int.tmod (wrap .i64 ((Int.tmod az 4)+1)) 4) H17).bind λr25=>((r25.1).asI .i64).bind λn26=>(if aO H17 r25.2 then ((Hp.ldI r25.2 .i64 H4.length 0).bind λn27=>(Hp.ldI r25.2 .i64 H4.length (0+1)).bind λn28=>(Hp.ldI r25.2 .i64 H4.length (0+2)).bind λn29=>(Hp.ldI r25.2 .i64 H4.length (0+3)).bind λn30=>(Hp.ldI r25.2 .i64 H4.length (0+4)).bind λn31=>(bj n27 n28 n29 n30 n31 (Int.tmod (wrap .i64 ((Int.tmod az 4)+1)) 4) r25.2).bind λr32=>((r32.1).asB).bind λb33=>(if aO r25.2 r32.2 then ((bA s18 n19 n26 (!b33) r32.2).bind λr34=>((r34.1).asTup 2).bind λl35=>(l35[0]?).bind λv36=>((v36).asI .i64).bind λn37=>(l35[1]?).bind λv38=>((v38).asI .i64).bind λn39=>some ((.int .i64 (wrap .i64 ((wrap .i64 (4 * n37))+n39))),r34.2)) else none)) else none)
def cC.tw:=cC.twX F (bu.tw F) (cq.tw F) (ax.tw F)
def cC.pn:Nat->List Nat:=cT [(3,[8])]
def cC.tb:Nat->List (List Nat):=cT [(3,[[],[],[],[1,2],[],[],[1,2,3,4,5],[1,2,3,4,5,6],[0,1,2,3,4,5,6,7],[0,1,2,3,4,5,6,7,8],[0,1,2,3,4,5,6,7,8,9],[0,1,2,3,4,5,6,7,8,9],[0,1,2,3,4,5,6,7,8,9,10],[0,1,2,3,4,5,6,7,8,9,10,11,12]])]
def mk10 (g:YC) (args:YE) (H:Hp):OA:=match args with
 | [(.agg [(.sl ac),(.int .i64 ag)]),(.int .i64 az)]=>g ac ag az H
 | _=>none
theorem mk10_E (g:YC) (ac:Sl) (ag:Int) (az:Int) (H:Hp):mk10 g [(.agg [(.sl ac),(.int .i64 ag)]),(.int .i64 az)] H=g ac ag az H:=rfl
def cC.cs (F:Nat) (aA:Yu) (bj:Yu) (bA:YG):Cs:=[(163,mk3 aA),(164,mk3 bj),(198,mk9 bA)]
theorem cC.eqX (aA:Yu) (bj:Yu) (bA:YG) (ac:Sl) (ag:Int) (az:Int) (H:Hp):EX (bp (cC.cs F aA bj bA)) cC.pn lh0 F Try.f165 [(.agg [(.sl ac),(.int .i64 ag)]),(.int .i64 az)] H=cC.twX F aA bj bA ac ag az H:=by kernel_rfl
theorem cC.k:Ok Try.prog 165 (mk10 (cC.tw F)):=by
 intro args H v H' h
 unfold mk10 at h
 split at h
 ·exact okT (TB:=cC.tb) Try.func165 (aX (bu.k F) (aX (cq.k F) (aX (ax.k F) cj))) ae.no ((cC.eqX F (bu.tw F) (cq.tw F) (ax.tw F) _ _ _ H).trans h) (by kernel_rfl)
 ·cases h
def aD.j4 (F:Nat) (cI:YC) (C61_:YQ) (tK:Nat) (OZ:Nat) (O_:Sl) (Pa:Sl) (nJ:Int) (H108:Hp):OA:=C61_ tK OZ O_ Pa (wrap .i64 (nJ+1)) H108
def aD.j5 (F:Nat) (cI:YC) (C61_:YQ) (tL:Nat) (Pb:Nat) (Pc:Sl) (Pd:Sl) (nK:Int) (H164:Hp):OA:=C61_ tL Pb Pc Pd (wrap .i64 (nK+1)) H164
def aD.j6 (cI:YC) (C61_:YQ) (tM:Nat) (ko:Nat) (nF:Sl) (Pe:Sl) (nL:Int) (Pf:Sl) (H147:Hp):OA:=(Hp.new H147 [(.sl Pf)]).bind λH148=>(Sl.row H148 (⟨some (H147.length,0),1,.ex 1⟩:Sl) 1).bind λxs150=>(Hp.app H148 1 24 nF (⟨some (H147.length,0),1,.ex 1⟩:Sl).n xs150).bind λa149=>aD.j5 F cI C61_ tM ko a149.1 Pe nL a149.2
def aD.l7853 (F:Nat) (cI:YC) (C61_:YQ):Nat->Nat->Nat->Sl->Sl->Int->Sl->Int->Hp->OA
 | 0,_,_,_,_,_,_,_,_=>none
 | Pg+1,i_,nM,tO,nN,ir,eE,e_,H122=>(Sl.idx nN e_ 1).bind λp165=>(Hp.ldB H122 p165.1 p165.2).bind λb166=>(bif (!b166) then ((Sl.idx nN e_ 1).bind λp167=>(Hp.st H122 p167.1 p167.2 (.bool true)).bind λH168=>(Hp.new H168 [(.int .i64 e_)]).bind λH169=>(Sl.row H169 (⟨some (H168.length,0),1,.ex 1⟩:Sl) 1).bind λxs171=>(Hp.app H169 1 8 eE (⟨some (H168.length,0),1,.ex 1⟩:Sl).n xs171).bind λa170=>(Hp.ldSl a170.2 i_ nM).bind λs172=>(Hp.ldI a170.2 .i64 i_ (nM+1)).bind λn173=>(cI s172 n173 e_ a170.2).bind λr174=>((r174.1).asI .i64).bind λn175=>aD.l7853 F cI C61_ Pg i_ nM tO nN ir a170.1 n175 r174.2) else (aD.j6 F cI C61_ i_ nM tO nN ir eE H122))
termination_by structural n=>n
def aD.l61 (F:Nat) (cI:YC) :Nat->Nat->Nat->Sl->Sl->Int->Hp->OA
 | 0,_,_,_,_,_,_=>none
 | cA+1,dA,io,eZ,dO,dP,H15=>(bif (decide (dP<(dO.n:Int))) then ((Sl.idx dO dP 1).bind λp96=>(Hp.ldB H15 p96.1 p96.2).bind λb97=>(bif b97 then (aD.j4 F cI (aD.l61 F cI cA) dA io eZ dO dP H15) else ((Hp.new H15 []).bind λH109=>aD.l7853 F cI (aD.l61 F cI cA) F dA io eZ dO dP (⟨some (H15.length,0),0,.ex 0⟩:Sl) dP H109))) else (some ((.sl eZ),H15)))
termination_by structural n=>n
def aD.twX (cI:YC) (ac:Sl) (ag:Int) (H:Hp):OA:=(Hp.new H [(.sl ac),(.int .i64 ag)]).bind λH3=>(Hp.new H3 []).bind λH4=>(Hp.ldSl H4 H.length 0).bind λs5=>(Hp.mk H4 [.bool false] 1 (wrap .i64 (4 * (s5.n:Int))) (wrap .i64 (4 * (s5.n:Int)))).bind λm6=>aD.l61 F cI F H.length 0 (⟨some (H3.length,0),0,.ex 0⟩:Sl) m6.1 0 m6.2
def aD.tw:=aD.twX F (cC.tw F)
def aD.lh61 (cI:YC) (ks:Yw) (n:Nat) (tm:Tm) (H:Hp):OA:=match ks,tm 1,tm 3,tm 4,tm 5 with
 | [],(.ptr dA io),(.sl eZ),(.sl dO),(.int .i64 dP)=>aD.l61 F cI n dA io eZ dO dP H
 | _,_,_,_,_=>none
def aD.lh7853 (cI:YC) (ks:Yw) (n:Nat) (tm:Tm) (H:Hp):OA:=match ks,tm 1,tm 3,tm 4,tm 5,tm 6,tm 7 with
 | [cA],(.ptr i_ nM),(.sl tO),(.sl nN),(.int .i64 ir),(.sl eE),(.int .i64 e_)=>aD.l7853 F cI (aD.l61 F cI cA) n i_ nM tO nN ir eE e_ H
 | _,_,_,_,_,_,_=>none
def aD.lh (cI:YC) (p:Nat) (ks:Yw) (n:Nat) (tm:Tm) (H:Hp):OA:=bif p.beq 7853 then aD.lh7853 F cI ks n tm H else (bif p.beq 61 then aD.lh61 F cI ks n tm H else (none))
def aD.cs (F:Nat) (cI:YC):Cs:=[(165,mk10 cI)]
theorem aD.loops (cI:YC):LO (bp (aD.cs F cI)) bm (aD.lh F cI) F Try.f108:=
 (ae.rt (ae.rt (ae.rt (ae.lt (ae.rt (ae.block (ae.la (λn tm H r h=>by change aD.lh61 F cI [] n tm H=_ at h;unfold aD.lh61 at h;split at h;have e:bW tm [(1,_),(3,_),(4,_),(5,_)]:=⟨‹_›,‹_›,‹_›,‹_›,trivial⟩;obtain _ | k61:=n;cases h;exact ⟨_,rfl,by rw [<- ca e];exact Eq.trans (by kernel_rfl) h⟩;cases h) λk61=>(ae.rt (ae.lt (ae.block (ae.rt (ae.rt (ae.lt (ae.rt (ae.block (ae.la (λn tm H r h=>by change aD.lh7853 F cI [k61] n tm H=_ at h;unfold aD.lh7853 at h;split at h;have e:bW tm [(1,_),(3,_),(4,_),(5,_),(6,_),(7,_)]:=⟨‹_›,‹_›,‹_›,‹_›,‹_›,‹_›,trivial⟩;cases (show [k61]=_ from ‹_›);obtain _ | k7853:=n;cases h;exact ⟨_,rfl,by rw [<- ca e];exact Eq.trans (by kernel_rfl) h⟩;cases h) λk7853=>ae.no))))))))))))))))
theorem aD.eqX (cI:YC) (ac:Sl) (ag:Int) (H:Hp):EX (bp (aD.cs F cI)) bm (aD.lh F cI) F Try.f108 [(.agg [(.sl ac),(.int .i64 ag)])] H=aD.twX F cI ac ag H:=by kernel_rfl
theorem aD.k:Ok Try.prog 108 (mk8 (aD.tw F)):=by
 intro args H v H' h
 unfold mk8 at h
 split at h
 ·exact okT (TB:=bm) Try.func108 (aX (cC.k F) cj) (aD.loops F (cC.tw F)) ((aD.eqX F (cC.tw F) _ _ H).trans h) (by kernel_rfl)
 ·cases h
def au.j6 (F:Nat) (bA:YG) (C61_:YR) (tP:Nat) (Ph:Nat) (Pi:Sl) (nO:Int) (H243:Hp):OA:=C61_ tP Ph Pi (wrap .i64 (nO+1)) H243
def au.j7 (bA:YG) (C61_:YR) (tQ:Nat) (Pj:Nat) (nP:Sl) (kp:Int) (H226:Hp):OA:=au.j6 F bA C61_ tQ Pj nP kp H226
def au.j8 (F:Nat) (bA:YG) (C7855_:Zn) (tR:Nat) (Pm:Nat) (Pn:Sl) (nQ:Int) (nR:Int) (nS:Int) (nT:Int) (H265:Hp):OA:=C7855_ tR Pm Pn nQ nR nS (wrap .i64 (nT+1)) H265
def au.l7855 (F:Nat) (bA:YG) (C61_:YR):Nat->Nat->Nat->Sl->Int->Int->Int->Int->Hp->OA
 | 0,_,_,_,_,_,_,_,_=>none
 | FO+1,jx,qd,kq,gn,es,et,fa,H187=>(bif (decide (fa<(kq.n:Int))) then ((Sl.idx kq fa 1).bind λp244=>(Hp.ldI H187 .i64 p244.1 p244.2).bind λn245=>(bif (n245==(if et>es then et else es)) then ((Sl.idx kq fa 1).bind λp246=>(Hp.st H187 p246.1 p246.2 (.int .i64 (if et<es then et else es))).bind λH247=>au.j8 F bA (au.l7855 F bA C61_ FO) jx qd kq gn es et fa H247) else (au.j8 F bA (au.l7855 F bA C61_ FO) jx qd kq gn es et fa H187))) else (au.j7 F bA C61_ jx qd kq gn H187))
termination_by structural n=>n
def au.l61 (F:Nat) (bA:YG) :Nat->Nat->Nat->Sl->Int->Hp->OA
 | 0,_,_,_,_,_=>none
 | cA+1,gX,kr,nU,cZ,H35=>(Hp.ldSl H35 gX kr).bind λs151=>(bif (decide (cZ<(wrap .i64 (2 * (s151.n:Int))))) then ((Hp.ldSl H35 gX kr).bind λs152=>(Hp.ldI H35 .i64 gX (kr+1)).bind λn153=>(bA s152 n153 cZ true H35).bind λr154=>((r154.1).asTup 2).bind λl155=>(l155[0]?).bind λv156=>((v156).asI .i64).bind λn157=>(l155[1]?).bind λv158=>((v158).asI .i64).bind λn159=>(Hp.ldSl r154.2 gX kr).bind λs160=>(Hp.ldI r154.2 .i64 gX (kr+1)).bind λn161=>(bA s160 n161 cZ false r154.2).bind λr162=>((r162.1).asTup 2).bind λl163=>(l163[0]?).bind λv164=>((v164).asI .i64).bind λn165=>(l163[1]?).bind λv166=>((v166).asI .i64).bind λn167=>(Sl.idx nU n157 1).bind λp168=>(Hp.ldI r162.2 .i64 p168.1 p168.2).bind λn169=>(Sl.idx nU n165 1).bind λp170=>(Hp.ldI r162.2 .i64 p170.1 p170.2).bind λn171=>au.l7855 F bA (au.l61 F bA cA) F gX kr nU cZ n169 n171 0 r162.2) else (some ((.sl nU),H35)))
termination_by structural n=>n
def au.j9 (bA:YG) (tS:Nat) (Po:Nat) (Pp:Sl) (H25:Hp):OA:=au.l61 F bA F tS Po Pp 0 H25
def au.l29 (F:Nat) (bA:YG) :Nat->Nat->Nat->Sl->Int->Hp->OA
 | 0,_,_,_,_,_=>none
 | ft+1,dJ,fC,gm,d_,H12=>(Hp.ldSl H12 dJ fC).bind λs266=>(bif (decide (d_<(s266.n:Int))) then ((Hp.new H12 [(.int .i64 d_)]).bind λH267=>(Sl.row H267 (⟨some (H12.length,0),1,.ex 1⟩:Sl) 1).bind λxs269=>(Hp.app H267 1 8 gm (⟨some (H12.length,0),1,.ex 1⟩:Sl).n xs269).bind λa268=>au.l29 F bA ft dJ fC a268.1 (wrap .i64 (d_+1)) a268.2) else (au.j9 F bA dJ fC gm H12))
termination_by structural n=>n
def au.twX (bA:YG) (ac:Sl) (ag:Int) (H:Hp):OA:=(Hp.new H [(.sl ac),(.int .i64 ag)]).bind λH3=>(Hp.new H3 []).bind λH4=>au.l29 F bA F H.length 0 (⟨some (H3.length,0),0,.ex 0⟩:Sl) 0 H4
def au.tw:=au.twX F (ax.tw F)
def au.lh29 (bA:YG) (ks:Yw) (n:Nat) (tm:Tm) (H:Hp):OA:=match ks,tm 1,tm 3,tm 4 with
 | [],(.ptr dJ fC),(.sl gm),(.int .i64 d_)=>au.l29 F bA n dJ fC gm d_ H
 | _,_,_,_=>none
def au.lh61 (bA:YG) (ks:Yw) (n:Nat) (tm:Tm) (H:Hp):OA:=match ks,tm 1,tm 3,tm 5 with
 | [],(.ptr gX kr),(.sl nU),(.int .i64 cZ)=>au.l61 F bA n gX kr nU cZ H
 | _,_,_,_=>none
def au.lh7855 (bA:YG) (ks:Yw) (n:Nat) (tm:Tm) (H:Hp):OA:=match ks,tm 1,tm 3,tm 5,tm 10,tm 11,tm 12 with
 | [cA],(.ptr jx qd),(.sl kq),(.int .i64 gn),(.int .i64 es),(.int .i64 et),(.int .i64 fa)=>au.l7855 F bA (au.l61 F bA cA) n jx qd kq gn es et fa H
 | _,_,_,_,_,_,_=>none
def au.lh (bA:YG) (p:Nat) (ks:Yw) (n:Nat) (tm:Tm) (H:Hp):OA:=bif p.beq 7855 then au.lh7855 F bA ks n tm H else (bif p.beq 61 then au.lh61 F bA ks n tm H else (bif p.beq 29 then au.lh29 F bA ks n tm H else (none)))
def au.tb:Nat->List (List Nat):=cT [(11,[[],[],[0,1],[0,1,2],[],[],[4,5],[4,5,6],[0,1,2,3],[0,1,2,3,4,5,6,7,8]])]
def au.cs (F:Nat) (bA:YG):Cs:=[(198,mk9 bA)]
theorem au.loops (bA:YG):LO (bp (au.cs F bA)) bm (au.lh F bA) F Try.f166:=
 (ae.rt (ae.rt (ae.seq (ae.rt (ae.block (ae.la (λn tm H r h=>by change au.lh29 F bA [] n tm H=_ at h;unfold au.lh29 at h;split at h;have e:bW tm [(1,_),(3,_),(4,_)]:=⟨‹_›,‹_›,‹_›,trivial⟩;obtain _ | k29:=n;cases h;exact ⟨_,rfl,by rw [<- ca e];exact Eq.trans (by kernel_rfl) h⟩;cases h) λk29=>ae.no))) (ae.lt (ae.rt (ae.block (ae.la (λn tm H r h=>by change au.lh61 F bA [] n tm H=_ at h;unfold au.lh61 at h;split at h;have e:bW tm [(1,_),(3,_),(5,_)]:=⟨‹_›,‹_›,‹_›,trivial⟩;obtain _ | k61:=n;cases h;exact ⟨_,rfl,by rw [<- ca e];exact Eq.trans (by kernel_rfl) h⟩;cases h) λk61=>(ae.rt (ae.lt (ae.block (ae.rt (ae.rt (ae.rt (ae.rt (ae.block (ae.la (λn tm H r h=>by change au.lh7855 F bA [k61] n tm H=_ at h;unfold au.lh7855 at h;split at h;have e:bW tm [(1,_),(3,_),(5,_),(10,_),(11,_),(12,_)]:=⟨‹_›,‹_›,‹_›,‹_›,‹_›,‹_›,trivial⟩;cases (show [k61]=_ from ‹_›);obtain _ | k7855:=n;cases h;exact ⟨_,rfl,by rw [<- ca e];exact Eq.trans (by kernel_rfl) h⟩;cases h) λk7855=>ae.no))))))))))))))))
theorem au.eqX (bA:YG) (ac:Sl) (ag:Int) (H:Hp):EX (bp (au.cs F bA)) bm (au.lh F bA) F Try.f166 [(.agg [(.sl ac),(.int .i64 ag)])] H=au.twX F bA ac ag H:=by kernel_rfl
theorem au.k:Ok Try.prog 166 (mk8 (au.tw F)):=by
 intro args H v H' h
 unfold mk8 at h
 split at h
 ·exact okT (TB:=au.tb) Try.func166 (aX (ax.k F) cj) (au.loops F (ax.tw F)) ((au.eqX F (ax.tw F) _ _ H).trans h) (by kernel_rfl)
 ·cases h
def bf.j2 (F:Nat) (dQ:Yq) (C61_:Zo) (nV:Int) (Pq:Sl) (nW:Int) (H42:Hp):OA:=C61_ nV Pq (wrap .i64 (nW+1)) H42
def bf.l61 (F:Nat) (dQ:Yq) :Nat->Int->Sl->Int->Hp->OA
 | 0,_,_,_,_=>none
 | cA+1,gp,gj,ct,H16=>(bif (decide (ct<(gj.n:Int))) then ((Sl.idx gj ct 1).bind λp30=>(Hp.ldI H16 .i64 p30.1 p30.2).bind λn31=>(bif (n31==ct) then (bf.j2 F dQ (bf.l61 F dQ cA) (wrap .i64 (gp+1)) gj ct H16) else (bf.j2 F dQ (bf.l61 F dQ cA) gp gj ct H16))) else (some ((.int .i64 gp),H16)))
def bf.twX (dQ:Yq) (ac:Sl) (ag:Int) (H:Hp):OA:=(Hp.new H [(.sl ac),(.int .i64 ag)]).bind λH3=>(Hp.ldSl H3 H.length 0).bind λs4=>(Hp.ldI H3 .i64 H.length (0+1)).bind λn5=>(dQ s4 n5 H3).bind λr6=>((r6.1).asSl).bind λs7=>bf.l61 F dQ F 0 s7 0 r6.2
def bf.tw:=bf.twX F (au.tw F)
def bf.lh61 (dQ:Yq) (ks:Yw) (n:Nat) (tm:Tm) (H:Hp):OA:=match ks,tm 3,tm 4,tm 5 with
 | [],(.int .i64 gp),(.sl gj),(.int .i64 ct)=>bf.l61 F dQ n gp gj ct H
 | _,_,_,_=>none
def bf.lh (dQ:Yq) (p:Nat) (ks:Yw) (n:Nat) (tm:Tm) (H:Hp):OA:=bif p.beq 61 then bf.lh61 F dQ ks n tm H else (none)
def bf.cs (F:Nat) (dQ:Yq):Cs:=[(166,mk8 dQ)]
theorem bf.loops (dQ:Yq):LO (bp (bf.cs F dQ)) bm (bf.lh F dQ) F Try.f109:=
 (ae.rt (ae.rt (ae.rt (ae.lt (ae.rt (ae.block (ae.la (λn tm H r h=>by change bf.lh61 F dQ [] n tm H=_ at h;unfold bf.lh61 at h;split at h;have e:bW tm [(3,_),(4,_),(5,_)]:=⟨‹_›,‹_›,‹_›,trivial⟩;obtain _ | k61:=n;cases h;exact ⟨_,rfl,by rw [<- ca e];exact Eq.trans (by kernel_rfl) h⟩;cases h) λk61=>ae.no)))))))
theorem bf.eqX (dQ:Yq) (ac:Sl) (ag:Int) (H:Hp):EX (bp (bf.cs F dQ)) bm (bf.lh F dQ) F Try.f109 [(.agg [(.sl ac),(.int .i64 ag)])] H=bf.twX F dQ ac ag H:=by kernel_rfl
theorem bf.k:Ok Try.prog 109 (mk8 (bf.tw F)):=by
 intro args H v H' h
 unfold mk8 at h
 split at h
 ·exact okT (TB:=bm) Try.func109 (aX (au.k F) cj) (bf.loops F (au.tw F)) ((bf.eqX F (au.tw F) _ _ H).trans h) (by kernel_rfl)
 ·cases h
def bL.twX (F:Nat) (bS:YF) (nX:Yq) (nY:Yq) (nZ:Yq) (ac:Sl) (ag:Int) (H:Hp):OA:=(Hp.new H [(.sl ac),(.int .i64 ag)]).bind λH3=>(Hp.ldSl H3 H.length 0).bind λs4=>(bif (decide ((s4.n:Int)>10)) then (some ((.bool false),H3)) else ((Hp.ldI H3 .i64 H.length 1).bind λn5=>(bS n5 0 8 H3).bind λr6=>((r6.1).asB).bind λb7=>(bif (!b7) then (some ((.bool false),r6.2)) else ((Hp.ldSl r6.2 H.length 0).bind λs8=>(Hp.ldI r6.2 .i64 H.length (0+1)).bind λn9=>(nX s8 n9 r6.2).bind λr10=>((r10.1).asB).bind λb11=>(bif (!b11) then (some ((.bool false),r10.2)) else ((Hp.ldSl r10.2 H.length 0).bind λs12=>(Hp.ldI r10.2 .i64 H.length (0+1)).bind λn13=>(nY s12 n13 r10.2).bind λr14=>((r14.1).asSl).bind λs15=>(if aO r10.2 r14.2 then ((Hp.ldSl r14.2 H.length 0).bind λs16=>(Hp.ldSl r14.2 H.length 0).bind λs17=>(Hp.ldI r14.2 .i64 H.length (0+1)).bind λn18=>(nZ s17 n18 r14.2).bind λr19=>((r19.1).asI .i64).bind λn20=>(if aO r14.2 r19.2 then (some ((.bool ((s15.n:Int)==(wrap .i64 ((s16.n:Int)+(wrap .i64 (2 * n20)))))),r19.2)) else none)) else none)))))))
def bL.tw:=bL.twX F (cB.tw F) (aK.tw F) (aD.tw F) (bf.tw F)
def bL.tb:Nat->List (List Nat):=cT [(3,[[],[0],[0,1],[],[3],[3,4],[],[0,1,6],[0,1,6,7],[0,1,3,4,5,6,7,8],[0,1,2,3,4,5,6,7,8,9],[0,1,2,3,4,5,6,7,8,9,10]])]
def bL.cs (F:Nat) (bS:YF) (nX:Yq) (nY:Yq) (nZ:Yq):Cs:=[(106,mk7 bS),(107,mk8 nX),(108,mk8 nY),(109,mk8 nZ)]
theorem bL.eqX (bS:YF) (nX:Yq) (nY:Yq) (nZ:Yq) (ac:Sl) (ag:Int) (H:Hp):EX (bp (bL.cs F bS nX nY nZ)) bm lh0 F Try.f47 [(.agg [(.sl ac),(.int .i64 ag)])] H=bL.twX F bS nX nY nZ ac ag H:=by kernel_rfl
theorem bL.k:Ok Try.prog 47 (mk8 (bL.tw F)):=by
 intro args H v H' h
 unfold mk8 at h
 split at h
 ·exact okT (TB:=bL.tb) Try.func47 (aX (cB.k F) (aX (aK.k F) (aX (aD.k F) (aX (bf.k F) cj)))) ae.no ((bL.eqX F (cB.tw F) (aK.tw F) (aD.tw F) (bf.tw F) _ _ H).trans h) (by kernel_rfl)
 ·cases h
def bN.l125 (F:Nat) :Nat->Nat->Nat->Nat->Nat->Nat->Nat->Int->Int->Hp->OA
 | 0,_,_,_,_,_,_,_,_,_=>none
 | Pr+1,fb,qe,iu,lx,iv,ly,du,gq,H33=>(Hp.ldSl H33 fb qe).bind λs64=>(bif (decide (gq<(s64.n:Int))) then ((Hp.ldSl H33 fb qe).bind λs65=>(Sl.idx s65 gq 5).bind λp66=>(Hp.ldI H33 .i64 p66.1 p66.2).bind λn67=>(Hp.ldI H33 .i64 p66.1 (p66.2+1)).bind λn68=>(Hp.ldI H33 .i64 p66.1 (p66.2+2)).bind λn69=>(Hp.ldI H33 .i64 p66.1 (p66.2+3)).bind λn70=>(Hp.ldI H33 .i64 p66.1 (p66.2+4)).bind λn71=>(Hp.new H33 [.int .i64 0,.int .i64 0,.int .i64 0,.int .i64 0,.int .i64 0]).bind λH72=>(Hp.st H72 H33.length 0 (.int .i64 n67)).bind λH73=>(Hp.st H73 H33.length (0+1) (.int .i64 n68)).bind λH74=>(Hp.st H74 H33.length (0+1+1) (.int .i64 n69)).bind λH75=>(Hp.st H75 H33.length (0+1+1+1) (.int .i64 n70)).bind λH76=>(Hp.st H76 H33.length (0+1+1+1+1) (.int .i64 n71)).bind λH77=>(Hp.ldSl H77 iv ly).bind λs78=>(Hp.ldI H77 .i64 H33.length 0).bind λn79=>(Hp.ldI H77 .i64 H33.length 1).bind λn80=>(Hp.ldI H77 .i64 H33.length 2).bind λn81=>(Hp.ldI H77 .i64 H33.length 3).bind λn82=>(Hp.ldI H77 .i64 H33.length 4).bind λn83=>(Hp.new H77 [(.int .i64 (wrap .i64 (n79+du))),(.int .i64 (wrap .i64 (n80+du))),(.int .i64 (wrap .i64 (n81+du))),(.int .i64 (wrap .i64 (n82+du))),(.int .i64 n83)]).bind λH84=>(Sl.row H84 (⟨some (H77.length,0),1,.ex 1⟩:Sl) 5).bind λxs86=>(Hp.app H84 5 40 s78 (⟨some (H77.length,0),1,.ex 1⟩:Sl).n xs86).bind λa85=>(Hp.st a85.2 iv ly (.sl a85.1)).bind λH87=>bN.l125 F Pr fb qe iu lx iv ly du (wrap .i64 (gq+1)) H87) else ((Hp.ldSl H33 iv ly).bind λs88=>(Hp.ldI H33 .i64 iv (ly+1)).bind λn89=>(Hp.st H33 iu lx (.sl s88)).bind λH90=>(Hp.st H90 iu (lx+1) (.int .i64 n89)).bind λH91=>(Hp.ldSl H91 iu lx).bind λs92=>(Hp.ldI H91 .i64 iu (lx+1)).bind λn93=>some ((.agg [(.sl s92),(.int .i64 n93)]),H91)))
termination_by structural n=>n
def bN.twX (ac:Sl) (ag:Int) (az:Sl) (bB:Int) (H:Hp):OA:=(Hp.new H [(.sl ac),(.int .i64 ag)]).bind λH5=>(Hp.new H5 [(.sl az),(.int .i64 bB)]).bind λH6=>(Hp.new H6 [.sl ⟨none,0,.ex 0⟩,.int .i64 0]).bind λH7=>(Hp.ldI H7 .i64 H.length 1).bind λn8=>(Hp.ldI H7 .i64 H5.length 1).bind λn9=>(Hp.new H7 [.sl ⟨none,0,.ex 0⟩,.int .i64 0]).bind λH10=>(Hp.st H10 H7.length 0 (.sl (⟨none,0,.ex 0⟩:Sl))).bind λH11=>(Hp.st H11 H7.length (0+1) (.int .i64 (wrap .i64 (n8+n9)))).bind λH12=>(Hp.new H12 []).bind λH13=>(Hp.ldSl H13 H.length 0).bind λs14=>(Sl.row H13 s14 5).bind λxs16=>(Hp.app H13 5 40 (⟨some (H12.length,0),0,.ex 0⟩:Sl) s14.n xs16).bind λa15=>(Hp.st a15.2 H7.length 0 (.sl a15.1)).bind λH17=>(Hp.ldSl H17 H.length 0).bind λs18=>bN.l125 F F H5.length 0 H6.length 0 H7.length 0 (wrap .i64 (2 * (s18.n:Int))) 0 H17
def bN.tw:=bN.twX F
def bN.lh125 (ks:Yw) (n:Nat) (tm:Tm) (H:Hp):OA:=match ks,tm 3,tm 4,tm 5,tm 6,tm 7 with
 | [],(.ptr fb qe),(.ptr iu lx),(.ptr iv ly),(.int .i64 du),(.int .i64 gq)=>bN.l125 F n fb qe iu lx iv ly du gq H
 | _,_,_,_,_,_=>none
def bN.lh (p:Nat) (ks:Yw) (n:Nat) (tm:Tm) (H:Hp):OA:=bif p.beq 125 then bN.lh125 F ks n tm H else (none)
def mk11 (g:YO) (args:YE) (H:Hp):OA:=match args with
 | [(.agg [(.sl ac),(.int .i64 ag)]),(.agg [(.sl az),(.int .i64 bB)])]=>g ac ag az bB H
 | _=>none
theorem mk11_E (g:YO) (ac:Sl) (ag:Int) (az:Sl) (bB:Int) (H:Hp):mk11 g [(.agg [(.sl ac),(.int .i64 ag)]),(.agg [(.sl az),(.int .i64 bB)])] H=g ac ag az bB H:=rfl
theorem bN.loops:LO (bp []) bm (bN.lh F) F Try.f215:=
 (ae.rt (ae.rt (ae.rt (ae.rt (ae.lt (ae.rt (ae.block (ae.la (λn tm H r h=>by change bN.lh125 F [] n tm H=_ at h;unfold bN.lh125 at h;split at h;have e:bW tm [(3,_),(4,_),(5,_),(6,_),(7,_)]:=⟨‹_›,‹_›,‹_›,‹_›,‹_›,trivial⟩;obtain _ | k125:=n;cases h;exact ⟨_,rfl,by rw [<- ca e];exact Eq.trans (by kernel_rfl) h⟩;cases h) λk125=>ae.no))))))))
theorem bN.k:Ok Try.prog 215 (mk11 (bN.tw F)):=by
 intro args H v H' h
 unfold mk11 at h
 split at h
 ·exact okT (PN:=bm) (LH:=(bN.lh F)) (F:=F) (TB:=bm) Try.func215 cj (bN.loops F) (Eq.trans (by kernel_rfl) h) (by kernel_rfl)
 ·cases h
def cW.twX (F:Nat) (bk:Yq) (n_:YO) (ac:Sl) (ag:Int) (az:Sl) (bB:Int) (H:Hp):OA:=(Hp.new H [(.sl ac),(.int .i64 ag)]).bind λH5=>(Hp.new H5 [(.sl az),(.int .i64 bB)]).bind λH6=>(Hp.new H6 [.sl ⟨none,0,.ex 0⟩,.int .i64 0]).bind λH7=>(Hp.ldSl H7 H.length 0).bind λs8=>(Hp.ldI H7 .i64 H.length (0+1)).bind λn9=>(bk s8 n9 H7).bind λr10=>((r10.1).asB).bind λb11=>(bif (!b11) then ((Hp.st r10.2 H6.length 0 (.sl (⟨none,0,.ex 0⟩:Sl))).bind λH12=>(Hp.st H12 H6.length (0+1) (.int .i64 0)).bind λH13=>(Hp.ldSl H13 H6.length 0).bind λs14=>(Hp.ldI H13 .i64 H6.length (0+1)).bind λn15=>some ((.tup [(.agg [(.sl s14),(.int .i64 n15)]),(.int .i64 1)]),H13)) else ((Hp.ldSl r10.2 H5.length 0).bind λs16=>(Hp.ldI r10.2 .i64 H5.length (0+1)).bind λn17=>(bk s16 n17 r10.2).bind λr18=>((r18.1).asB).bind λb19=>(bif (!b19) then ((Hp.st r18.2 H6.length 0 (.sl (⟨none,0,.ex 0⟩:Sl))).bind λH20=>(Hp.st H20 H6.length (0+1) (.int .i64 0)).bind λH21=>(Hp.ldSl H21 H6.length 0).bind λs22=>(Hp.ldI H21 .i64 H6.length (0+1)).bind λn23=>some ((.tup [(.agg [(.sl s22),(.int .i64 n23)]),(.int .i64 1)]),H21)) else ((Hp.ldSl r18.2 H.length 0).bind λs24=>(Hp.ldSl r18.2 H5.length 0).bind λs25=>(bif (decide ((wrap .i64 ((s24.n:Int)+(s25.n:Int)))>10)) then ((Hp.st r18.2 H6.length 0 (.sl (⟨none,0,.ex 0⟩:Sl))).bind λH26=>(Hp.st H26 H6.length (0+1) (.int .i64 0)).bind λH27=>(Hp.ldSl H27 H6.length 0).bind λs28=>(Hp.ldI H27 .i64 H6.length (0+1)).bind λn29=>some ((.tup [(.agg [(.sl s28),(.int .i64 n29)]),(.int .i64 3)]),H27)) else ((Hp.ldI r18.2 .i64 H.length 1).bind λn30=>(Hp.ldI r18.2 .i64 H5.length 1).bind λn31=>(bif (decide ((wrap .i64 (n30+n31))>8)) then ((Hp.st r18.2 H6.length 0 (.sl (⟨none,0,.ex 0⟩:Sl))).bind λH32=>(Hp.st H32 H6.length (0+1) (.int .i64 0)).bind λH33=>(Hp.ldSl H33 H6.length 0).bind λs34=>(Hp.ldI H33 .i64 H6.length (0+1)).bind λn35=>some ((.tup [(.agg [(.sl s34),(.int .i64 n35)]),(.int .i64 3)]),H33)) else ((Hp.ldSl r18.2 H.length 0).bind λs36=>(Hp.ldI r18.2 .i64 H.length (0+1)).bind λn37=>(Hp.ldSl r18.2 H5.length 0).bind λs38=>(Hp.ldI r18.2 .i64 H5.length (0+1)).bind λn39=>(n_ s36 n37 s38 n39 r18.2).bind λr40=>((r40.1).asAgg 2).bind λl41=>(l41[0]?).bind λv42=>((v42).asSl).bind λs43=>(l41[1]?).bind λv44=>((v44).asI .i64).bind λn45=>(Hp.st r40.2 H6.length 0 (.sl s43)).bind λH46=>(Hp.st H46 H6.length (0+1) (.int .i64 n45)).bind λH47=>(Hp.ldSl H47 H6.length 0).bind λs48=>(Hp.ldI H47 .i64 H6.length (0+1)).bind λn49=>some ((.tup [(.agg [(.sl s48),(.int .i64 n49)]),(.int .i64 0)]),H47)))))))))
def cW.tw:=cW.twX F (bL.tw F) (bN.tw F)
def cW.cs (F:Nat) (bk:Yq) (n_:YO):Cs:=[(47,mk8 bk),(215,mk11 n_)]
theorem cW.eqX (bk:Yq) (n_:YO) (ac:Sl) (ag:Int) (az:Sl) (bB:Int) (H:Hp):EX (bp (cW.cs F bk n_)) bm lh0 F Try.f190 [(.agg [(.sl ac),(.int .i64 ag)]),(.agg [(.sl az),(.int .i64 bB)])] H=cW.twX F bk n_ ac ag az bB H:=by kernel_rfl
theorem cW.k:Ok Try.prog 190 (mk11 (cW.tw F)):=by
 intro args H v H' h
 unfold mk11 at h
 split at h
 ·exact okT (TB:=bm) Try.func190 (aX (bL.k F) (aX (bN.k F) cj)) ae.no ((cW.eqX F (bL.tw F) (bN.tw F) _ _ _ _ H).trans h) (by kernel_rfl)
 ·cases h
def c_.twX (F:Nat) (gr:YO) (bS:YF) (bA:YG) (aW:YA) (ac:Sl) (ag:Int) (az:Int) (cP:Sl) (da:Int) (eH:Int) (H:Hp):OA:=(Hp.new H [(.sl ac),(.int .i64 ag)]).bind λH7=>(Hp.new H7 [(.sl cP),(.int .i64 da)]).bind λH8=>(Hp.new H8 [.sl ⟨none,0,.ex 0⟩,.int .i64 0]).bind λH9=>(Hp.ldSl H9 H.length 0).bind λs10=>(Hp.ldI H9 .i64 H.length (0+1)).bind λn11=>(Hp.ldSl H9 H7.length 0).bind λs12=>(Hp.ldI H9 .i64 H7.length (0+1)).bind λn13=>(gr s10 n11 s12 n13 H9).bind λr14=>((r14.1).asTup 2).bind λl15=>(l15[0]?).bind λv16=>((v16).asAgg 2).bind λl17=>(l17[0]?).bind λv18=>((v18).asSl).bind λs19=>(l17[1]?).bind λv20=>((v20).asI .i64).bind λn21=>(l15[1]?).bind λv22=>((v22).asI .i64).bind λn23=>(Hp.new r14.2 [.sl ⟨none,0,.ex 0⟩,.int .i64 0]).bind λH24=>(Hp.st H24 r14.2.length 0 (.sl s19)).bind λH25=>(Hp.st H25 r14.2.length (0+1) (.int .i64 n21)).bind λH26=>(bif (n23 != 0) then ((Hp.st H26 H8.length 0 (.sl (⟨none,0,.ex 0⟩:Sl))).bind λH27=>(Hp.st H27 H8.length (0+1) (.int .i64 0)).bind λH28=>(Hp.ldSl H28 H8.length 0).bind λs29=>(Hp.ldI H28 .i64 H8.length (0+1)).bind λn30=>some ((.tup [(.agg [(.sl s29),(.int .i64 n30)]),(.int .i64 n23)]),H28)) else ((Hp.ldSl H26 H.length 0).bind λs31=>(bS az 0 (wrap .i64 ((wrap .i64 (2 * (s31.n:Int))) - 1)) H26).bind λr32=>((r32.1).asB).bind λb33=>(bif (!b33) then ((Hp.st r32.2 H8.length 0 (.sl (⟨none,0,.ex 0⟩:Sl))).bind λH34=>(Hp.st H34 H8.length (0+1) (.int .i64 0)).bind λH35=>(Hp.ldSl H35 H8.length 0).bind λs36=>(Hp.ldI H35 .i64 H8.length (0+1)).bind λn37=>some ((.tup [(.agg [(.sl s36),(.int .i64 n37)]),(.int .i64 4)]),H35)) else ((Hp.ldSl r32.2 H7.length 0).bind λs38=>(bS eH 0 (wrap .i64 ((wrap .i64 (2 * (s38.n:Int))) - 1)) r32.2).bind λr39=>((r39.1).asB).bind λb40=>(bif (!b40) then ((Hp.st r39.2 H8.length 0 (.sl (⟨none,0,.ex 0⟩:Sl))).bind λH41=>(Hp.st H41 H8.length (0+1) (.int .i64 0)).bind λH42=>(Hp.ldSl H42 H8.length 0).bind λs43=>(Hp.ldI H42 .i64 H8.length (0+1)).bind λn44=>some ((.tup [(.agg [(.sl s43),(.int .i64 n44)]),(.int .i64 4)]),H42)) else ((Hp.ldSl r39.2 r14.2.length 0).bind λs45=>(Hp.ldI r39.2 .i64 r14.2.length (0+1)).bind λn46=>(bA s45 n46 az true r39.2).bind λr47=>((r47.1).asTup 2).bind λl48=>(l48[0]?).bind λv49=>((v49).asI .i64).bind λn50=>(l48[1]?).bind λv51=>((v51).asI .i64).bind λn52=>(Hp.ldSl r47.2 r14.2.length 0).bind λs53=>(Hp.ldI r47.2 .i64 r14.2.length (0+1)).bind λn54=>(bA s53 n54 (wrap .i64 (eH+(wrap .i64 (2 * (s31.n:Int))))) true r47.2).bind λr55=>((r55.1).asTup 2).bind λl56=>(l56[0]?).bind λv57=>((v57).asI .i64).bind λn58=>(l56[1]?).bind λv59=>((v59).asI .i64).bind λn60=>(Hp.ldSl r55.2 r14.2.length 0).bind λs61=>(Hp.ldSl r55.2 r14.2.length 0).bind λs62=>(Sl.idx s62 n50 5).bind λp63=>(Hp.ldI r55.2 .i64 p63.1 p63.2).bind λn64=>(Hp.ldI r55.2 .i64 p63.1 (p63.2+1)).bind λn65=>(Hp.ldI r55.2 .i64 p63.1 (p63.2+2)).bind λn66=>(Hp.ldI r55.2 .i64 p63.1 (p63.2+3)).bind λn67=>(Hp.ldI r55.2 .i64 p63.1 (p63.2+4)).bind λn68=>(aW n64 n65 n66 n67 n68 n52 (wrap .i64 (eH+(wrap .i64 (2 * (s31.n:Int))))) r55.2).bind λr69=>((r69.1).asAgg 5).bind λl70=>(l70[0]?).bind λv71=>((v71).asI .i64).bind λn72=>(l70[1]?).bind λv73=>((v73).asI .i64).bind λn74=>(l70[2]?).bind λv75=>((v75).asI .i64).bind λn76=>(l70[3]?).bind λv77=>((v77).asI .i64).bind λn78=>(l70[4]?).bind λv79=>((v79).asI .i64).bind λn80=>(if aO r55.2 r69.2 then ((Sl.idx s61 n50 5).bind λp81=>(Hp.st r69.2 p81.1 p81.2 (.int .i64 n72)).bind λH82=>(Hp.st H82 p81.1 (p81.2+1) (.int .i64 n74)).bind λH83=>(Hp.st H83 p81.1 (p81.2+1+1) (.int .i64 n76)).bind λH84=>(Hp.st H84 p81.1 (p81.2+1+1+1) (.int .i64 n78)).bind λH85=>(Hp.st H85 p81.1 (p81.2+1+1+1+1) (.int .i64 n80)).bind λH86=>(Hp.ldSl H86 r14.2.length 0).bind λs87=>(Hp.ldSl H86 r14.2.length 0).bind λs88=>(Sl.idx s88 n58 5).bind λp89=>(Hp.ldI H86 .i64 p89.1 p89.2).bind λn90=>(Hp.ldI H86 .i64 p89.1 (p89.2+1)).bind λn91=>(Hp.ldI H86 .i64 p89.1 (p89.2+2)).bind λn92=>(Hp.ldI H86 .i64 p89.1 (p89.2+3)).bind λn93=>(Hp.ldI H86 .i64 p89.1 (p89.2+4)).bind λn94=>(aW n90 n91 n92 n93 n94 n60 az H86).bind λr95=>((r95.1).asAgg 5).bind λl96=>(l96[0]?).bind λv97=>((v97).asI .i64).bind λn98=>(l96[1]?).bind λv99=>((v99).asI .i64).bind λn100=>(l96[2]?).bind λv101=>((v101).asI .i64).bind λn102=>(l96[3]?).bind λv103=>((v103).asI .i64).bind λn104=>(l96[4]?).bind λv105=>((v105).asI .i64).bind λn106=>(if aO H86 r95.2 then ((Sl.idx s87 n58 5).bind λp107=>(Hp.st r95.2 p107.1 p107.2 (.int .i64 n98)).bind λH108=>(Hp.st H108 p107.1 (p107.2+1) (.int .i64 n100)).bind λH109=>(Hp.st H109 p107.1 (p107.2+1+1) (.int .i64 n102)).bind λH110=>(Hp.st H110 p107.1 (p107.2+1+1+1) (.int .i64 n104)).bind λH111=>(Hp.st H111 p107.1 (p107.2+1+1+1+1) (.int .i64 n106)).bind λH112=>(Hp.ldSl H112 r14.2.length 0).bind λs113=>(Hp.ldI H112 .i64 r14.2.length (0+1)).bind λn114=>(Hp.st H112 H8.length 0 (.sl s113)).bind λH115=>(Hp.st H115 H8.length (0+1) (.int .i64 n114)).bind λH116=>(Hp.ldSl H116 H8.length 0).bind λs117=>(Hp.ldI H116 .i64 H8.length (0+1)).bind λn118=>some ((.tup [(.agg [(.sl s117),(.int .i64 n118)]),(.int .i64 0)]),H116)) else none)) else none)))))))
def c_.tw:=c_.twX F (cW.tw F) (cB.tw F) (ax.tw F) (bY.tw F)
def c_.pn:Nat->List Nat:=cT [(9,[14]),(10,[12])]
def c_.tb:Nat->List (List Nat):=cT [(9,[[],[0],[],[],[3],[],[3,4,5],[3,4,5,6],[],[],[],[9,10],[3,4,5,6,7,8,9,10,11],[0,1,2,3,4,5,6,7,8,9,10,11,12],[0,1,2,3,4,5,6,7,8,9,10,11,12,13]]),(10,[[],[0],[],[],[3],[],[3,4,5],[3,4,5,6],[],[],[3,4,5,6,7,8,9],[0,1,2,3,4,5,6,7,8,9,10],[0,1,2,3,4,5,6,7,8,9,10,11]])]
def mk12 (g:YV) (args:YE) (H:Hp):OA:=match args with
 | [(.agg [(.sl ac),(.int .i64 ag)]),(.int .i64 az),(.agg [(.sl cP),(.int .i64 da)]),(.int .i64 eH)]=>g ac ag az cP da eH H
 | _=>none
theorem mk12_E (g:YV) (ac:Sl) (ag:Int) (az:Int) (cP:Sl) (da:Int) (eH:Int) (H:Hp):mk12 g [(.agg [(.sl ac),(.int .i64 ag)]),(.int .i64 az),(.agg [(.sl cP),(.int .i64 da)]),(.int .i64 eH)] H=g ac ag az cP da eH H:=rfl
def c_.cs (F:Nat) (gr:YO) (bS:YF) (bA:YG) (aW:YA):Cs:=[(190,mk11 gr),(106,mk7 bS),(198,mk9 bA),(214,mk4 aW)]
theorem c_.eqX (gr:YO) (bS:YF) (bA:YG) (aW:YA) (ac:Sl) (ag:Int) (az:Int) (cP:Sl) (da:Int) (eH:Int) (H:Hp):EX (bp (c_.cs F gr bS bA aW)) c_.pn lh0 F Try.f189 [(.agg [(.sl ac),(.int .i64 ag)]),(.int .i64 az),(.agg [(.sl cP),(.int .i64 da)]),(.int .i64 eH)] H=c_.twX F gr bS bA aW ac ag az cP da eH H:=by kernel_rfl
theorem c_.k:Ok Try.prog 189 (mk12 (c_.tw F)):=by
 intro args H v H' h
 unfold mk12 at h
 split at h
 ·exact okT (TB:=c_.tb) Try.func189 (aX (cW.k F) (aX (cB.k F) (aX (ax.k F) (aX (bY.k F) cj)))) ae.no ((c_.eqX F (cW.tw F) (cB.tw F) (ax.tw F) (bY.tw F) _ _ _ _ _ _ H).trans h) (by kernel_rfl)
 ·cases h
def dR.twX (F:Nat) (ac:Int) (ag:Int) (bx:Int) (bz:Int) (bq:Int) (H:Hp):OA:=(Hp.new H [(.int .i64 ac),(.int .i64 ag),(.int .i64 bx),(.int .i64 bz),(.int .i64 bq)]).bind λH6=>(Hp.new H6 [.int .i64 0,.int .i64 0,.int .i64 0,.int .i64 0,.int .i64 0]).bind λH7=>(Hp.ldI H7 .i64 H.length 4).bind λn8=>(bif (n8==1) then ((Hp.ldI H7 .i64 H.length 3).bind λn9=>(Hp.ldI H7 .i64 H.length 0).bind λn10=>(Hp.ldI H7 .i64 H.length 1).bind λn11=>(Hp.ldI H7 .i64 H.length 2).bind λn12=>(Hp.st H7 H6.length 0 (.int .i64 n9)).bind λH13=>(Hp.st H13 H6.length (0+1) (.int .i64 n10)).bind λH14=>(Hp.st H14 H6.length (0+1+1) (.int .i64 n11)).bind λH15=>(Hp.st H15 H6.length (0+1+1+1) (.int .i64 n12)).bind λH16=>(Hp.st H16 H6.length (0+1+1+1+1) (.int .i64 (-1))).bind λH17=>(Hp.ldI H17 .i64 H6.length 0).bind λn18=>(Hp.ldI H17 .i64 H6.length (0+1)).bind λn19=>(Hp.ldI H17 .i64 H6.length (0+2)).bind λn20=>(Hp.ldI H17 .i64 H6.length (0+3)).bind λn21=>(Hp.ldI H17 .i64 H6.length (0+4)).bind λn22=>some ((.agg [(.int .i64 n18),(.int .i64 n19),(.int .i64 n20),(.int .i64 n21),(.int .i64 n22)]),H17)) else ((Hp.ldI H7 .i64 H.length 1).bind λn23=>(Hp.ldI H7 .i64 H.length 2).bind λn24=>(Hp.ldI H7 .i64 H.length 3).bind λn25=>(Hp.ldI H7 .i64 H.length 0).bind λn26=>(Hp.st H7 H6.length 0 (.int .i64 n23)).bind λH27=>(Hp.st H27 H6.length (0+1) (.int .i64 n24)).bind λH28=>(Hp.st H28 H6.length (0+1+1) (.int .i64 n25)).bind λH29=>(Hp.st H29 H6.length (0+1+1+1) (.int .i64 n26)).bind λH30=>(Hp.st H30 H6.length (0+1+1+1+1) (.int .i64 1)).bind λH31=>(Hp.ldI H31 .i64 H6.length 0).bind λn32=>(Hp.ldI H31 .i64 H6.length (0+1)).bind λn33=>(Hp.ldI H31 .i64 H6.length (0+2)).bind λn34=>(Hp.ldI H31 .i64 H6.length (0+3)).bind λn35=>(Hp.ldI H31 .i64 H6.length (0+4)).bind λn36=>some ((.agg [(.int .i64 n32),(.int .i64 n33),(.int .i64 n34),(.int .i64 n35),(.int .i64 n36)]),H31)))
def dR.tw:=dR.twX F
def mk13 (g:YB) (args:YE) (H:Hp):OA:=match args with
 | [(.agg [(.int .i64 ac),(.int .i64 ag),(.int .i64 bx),(.int .i64 bz),(.int .i64 bq)])]=>g ac ag bx bz bq H
 | _=>none
theorem mk13_E (g:YB) (ac:Int) (ag:Int) (bx:Int) (bz:Int) (bq:Int) (H:Hp):mk13 g [(.agg [(.int .i64 ac),(.int .i64 ag),(.int .i64 bx),(.int .i64 bz),(.int .i64 bq)])] H=g ac ag bx bz bq H:=rfl
theorem dR.k:Ok Try.prog 216 (mk13 (dR.tw F)):=by
 intro args H v H' h
 unfold mk13 at h
 split at h
 ·exact ok0 Try.func216 (Eq.trans (by kernel_rfl) h) (by kernel_rfl) (by kernel_rfl)
 ·cases h
def bv.l61 (F:Nat) (bk:Yq) (eJ:YB) :Nat->Nat->Nat->Nat->Nat->Nat->Nat->Int->Hp->OA
 | 0,_,_,_,_,_,_,_,_=>none
 | cA+1,jy,qf,ev,lz,iw,fb,gu,H27=>(Hp.ldSl H27 jy qf).bind λs59=>(bif (decide (gu<(s59.n:Int))) then ((Hp.ldSl H27 iw fb).bind λs60=>(Hp.ldSl H27 jy qf).bind λs61=>(Sl.idx s61 gu 5).bind λp62=>(Hp.ldI H27 .i64 p62.1 p62.2).bind λn63=>(Hp.ldI H27 .i64 p62.1 (p62.2+1)).bind λn64=>(Hp.ldI H27 .i64 p62.1 (p62.2+2)).bind λn65=>(Hp.ldI H27 .i64 p62.1 (p62.2+3)).bind λn66=>(Hp.ldI H27 .i64 p62.1 (p62.2+4)).bind λn67=>(eJ n63 n64 n65 n66 n67 H27).bind λr68=>((r68.1).asAgg 5).bind λl69=>(l69[0]?).bind λv70=>((v70).asI .i64).bind λn71=>(l69[1]?).bind λv72=>((v72).asI .i64).bind λn73=>(l69[2]?).bind λv74=>((v74).asI .i64).bind λn75=>(l69[3]?).bind λv76=>((v76).asI .i64).bind λn77=>(l69[4]?).bind λv78=>((v78).asI .i64).bind λn79=>(if aO H27 r68.2 then ((Hp.new r68.2 [(.int .i64 n71),(.int .i64 n73),(.int .i64 n75),(.int .i64 n77),(.int .i64 n79)]).bind λH80=>(Sl.row H80 (⟨some (r68.2.length,0),1,.ex 1⟩:Sl) 5).bind λxs82=>(Hp.app H80 5 40 s60 (⟨some (r68.2.length,0),1,.ex 1⟩:Sl).n xs82).bind λa81=>(Hp.st a81.2 iw fb (.sl a81.1)).bind λH83=>bv.l61 F bk eJ cA jy qf ev lz iw fb (wrap .i64 (gu+1)) H83) else none)) else ((Hp.ldSl H27 iw fb).bind λs84=>(Hp.ldI H27 .i64 iw (fb+1)).bind λn85=>(Hp.st H27 ev lz (.sl s84)).bind λH86=>(Hp.st H86 ev (lz+1) (.int .i64 n85)).bind λH87=>(Hp.ldSl H87 ev lz).bind λs88=>(Hp.ldI H87 .i64 ev (lz+1)).bind λn89=>some ((.agg [(.sl s88),(.int .i64 n89)]),H87)))
termination_by structural n=>n
def bv.twX (bk:Yq) (eJ:YB) (ac:Sl) (ag:Int) (H:Hp):OA:=(Hp.new H [(.sl ac),(.int .i64 ag)]).bind λH3=>(Hp.new H3 [.sl ⟨none,0,.ex 0⟩,.int .i64 0]).bind λH4=>(Hp.ldSl H4 H.length 0).bind λs5=>(Hp.ldI H4 .i64 H.length (0+1)).bind λn6=>(bk s5 n6 H4).bind λr7=>((r7.1).asB).bind λb8=>(bif (!b8) then ((Hp.st r7.2 H3.length 0 (.sl (⟨none,0,.ex 0⟩:Sl))).bind λH9=>(Hp.st H9 H3.length (0+1) (.int .i64 0)).bind λH10=>(Hp.ldSl H10 H3.length 0).bind λs11=>(Hp.ldI H10 .i64 H3.length (0+1)).bind λn12=>some ((.agg [(.sl s11),(.int .i64 n12)]),H10)) else ((Hp.ldI r7.2 .i64 H.length 1).bind λn13=>(Hp.new r7.2 [.sl ⟨none,0,.ex 0⟩,.int .i64 0]).bind λH14=>(Hp.st H14 r7.2.length 0 (.sl (⟨none,0,.ex 0⟩:Sl))).bind λH15=>(Hp.st H15 r7.2.length (0+1) (.int .i64 n13)).bind λH16=>bv.l61 F bk eJ F H.length 0 H3.length 0 r7.2.length 0 0 H16))
def bv.tw:=bv.twX F (bL.tw F) (dR.tw F)
def bv.lh61 (bk:Yq) (eJ:YB) (ks:Yw) (n:Nat) (tm:Tm) (H:Hp):OA:=match ks,tm 1,tm 2,tm 3,tm 4 with
 | [],(.ptr jy qf),(.ptr ev lz),(.ptr iw fb),(.int .i64 gu)=>bv.l61 F bk eJ n jy qf ev lz iw fb gu H
 | _,_,_,_,_=>none
def bv.lh (bk:Yq) (eJ:YB) (p:Nat) (ks:Yw) (n:Nat) (tm:Tm) (H:Hp):OA:=bif p.beq 61 then bv.lh61 F bk eJ ks n tm H else (none)
def bv.pn:Nat->List Nat:=cT [(7,[9,11])]
def bv.tb:Nat->List (List Nat):=cT [(7,[[],[0],[],[2],[],[2,3,4],[2,3,4,5],[2,3,4,5,6],[2,3,4,5,6,7],[0,1,2,3,4,5,6,7,8],[0,1,2,3,4,5,6,7,8,9],[0,1,2,3,4,5,6,7,8,9,10]])]
def bv.cs (F:Nat) (bk:Yq) (eJ:YB):Cs:=[(47,mk8 bk),(216,mk13 eJ)]
theorem bv.loops (bk:Yq) (eJ:YB):LO (bp (bv.cs F bk eJ)) bv.pn (bv.lh F bk eJ) F Try.f191:=
 (ae.rt (ae.rt (ae.rt (ae.lt (ae.rt (ae.block (ae.la (λn tm H r h=>by change bv.lh61 F bk eJ [] n tm H=_ at h;unfold bv.lh61 at h;split at h;have e:bW tm [(1,_),(2,_),(3,_),(4,_)]:=⟨‹_›,‹_›,‹_›,‹_›,trivial⟩;obtain _ | k61:=n;cases h;exact ⟨_,rfl,by rw [<- ca e];exact Eq.trans (by kernel_rfl) h⟩;cases h) λk61=>ae.no)))))))
theorem bv.eqX (bk:Yq) (eJ:YB) (ac:Sl) (ag:Int) (H:Hp):EX (bp (bv.cs F bk eJ)) bv.pn (bv.lh F bk eJ) F Try.f191 [(.agg [(.sl ac),(.int .i64 ag)])] H=bv.twX F bk eJ ac ag H:=by kernel_rfl
theorem bv.k:Ok Try.prog 191 (mk8 (bv.tw F)):=by
 intro args H v H' h
 unfold mk8 at h
 split at h
 ·exact okT (TB:=bv.tb) Try.func191 (aX (bL.k F) (aX (dR.k F) cj)) (bv.loops F (bL.tw F) (dR.tw F)) ((bv.eqX F (bL.tw F) (dR.tw F) _ _ H).trans h) (by kernel_rfl)
 ·cases h
def dv.twX (F:Nat) (kt:Yy) (bc:Yy) (oa:YV) (gr:YO) (ob:Yq) (ac:Nat) (ag:Nat) (H:Hp):OA:=(Hp.new H [.sl ⟨none,0,.ex 0⟩,.int .i64 0]).bind λH3=>(kt ac ag 5 H3).bind λr4=>((r4.1).asAgg 2).bind λl5=>(l5[0]?).bind λv6=>((v6).asSl).bind λs7=>(l5[1]?).bind λv8=>((v8).asI .i64).bind λn9=>(Hp.new r4.2 [.sl ⟨none,0,.ex 0⟩,.int .i64 0]).bind λH10=>(Hp.st H10 r4.2.length 0 (.sl s7)).bind λH11=>(Hp.st H11 r4.2.length (0+1) (.int .i64 n9)).bind λH12=>(bc ac ag 5 H12).bind λr13=>((r13.1).asI .i64).bind λn14=>(bif (n14==0) then ((kt ac ag 4 r13.2).bind λr15=>((r15.1).asAgg 2).bind λl16=>(l16[0]?).bind λv17=>((v17).asSl).bind λs18=>(l16[1]?).bind λv19=>((v19).asI .i64).bind λn20=>(Hp.new r15.2 [.sl ⟨none,0,.ex 0⟩,.int .i64 0]).bind λH21=>(Hp.st H21 r15.2.length 0 (.sl s18)).bind λH22=>(Hp.st H22 r15.2.length (0+1) (.int .i64 n20)).bind λH23=>(Hp.ldSl H23 r4.2.length 0).bind λs24=>(Hp.ldI H23 .i64 r4.2.length (0+1)).bind λn25=>(Hp.ldSl H23 r15.2.length 0).bind λs26=>(Hp.ldI H23 .i64 r15.2.length (0+1)).bind λn27=>(oa s24 n25 0 s26 n27 0 H23).bind λr28=>((r28.1).asTup 2).bind λl29=>(l29[0]?).bind λv30=>((v30).asAgg 2).bind λl31=>(l31[0]?).bind λv32=>((v32).asSl).bind λs33=>(l31[1]?).bind λv34=>((v34).asI .i64).bind λn35=>(l29[1]?).bind λv36=>((v36).asI .i64).bind λn37=>(Hp.new r28.2 [.sl ⟨none,0,.ex 0⟩,.int .i64 0]).bind λH38=>(Hp.st H38 r28.2.length 0 (.sl s33)).bind λH39=>(Hp.st H39 r28.2.length (0+1) (.int .i64 n35)).bind λH40=>(bif (n37==0) then ((Hp.ldSl H40 r28.2.length 0).bind λs41=>(Hp.ldI H40 .i64 r28.2.length (0+1)).bind λn42=>(Hp.st H40 H.length 0 (.sl s41)).bind λH43=>(Hp.st H43 H.length (0+1) (.int .i64 n42)).bind λH44=>(Hp.ldSl H44 H.length 0).bind λs45=>(Hp.ldI H44 .i64 H.length (0+1)).bind λn46=>some ((.agg [(.sl s45),(.int .i64 n46)]),H44)) else ((Hp.ldSl H40 r4.2.length 0).bind λs47=>(Hp.ldI H40 .i64 r4.2.length (0+1)).bind λn48=>(Hp.st H40 H.length 0 (.sl s47)).bind λH49=>(Hp.st H49 H.length (0+1) (.int .i64 n48)).bind λH50=>(Hp.ldSl H50 H.length 0).bind λs51=>(Hp.ldI H50 .i64 H.length (0+1)).bind λn52=>some ((.agg [(.sl s51),(.int .i64 n52)]),H50)))) else ((bif (n14==1) then ((kt ac ag 3 r13.2).bind λr53=>((r53.1).asAgg 2).bind λl54=>(l54[0]?).bind λv55=>((v55).asSl).bind λs56=>(l54[1]?).bind λv57=>((v57).asI .i64).bind λn58=>(Hp.new r53.2 [.sl ⟨none,0,.ex 0⟩,.int .i64 0]).bind λH59=>(Hp.st H59 r53.2.length 0 (.sl s56)).bind λH60=>(Hp.st H60 r53.2.length (0+1) (.int .i64 n58)).bind λH61=>(Hp.ldSl H61 r4.2.length 0).bind λs62=>(Hp.ldI H61 .i64 r4.2.length (0+1)).bind λn63=>(Hp.ldSl H61 r53.2.length 0).bind λs64=>(Hp.ldI H61 .i64 r53.2.length (0+1)).bind λn65=>(gr s62 n63 s64 n65 H61).bind λr66=>((r66.1).asTup 2).bind λl67=>(l67[0]?).bind λv68=>((v68).asAgg 2).bind λl69=>(l69[0]?).bind λv70=>((v70).asSl).bind λs71=>(l69[1]?).bind λv72=>((v72).asI .i64).bind λn73=>(l67[1]?).bind λv74=>((v74).asI .i64).bind λn75=>(Hp.new r66.2 [.sl ⟨none,0,.ex 0⟩,.int .i64 0]).bind λH76=>(Hp.st H76 r66.2.length 0 (.sl s71)).bind λH77=>(Hp.st H77 r66.2.length (0+1) (.int .i64 n73)).bind λH78=>(bif (n75==0) then ((Hp.ldSl H78 r66.2.length 0).bind λs79=>(Hp.ldI H78 .i64 r66.2.length (0+1)).bind λn80=>(Hp.st H78 H.length 0 (.sl s79)).bind λH81=>(Hp.st H81 H.length (0+1) (.int .i64 n80)).bind λH82=>(Hp.ldSl H82 H.length 0).bind λs83=>(Hp.ldI H82 .i64 H.length (0+1)).bind λn84=>some ((.agg [(.sl s83),(.int .i64 n84)]),H82)) else ((Hp.ldSl H78 r4.2.length 0).bind λs85=>(Hp.ldI H78 .i64 r4.2.length (0+1)).bind λn86=>(Hp.st H78 H.length 0 (.sl s85)).bind λH87=>(Hp.st H87 H.length (0+1) (.int .i64 n86)).bind λH88=>(Hp.ldSl H88 H.length 0).bind λs89=>(Hp.ldI H88 .i64 H.length (0+1)).bind λn90=>some ((.agg [(.sl s89),(.int .i64 n90)]),H88)))) else ((bif (n14==2) then ((Hp.ldSl r13.2 r4.2.length 0).bind λs91=>(Hp.ldI r13.2 .i64 r4.2.length (0+1)).bind λn92=>(ob s91 n92 r13.2).bind λr93=>((r93.1).asAgg 2).bind λl94=>(l94[0]?).bind λv95=>((v95).asSl).bind λs96=>(l94[1]?).bind λv97=>((v97).asI .i64).bind λn98=>(Hp.st r93.2 H.length 0 (.sl s96)).bind λH99=>(Hp.st H99 H.length (0+1) (.int .i64 n98)).bind λH100=>(Hp.ldSl H100 H.length 0).bind λs101=>(Hp.ldI H100 .i64 H.length (0+1)).bind λn102=>some ((.agg [(.sl s101),(.int .i64 n102)]),H100)) else ((Hp.ldSl r13.2 r4.2.length 0).bind λs103=>(Hp.ldI r13.2 .i64 r4.2.length (0+1)).bind λn104=>(Hp.st r13.2 H.length 0 (.sl s103)).bind λH105=>(Hp.st H105 H.length (0+1) (.int .i64 n104)).bind λH106=>(Hp.ldSl H106 H.length 0).bind λs107=>(Hp.ldI H106 .i64 H.length (0+1)).bind λn108=>some ((.agg [(.sl s107),(.int .i64 n108)]),H106)))))))
def dv.tw:=dv.twX F (aL.tw F) (aJ.tw F) (c_.tw F) (cW.tw F) (bv.tw F)
def mk14 (g:YW) (args:YE) (H:Hp):OA:=match args with
 | [(.ptr ac ag)]=>g ac ag H
 | _=>none
theorem mk14_E (g:YW) (ac:Nat) (ag:Nat) (H:Hp):mk14 g [(.ptr ac ag)] H=g ac ag H:=rfl
def dv.cs (F:Nat) (kt:Yy) (bc:Yy) (oa:YV) (gr:YO) (ob:Yq):Cs:=[(188,mk1 kt),(121,mk1 bc),(189,mk12 oa),(190,mk11 gr),(191,mk8 ob)]
theorem dv.eqX (kt:Yy) (bc:Yy) (oa:YV) (gr:YO) (ob:Yq) (ac:Nat) (ag:Nat) (H:Hp):EX (bp (dv.cs F kt bc oa gr ob)) bm lh0 F Try.f155 [(.ptr ac ag)] H=dv.twX F kt bc oa gr ob ac ag H:=by kernel_rfl
theorem dv.k:Ok Try.prog 155 (mk14 (dv.tw F)):=by
 intro args H v H' h
 unfold mk14 at h
 split at h
 ·exact okT (TB:=bm) Try.func155 (aX (aL.k F) (aX (aJ.k F) (aX (c_.k F) (aX (cW.k F) (aX (bv.k F) cj))))) ae.no ((dv.eqX F (aL.tw F) (aJ.tw F) (c_.tw F) (cW.tw F) (bv.tw F) _ _ H).trans h) (by kernel_rfl)
 ·cases h
def db.twX (F:Nat) (oc:YW) (bc:Yy) (ac:Nat) (ag:Nat) (H:Hp):OA:=(Hp.new H [.sl ⟨none,0,.ex 0⟩,.int .i64 0]).bind λH3=>(oc ac ag H3).bind λr4=>((r4.1).asAgg 2).bind λl5=>(l5[0]?).bind λv6=>((v6).asSl).bind λs7=>(l5[1]?).bind λv8=>((v8).asI .i64).bind λn9=>(Hp.new r4.2 [.sl ⟨none,0,.ex 0⟩,.int .i64 0]).bind λH10=>(Hp.st H10 r4.2.length 0 (.sl s7)).bind λH11=>(Hp.st H11 r4.2.length (0+1) (.int .i64 n9)).bind λH12=>(Hp.ldSl H12 r4.2.length 0).bind λs13=>(bif ((s13.n:Int)==0) then ((Hp.ldSl H12 r4.2.length 0).bind λs14=>(Hp.ldI H12 .i64 r4.2.length (0+1)).bind λn15=>(Hp.st H12 H.length 0 (.sl s14)).bind λH16=>(Hp.st H16 H.length (0+1) (.int .i64 n15)).bind λH17=>(Hp.ldSl H17 H.length 0).bind λs18=>(Hp.ldI H17 .i64 H.length (0+1)).bind λn19=>some ((.agg [(.sl s18),(.int .i64 n19)]),H17)) else ((bc ac ag 9 H12).bind λr20=>((r20.1).asI .i64).bind λn21=>(bif (decide (n21>0)) then ((Hp.ldSl r20.2 r4.2.length 0).bind λs22=>(Hp.ldI r20.2 .i64 r4.2.length (0+1)).bind λn23=>(Hp.st r20.2 H.length 0 (.sl s22)).bind λH24=>(Hp.st H24 H.length (0+1) (.int .i64 n23)).bind λH25=>(Hp.ldSl H25 H.length 0).bind λs26=>(Hp.ldI H25 .i64 H.length (0+1)).bind λn27=>some ((.agg [(.sl s26),(.int .i64 n27)]),H25)) else ((Hp.ldSl r20.2 r4.2.length 0).bind λs28=>(bc ac ag (s28.n:Int) r20.2).bind λr29=>((r29.1).asI .i64).bind λn30=>(bc ac ag 6 r29.2).bind λr31=>((r31.1).asI .i64).bind λn32=>(bif (n32==0) then ((Hp.ldSl r31.2 r4.2.length 0).bind λs33=>(Hp.ldSl r31.2 r4.2.length 0).bind λs34=>(Sl.idx s34 n30 5).bind λp35=>(Hp.ldI r31.2 .i64 p35.1 (p35.2+4)).bind λn36=>(Sl.idx s33 n30 5).bind λp37=>(Hp.st r31.2 p37.1 (p37.2+4) (.int .i64 (wrap .i64 (0 - n36)))).bind λH38=>(Hp.ldSl H38 r4.2.length 0).bind λs39=>(Hp.ldI H38 .i64 r4.2.length (0+1)).bind λn40=>(Hp.st H38 H.length 0 (.sl s39)).bind λH41=>(Hp.st H41 H.length (0+1) (.int .i64 n40)).bind λH42=>(Hp.ldSl H42 H.length 0).bind λs43=>(Hp.ldI H42 .i64 H.length (0+1)).bind λn44=>some ((.agg [(.sl s43),(.int .i64 n44)]),H42)) else ((bif (n32==1) then ((Hp.ldSl r31.2 r4.2.length 0).bind λs45=>(Sl.idx s45 n30 5).bind λp46=>(Hp.st r31.2 p46.1 (p46.2+4) (.int .i64 0)).bind λH47=>(Hp.ldSl H47 r4.2.length 0).bind λs48=>(Hp.ldI H47 .i64 r4.2.length (0+1)).bind λn49=>(Hp.st H47 H.length 0 (.sl s48)).bind λH50=>(Hp.st H50 H.length (0+1) (.int .i64 n49)).bind λH51=>(Hp.ldSl H51 H.length 0).bind λs52=>(Hp.ldI H51 .i64 H.length (0+1)).bind λn53=>some ((.agg [(.sl s52),(.int .i64 n53)]),H51)) else ((bif (n32==2) then ((Hp.ldSl r31.2 r4.2.length 0).bind λs54=>(Sl.idx s54 n30 5).bind λp55=>(Hp.ldI r31.2 .i64 p55.1 p55.2).bind λn56=>(Hp.ldSl r31.2 r4.2.length 0).bind λs57=>(Hp.ldSl r31.2 r4.2.length 0).bind λs58=>(Sl.idx s58 n30 5).bind λp59=>(Hp.ldI r31.2 .i64 p59.1 (p59.2+1)).bind λn60=>(Sl.idx s57 n30 5).bind λp61=>(Hp.st r31.2 p61.1 p61.2 (.int .i64 n60)).bind λH62=>(Hp.ldSl H62 r4.2.length 0).bind λs63=>(Sl.idx s63 n30 5).bind λp64=>(Hp.st H62 p64.1 (p64.2+1) (.int .i64 n56)).bind λH65=>(Hp.ldSl H65 r4.2.length 0).bind λs66=>(Hp.ldI H65 .i64 r4.2.length (0+1)).bind λn67=>(Hp.st H65 H.length 0 (.sl s66)).bind λH68=>(Hp.st H68 H.length (0+1) (.int .i64 n67)).bind λH69=>(Hp.ldSl H69 H.length 0).bind λs70=>(Hp.ldI H69 .i64 H.length (0+1)).bind λn71=>some ((.agg [(.sl s70),(.int .i64 n71)]),H69)) else ((bif (n32==3) then ((Hp.new r31.2 [(.int .i64 (-1)),(.int .i64 8),(.int .i64 9)]).bind λH72=>(bc ac ag 3 H72).bind λr73=>((r73.1).asI .i64).bind λn74=>(Sl.idx (⟨some (r31.2.length,0),3,.ex 3⟩:Sl) n74 1).bind λp75=>(Hp.ldI r73.2 .i64 p75.1 p75.2).bind λn76=>(Hp.st r73.2 r4.2.length 1 (.int .i64 n76)).bind λH77=>(Hp.ldSl H77 r4.2.length 0).bind λs78=>(Hp.ldI H77 .i64 r4.2.length (0+1)).bind λn79=>(Hp.st H77 H.length 0 (.sl s78)).bind λH80=>(Hp.st H80 H.length (0+1) (.int .i64 n79)).bind λH81=>(Hp.ldSl H81 H.length 0).bind λs82=>(Hp.ldI H81 .i64 H.length (0+1)).bind λn83=>some ((.agg [(.sl s82),(.int .i64 n83)]),H81)) else ((bif (n32==4) then ((Hp.ldSl r31.2 r4.2.length 0).bind λs84=>(Hp.ldSl r31.2 r4.2.length 0).bind λs85=>(Sl.idx s84 n30 5).bind λp86=>(Hp.st r31.2 p86.1 (p86.2+2) (.int .i64 (wrap .i64 (2 * (s85.n:Int))))).bind λH87=>(Hp.ldSl H87 r4.2.length 0).bind λs88=>(Hp.ldI H87 .i64 r4.2.length (0+1)).bind λn89=>(Hp.st H87 H.length 0 (.sl s88)).bind λH90=>(Hp.st H90 H.length (0+1) (.int .i64 n89)).bind λH91=>(Hp.ldSl H91 H.length 0).bind λs92=>(Hp.ldI H91 .i64 H.length (0+1)).bind λn93=>some ((.agg [(.sl s92),(.int .i64 n93)]),H91)) else ((bif (n32==5) then ((Hp.ldSl r31.2 r4.2.length 0).bind λs94=>(Sl.idx s94 n30 5).bind λp95=>(Hp.ldI r31.2 .i64 p95.1 p95.2).bind λn96=>(Hp.ldI r31.2 .i64 p95.1 (p95.2+1)).bind λn97=>(Hp.ldI r31.2 .i64 p95.1 (p95.2+2)).bind λn98=>(Hp.ldI r31.2 .i64 p95.1 (p95.2+3)).bind λn99=>(Hp.ldI r31.2 .i64 p95.1 (p95.2+4)).bind λn100=>(Hp.new r31.2 [.int .i64 0,.int .i64 0,.int .i64 0,.int .i64 0,.int .i64 0]).bind λH101=>(Hp.st H101 r31.2.length 0 (.int .i64 n96)).bind λH102=>(Hp.st H102 r31.2.length (0+1) (.int .i64 n97)).bind λH103=>(Hp.st H103 r31.2.length (0+1+1) (.int .i64 n98)).bind λH104=>(Hp.st H104 r31.2.length (0+1+1+1) (.int .i64 n99)).bind λH105=>(Hp.st H105 r31.2.length (0+1+1+1+1) (.int .i64 n100)).bind λH106=>(Hp.ldSl H106 r4.2.length 0).bind λs107=>(Hp.ldI H106 .i64 r31.2.length 2).bind λn108=>(Hp.ldI H106 .i64 r31.2.length 1).bind λn109=>(Hp.ldI H106 .i64 r31.2.length 0).bind λn110=>(Hp.ldI H106 .i64 r31.2.length 3).bind λn111=>(Hp.ldI H106 .i64 r31.2.length 4).bind λn112=>(Sl.idx s107 n30 5).bind λp113=>(Hp.st H106 p113.1 p113.2 (.int .i64 n108)).bind λH114=>(Hp.st H114 p113.1 (p113.2+1) (.int .i64 n109)).bind λH115=>(Hp.st H115 p113.1 (p113.2+1+1) (.int .i64 n110)).bind λH116=>(Hp.st H116 p113.1 (p113.2+1+1+1) (.int .i64 n111)).bind λH117=>(Hp.st H117 p113.1 (p113.2+1+1+1+1) (.int .i64 n112)).bind λH118=>(Hp.ldSl H118 r4.2.length 0).bind λs119=>(Hp.ldI H118 .i64 r4.2.length (0+1)).bind λn120=>(Hp.st H118 H.length 0 (.sl s119)).bind λH121=>(Hp.st H121 H.length (0+1) (.int .i64 n120)).bind λH122=>(Hp.ldSl H122 H.length 0).bind λs123=>(Hp.ldI H122 .i64 H.length (0+1)).bind λn124=>some ((.agg [(.sl s123),(.int .i64 n124)]),H122)) else ((Hp.ldSl r31.2 r4.2.length 0).bind λs125=>(Hp.ldI r31.2 .i64 r4.2.length (0+1)).bind λn126=>(Hp.st r31.2 H.length 0 (.sl s125)).bind λH127=>(Hp.st H127 H.length (0+1) (.int .i64 n126)).bind λH128=>(Hp.ldSl H128 H.length 0).bind λs129=>(Hp.ldI H128 .i64 H.length (0+1)).bind λn130=>some ((.agg [(.sl s129),(.int .i64 n130)]),H128)))))))))))))))))
def db.tw:=db.twX F (dv.tw F) (aJ.tw F)
def db.pn:Nat->List Nat:=cT [(7,[12]),(12,[11])]
def db.tb:Nat->List (List Nat):=cT [(7,[[],[0],[],[],[3],[],[3,4,5],[3,4,5,6],[3,4,5,6,7],[3,4,5,6,7,8],[0,1,2,3,4,5,6,7,8,9],[0,1,2,3,4,5,6,7,8,9,10],[0,1,2,3,4,5,6,7,8,9,10,11]]),(12,[[],[0],[],[],[3],[],[3,4,5],[3,4,5,6],[3,4,5,6,7],[0,1,2,3,4,5,6,7,8],[0,1,2,3,4,5,6,7,8,9],[0,1,2,3,4,5,6,7,8,9,10]])]
def db.cs (F:Nat) (oc:YW) (bc:Yy):Cs:=[(155,mk14 oc),(121,mk1 bc)]
theorem db.eqX (oc:YW) (bc:Yy) (ac:Nat) (ag:Nat) (H:Hp):EX (bp (db.cs F oc bc)) db.pn lh0 F Try.f101 [(.ptr ac ag)] H=db.twX F oc bc ac ag H:=by kernel_rfl
theorem db.k:Ok Try.prog 101 (mk14 (db.tw F)):=by
 intro args H v H' h
 unfold mk14 at h
 split at h
 ·exact okT (TB:=db.tb) Try.func101 (aX (dv.k F) (aX (aJ.k F) cj)) ae.no ((db.eqX F (dv.tw F) (aJ.tw F) _ _ H).trans h) (by kernel_rfl)
 ·cases h
def cJ.twX (F:Nat) (od:Yt) (oe:YW) (ac:Sl) (H:Hp):OA:=(Hp.new H [.sl ⟨none,0,.ex 0⟩,.int .i64 0]).bind λH2=>(od ac H2).bind λr3=>((r3.1).asP).bind λp4=>(oe p4.1 p4.2 r3.2).bind λr5=>((r5.1).asAgg 2).bind λl6=>(l6[0]?).bind λv7=>((v7).asSl).bind λs8=>(l6[1]?).bind λv9=>((v9).asI .i64).bind λn10=>(Hp.st r5.2 H.length 0 (.sl s8)).bind λH11=>(Hp.st H11 H.length (0+1) (.int .i64 n10)).bind λH12=>(Hp.ldSl H12 H.length 0).bind λs13=>(Hp.ldI H12 .i64 H.length (0+1)).bind λn14=>some ((.agg [(.sl s13),(.int .i64 n14)]),H12)
def cJ.tw:=cJ.twX F (bE.tw F) (db.tw F)
def cJ.cs (F:Nat) (od:Yt) (oe:YW):Cs:=[(102,mk0 od),(101,mk14 oe)]
theorem cJ.eqX (od:Yt) (oe:YW) (ac:Sl) (H:Hp):EX (bp (cJ.cs F od oe)) bm lh0 F Try.f44 [(.sl ac)] H=cJ.twX F od oe ac H:=by kernel_rfl
theorem cJ.k:Ok Try.prog 44 (mk0 (cJ.tw F)):=by
 intro args H v H' h
 unfold mk0 at h
 split at h
 ·exact okT (TB:=bm) Try.func44 (aX (bE.k F) (aX (db.k F) cj)) ae.no ((cJ.eqX F (bE.tw F) (db.tw F) _ H).trans h) (by kernel_rfl)
 ·cases h
def cQ.twX (F:Nat) (ac:Sl) (H:Hp):OA:=some ((.int .i64 (ac.n:Int)),H)
def cQ.tw:=cQ.twX F
theorem cQ.k:Ok Try.prog 128 (mk0 (cQ.tw F)):=by
 intro args H v H' h
 unfold mk0 at h
 split at h
 ·exact ok0 Try.func128 (Eq.trans (by kernel_rfl) h) (by kernel_rfl) (by kernel_rfl)
 ·cases h
def dw.twX (F:Nat) (ac:Int) (aI:Int) (cV:Int) (H:Hp):OA:=(bif (decide (aI<=ac)) then (some ((.bool (decide (ac<=cV))),H)) else (some ((.bool false),H)))
def dw.tw:=dw.twX F
theorem dw.k:Ok Try.prog 112 (mk7 (dw.tw F)):=by
 intro args H v H' h
 unfold mk7 at h
 split at h
 ·exact ok0 Try.func112 (Eq.trans (by kernel_rfl) h) (by kernel_rfl) (by kernel_rfl)
 ·cases h
def dW.twX (F:Nat) (ac:Int) (ag:Int) (bx:Int) (bz:Int) (bq:Int) (H:Hp):OA:=(Hp.new H [(.int .i64 ac),(.int .i64 ag),(.int .i64 bx),(.int .i64 bz),(.int .i64 bq)]).bind λH6=>(Hp.ldI H6 .i64 H.length 4).bind λn7=>(bif (n7 != 1) then ((Hp.ldI H6 .i64 H.length 4).bind λn8=>some ((.bool (n8 != (-1))),H6)) else (some ((.bool false),H6)))
def dW.tw:=dW.twX F
theorem dW.k:Ok Try.prog 157 (mk13 (dW.tw F)):=by
 intro args H v H' h
 unfold mk13 at h
 split at h
 ·exact ok0 Try.func157 (Eq.trans (by kernel_rfl) h) (by kernel_rfl) (by kernel_rfl)
 ·cases h
def bD.l13 (F:Nat) (eK:YB) :Nat->Sl->Int->Int->Hp->OA
 | 0,_,_,_,_=>none
 | p_+1,tT,iy,fD,H6=>(bif (decide (fD<iy)) then ((Sl.idx tT fD 5).bind λp15=>(Hp.ldI H6 .i64 p15.1 p15.2).bind λn16=>(Hp.ldI H6 .i64 p15.1 (p15.2+1)).bind λn17=>(Hp.ldI H6 .i64 p15.1 (p15.2+2)).bind λn18=>(Hp.ldI H6 .i64 p15.1 (p15.2+3)).bind λn19=>(Hp.ldI H6 .i64 p15.1 (p15.2+4)).bind λn20=>(eK n16 n17 n18 n19 n20 H6).bind λr21=>((r21.1).asB).bind λb22=>(bif b22 then (some ((.int .i64 fD),r21.2)) else (bD.l13 F eK p_ tT iy (wrap .i64 (fD+1)) r21.2))) else (some ((.int .i64 (-1)),H6)))
def bD.twX (eK:YB) (ac:Sl) (H:Hp):OA:=bD.l13 F eK F ac (ac.n:Int) 0 H
def bD.tw:=bD.twX F (dW.tw F)
def bD.lh13 (eK:YB) (ks:Yw) (n:Nat) (tm:Tm) (H:Hp):OA:=match ks,tm 0,tm 1,tm 7,tm 8 with
 | [],(.sl tT),(.fn 157 []),(.int .i64 iy),(.int .i64 fD)=>bD.l13 F eK n tT iy fD H
 | _,_,_,_,_=>none
def bD.lh (eK:YB) (p:Nat) (ks:Yw) (n:Nat) (tm:Tm) (H:Hp):OA:=bif p.beq 13 then bD.lh13 F eK ks n tm H else (none)
def mk15 (g:Yt) (args:YE) (H:Hp):OA:=match args with
 | [(.sl ac),(.fn 157 [])]=>g ac H
 | _=>none
theorem mk15_E (g:Yt) (ac:Sl) (H:Hp):mk15 g [(.sl ac),(.fn 157 [])] H=g ac H:=rfl
def bD.cs (F:Nat) (eK:YB):Cs:=[(157,mk13 eK)]
theorem bD.loops (eK:YB):LO (bp (bD.cs F eK)) bm (bD.lh F eK) F Try.f192:=
 (ae.rt (ae.lt (ae.rt (ae.block (ae.la (λn tm H r h=>by change bD.lh13 F eK [] n tm H=_ at h;unfold bD.lh13 at h;split at h;have e:bW tm [(0,_),(1,_),(7,_),(8,_)]:=⟨‹_›,‹_›,‹_›,‹_›,trivial⟩;obtain _ | k13:=n;cases h;exact ⟨_,rfl,by rw [<- ca e];exact Eq.trans (by kernel_rfl) h⟩;cases h) λk13=>ae.no)))))
theorem bD.eqX (eK:YB) (ac:Sl) (H:Hp):EX (bp (bD.cs F eK)) bm (bD.lh F eK) F Try.f192 [(.sl ac),(.fn 157 [])] H=bD.twX F eK ac H:=by kernel_rfl
theorem bD.k:Ok Try.prog 192 (mk15 (bD.tw F)):=by
 intro args H v H' h
 unfold mk15 at h
 split at h
 ·exact okT (TB:=bm) Try.func192 (aX (dW.k F) cj) (bD.loops F (dW.tw F)) ((bD.eqX F (dW.tw F) _ H).trans h) (by kernel_rfl)
 ·cases h
def dx.twX (F:Nat) (og:Yt) (ac:Sl) (H:Hp):OA:=(og ac H).bind λr2=>((r2.1).asI .i64).bind λn3=>some ((.bool (decide (n3>=0))),r2.2)
def dx.tw:=dx.twX F (bD.tw F)
def dx.cs (F:Nat) (og:Yt):Cs:=[(192,mk15 og)]
theorem dx.eqX (og:Yt) (ac:Sl) (H:Hp):EX (bp (dx.cs F og)) bm lh0 F Try.f156 [(.sl ac),(.fn 157 [])] H=dx.twX F og ac H:=by kernel_rfl
theorem dx.k:Ok Try.prog 156 (mk15 (dx.tw F)):=by
 intro args H v H' h
 unfold mk15 at h
 split at h
 ·exact okT (TB:=bm) Try.func156 (aX (bD.k F) cj) ae.no ((dx.eqX F (bD.tw F) _ H).trans h) (by kernel_rfl)
 ·cases h
def bits_Mul64.twX (F:Nat) (ac:Int) (aI:Int) (H:Hp):OA:=some ((.tup [(.int .u64 (IntKind.u64.wrap ((IntKind.u64.wrap ((IntKind.u64.wrap ((Int.fdiv ac (2 ^ (min (32:Int).toNat (IntKind.u64).bits))) * (Int.fdiv aI (2 ^ (min (32:Int).toNat (IntKind.u64).bits)))))+(Int.fdiv (IntKind.u64.wrap ((IntKind.u64.wrap ((Int.fdiv ac (2 ^ (min (32:Int).toNat (IntKind.u64).bits))) * (Go.bits .and .u64 aI 4294967295)))+(Int.fdiv (IntKind.u64.wrap ((Go.bits .and .u64 ac 4294967295) * (Go.bits .and .u64 aI 4294967295))) (2 ^ (min (32:Int).toNat (IntKind.u64).bits))))) (2 ^ (min (32:Int).toNat (IntKind.u64).bits)))))+(Int.fdiv (IntKind.u64.wrap ((Go.bits .and .u64 (IntKind.u64.wrap ((IntKind.u64.wrap ((Int.fdiv ac (2 ^ (min (32:Int).toNat (IntKind.u64).bits))) * (Go.bits .and .u64 aI 4294967295)))+(Int.fdiv (IntKind.u64.wrap ((Go.bits .and .u64 ac 4294967295) * (Go.bits .and .u64 aI 4294967295))) (2 ^ (min (32:Int).toNat (IntKind.u64).bits))))) 4294967295)+(IntKind.u64.wrap ((Go.bits .and .u64 ac 4294967295) * (Int.fdiv aI (2 ^ (min (32:Int).toNat (IntKind.u64).bits))))))) (2 ^ (min (32:Int).toNat (IntKind.u64).bits)))))),(.int .u64 (IntKind.u64.wrap (ac * aI)))]),H)
def bits_Mul64.tw:=bits_Mul64.twX F
def mk16 (g:YH) (args:YE) (H:Hp):OA:=match args with
 | [(.int .u64 ac),(.int .u64 aI)]=>g ac aI H
 | _=>none
theorem mk16_E (g:YH) (ac:Int) (aI:Int) (H:Hp):mk16 g [(.int .u64 ac),(.int .u64 aI)] H=g ac aI H:=rfl
theorem bits_Mul64.k:Ok Try.prog 219 (mk16 (bits_Mul64.tw F)):=by
 intro args H v H' h
 unfold mk16 at h
 split at h
 ·exact ok0 Try.func219 (Eq.trans (by kernel_rfl) h) (by kernel_rfl) (by kernel_rfl)
 ·cases h
def bits_Mul.twX (F:Nat) (g_bits_Mul64:YH) (ac:Int) (aI:Int) (H:Hp):OA:=(g_bits_Mul64 ac aI H).bind λr3=>((r3.1).asTup 2).bind λl4=>(l4[0]?).bind λv5=>((v5).asI .u64).bind λn6=>(l4[1]?).bind λv7=>((v7).asI .u64).bind λn8=>some ((.tup [(.int .u64 n6),(.int .u64 n8)]),r3.2)
def bits_Mul.tw:=bits_Mul.twX F (bits_Mul64.tw F)
def bits_Mul.cs (F:Nat) (g_bits_Mul64:YH):Cs:=[(219,mk16 g_bits_Mul64)]
theorem bits_Mul.eqX (g_bits_Mul64:YH) (ac:Int) (aI:Int) (H:Hp):EX (bp (bits_Mul.cs F g_bits_Mul64)) bm lh0 F Try.f197 [(.int .u64 ac),(.int .u64 aI)] H=bits_Mul.twX F g_bits_Mul64 ac aI H:=by kernel_rfl
theorem bits_Mul.k:Ok Try.prog 197 (mk16 (bits_Mul.tw F)):=by
 intro args H v H' h
 unfold mk16 at h
 split at h
 ·exact okT (TB:=bm) Try.func197 (aX (bits_Mul64.k F) cj) ae.no ((bits_Mul.eqX F (bits_Mul64.tw F) _ _ H).trans h) (by kernel_rfl)
 ·cases h
def bd.l254 (F:Nat) (g_bits_Mul:YH) :Nat->Sl->Int->Hp->OA
 | 0,_,_,_=>none
 | xh+1,fd,gv,H33=>(bif (decide (gv<(fd.n:Int))) then ((Sl.cut fd 2 gv (fd.n:Int)).bind λs37=>(Sl.cut fd 2 0 gv).bind λs38=>(Hp.cpy H33 2 s37 s38).bind λc39=>bd.l254 F g_bits_Mul xh fd (wrap .i64 (gv+(c39.1:Int))) c39.2) else (some ((.sl fd),H33)))
def bd.j1 (g_bits_Mul:YH) (xi:Sl) (fE:Int) (H21:Hp):OA:=(Hp.mk H21 [.int .i64 0,.int .i64 0] 16 (wrap .i64 fE) (wrap .i64 fE)).bind λm22=>(Hp.cpy m22.2 2 m22.1 xi).bind λc23=>bd.l254 F g_bits_Mul F m22.1 (c23.1:Int) c23.2
def bd.j2 (g_bits_Mul:YH) (qg:Sl) (gw:Int) (H7:Hp):OA:=(g_bits_Mul (IntKind.u64.wrap (qg.n:Int)) (IntKind.u64.wrap gw) H7).bind λr8=>((r8.1).asTup 2).bind λl9=>(l9[0]?).bind λv10=>((v10).asI .u64).bind λn11=>(l9[1]?).bind λv12=>((v12).asI .u64).bind λn13=>(bif (decide (n11>0)) then (none) else ((bif (decide (n13>9223372036854775807)) then (none) else (bd.j1 F g_bits_Mul qg n13 r8.2))))
def bd.twX (g_bits_Mul:YH) (ac:Sl) (aI:Int) (H:Hp):OA:=(bif (decide (aI<0)) then (none) else (bd.j2 F g_bits_Mul ac aI H))
def bd.tw:=bd.twX F (bits_Mul.tw F)
def bd.lh254 (g_bits_Mul:YH) (ks:Yw) (n:Nat) (tm:Tm) (H:Hp):OA:=match ks,tm 7,tm 8 with
 | [],(.sl fd),(.int .i64 gv)=>bd.l254 F g_bits_Mul n fd gv H
 | _,_,_=>none
def bd.lh (g_bits_Mul:YH) (p:Nat) (ks:Yw) (n:Nat) (tm:Tm) (H:Hp):OA:=bif p.beq 254 then bd.lh254 F g_bits_Mul ks n tm H else (none)
def bd.pn:Nat->List Nat:=cT [(9,[7])]
def bd.tb:Nat->List (List Nat):=cT [(9,[[],[],[],[1,2],[],[],[4,5],[1,2,3,4,5,6],[0,1,2,3,4,5,6,7],[0,1,2,3,4,5,6,7,8]])]
def mk17 (g:Yq) (args:YE) (H:Hp):OA:=match args with
 | [(.sl ac),(.int .i64 aI)]=>g ac aI H
 | _=>none
theorem mk17_E (g:Yq) (ac:Sl) (aI:Int) (H:Hp):mk17 g [(.sl ac),(.int .i64 aI)] H=g ac aI H:=rfl
def bd.cs (F:Nat) (g_bits_Mul:YH):Cs:=[(197,mk16 g_bits_Mul)]
theorem bd.loops (g_bits_Mul:YH):LO (bp (bd.cs F g_bits_Mul)) bd.pn (bd.lh F g_bits_Mul) F Try.f193:=
 (ae.rt (ae.rt (ae.rt (ae.rt (ae.rt (ae.rt (ae.lt (ae.block (ae.la (λn tm H r h=>by change bd.lh254 F g_bits_Mul [] n tm H=_ at h;unfold bd.lh254 at h;split at h;have e:bW tm [(7,_),(8,_)]:=⟨‹_›,‹_›,trivial⟩;obtain _ | k254:=n;cases h;exact ⟨_,rfl,by rw [<- ca e];exact Eq.trans (by kernel_rfl) h⟩;cases h) λk254=>ae.no)))))))))
theorem bd.eqX (g_bits_Mul:YH) (ac:Sl) (aI:Int) (H:Hp):EX (bp (bd.cs F g_bits_Mul)) bd.pn (bd.lh F g_bits_Mul) F Try.f193 [(.sl ac),(.int .i64 aI)] H=bd.twX F g_bits_Mul ac aI H:=by kernel_rfl
theorem bd.k:Ok Try.prog 193 (mk17 (bd.tw F)):=by
 intro args H v H' h
 unfold mk17 at h
 split at h
 ·exact okT (TB:=bd.tb) Try.func193 (aX (bits_Mul.k F) cj) (bd.loops F (bits_Mul.tw F)) ((bd.eqX F (bits_Mul.tw F) _ _ H).trans h) (by kernel_rfl)
 ·cases h
def de.twX (F:Nat) (ac:Int) (ag:Int) (bx:Int) (bz:Int) (bq:Int) (H:Hp):OA:=(Hp.new H [(.int .i64 ac),(.int .i64 ag),(.int .i64 bx),(.int .i64 bz),(.int .i64 bq)]).bind λH6=>(Hp.new H6 [.int .i64 0,.int .i64 0,.int .i64 0,.int .i64 0]).bind λH7=>(Hp.ldI H7 .i64 H.length 0).bind λn8=>(Hp.ldI H7 .i64 H.length 1).bind λn9=>(Hp.ldI H7 .i64 H.length 2).bind λn10=>(Hp.ldI H7 .i64 H.length 3).bind λn11=>(Hp.st H7 H6.length 0 (.int .i64 n8)).bind λH12=>(Hp.st H12 H6.length (0+1) (.int .i64 n9)).bind λH13=>(Hp.st H13 H6.length (0+1+1) (.int .i64 n10)).bind λH14=>(Hp.st H14 H6.length (0+1+1+1) (.int .i64 n11)).bind λH15=>(Hp.ldI H15 .i64 H6.length 0).bind λn16=>(Hp.ldI H15 .i64 H6.length (0+1)).bind λn17=>(Hp.ldI H15 .i64 H6.length (0+2)).bind λn18=>(Hp.ldI H15 .i64 H6.length (0+3)).bind λn19=>some ((.agg [(.int .i64 n16),(.int .i64 n17),(.int .i64 n18),(.int .i64 n19)]),H15)
def de.tw:=de.twX F
theorem de.k:Ok Try.prog 194 (mk13 (de.tw F)):=by
 intro args H v H' h
 unfold mk13 at h
 split at h
 ·exact ok0 Try.func194 (Eq.trans (by kernel_rfl) h) (by kernel_rfl) (by kernel_rfl)
 ·cases h
def df.twX (F:Nat) (ac:Int) (ag:Int) (bx:Int) (bz:Int) (bq:Int) (bM:Int) (H:Hp):OA:=(Hp.new H [(.int .i64 ac),(.int .i64 ag),(.int .i64 bx),(.int .i64 bz),(.int .i64 bq)]).bind λH7=>(bif (bM==0) then (some ((.bool true),H7)) else ((Hp.ldI H7 .i64 H.length 4).bind λn8=>some ((.bool (bM==(wrap .i64 (2+n8)))),H7)))
def df.tw:=df.twX F
theorem df.k:Ok Try.prog 195 (mk3 (df.tw F)):=by
 intro args H v H' h
 unfold mk3 at h
 split at h
 ·exact ok0 Try.func195 (Eq.trans (by kernel_rfl) h) (by kernel_rfl) (by kernel_rfl)
 ·cases h
def ew.twX (F:Nat) (ac:Sl) (H:Hp):OA:=some ((.int .i64 (ac.n:Int)),H)
def ew.tw:=ew.twX F
theorem ew.k:Ok Try.prog 217 (mk0 (ew.tw F)):=by
 intro args H v H' h
 unfold mk0 at h
 split at h
 ·exact ok0 Try.func217 (Eq.trans (by kernel_rfl) h) (by kernel_rfl) (by kernel_rfl)
 ·cases h
def cX.twX (F:Nat) (oh:Yt) (gy:YF) (ac:Sl) (aI:Int) (H:Hp):OA:=(oh ac H).bind λr3=>((r3.1).asI .i64).bind λn4=>(gy aI 0 (wrap .i64 (n4 - 1)) r3.2).bind λr5=>((r5.1).asB).bind λb6=>some ((.bool b6),r5.2)
def cX.tw:=cX.twX F (ew.tw F) (dw.tw F)
def cX.cs (F:Nat) (oh:Yt) (gy:YF):Cs:=[(217,mk0 oh),(112,mk7 gy)]
theorem cX.eqX (oh:Yt) (gy:YF) (ac:Sl) (aI:Int) (H:Hp):EX (bp (cX.cs F oh gy)) bm lh0 F Try.f196 [(.sl ac),(.int .i64 aI)] H=cX.twX F oh gy ac aI H:=by kernel_rfl
theorem cX.k:Ok Try.prog 196 (mk17 (cX.tw F)):=by
 intro args H v H' h
 unfold mk17 at h
 split at h
 ·exact okT (TB:=bm) Try.func196 (aX (ew.k F) (aX (dw.k F) cj)) ae.no ((cX.eqX F (ew.tw F) (dw.tw F) _ _ H).trans h) (by kernel_rfl)
 ·cases h
def aP.l3931 (F:Nat) (dg:Yq) (cD:YB) (cE:Yu) (dh:Yq) (C61_:Zp):Nat->Nat->Nat->Nat->Nat->Sl->Int->Int->Nat->Nat->Int->Int->Int->Int->Int->Int->Hp->OA
 | 0,_,_,_,_,_,_,_,_,_,_,_,_,_,_,_,_=>none
 | FP+1,dy,dX,ey,fF,qh,gz,gA,gB,jz,fG,eb,ec,ed,ee,cR,H233=>(bif (decide (cR<4)) then ((if 0<=cR/\cR<(4:Int) then (([(.int .i64 eb),(.int .i64 ec),(.int .i64 ed),(.int .i64 ee)]:List AV)[(cR:Int).toNat * 1]?).bind λv283=>((v283).asI .i64).bind λn284=>(Hp.ldSl H233 ey fF).bind λs285=>(Hp.ldI H233 .i64 gB jz).bind λn286=>(Hp.ldI H233 .i64 gB (jz+1)).bind λn287=>(Hp.ldI H233 .i64 gB (jz+2)).bind λn288=>(Hp.ldI H233 .i64 gB (jz+3)).bind λn289=>(Hp.ldI H233 .i64 gB (jz+4)).bind λn290=>(cE n286 n287 n288 n289 n290 cR H233).bind λr291=>((r291.1).asB).bind λb292=>(bif b292 then ((Hp.ldSl r291.2 ey (fF+1)).bind λs293=>(dh s293 n284 r291.2).bind λr294=>((r294.1).asB).bind λb295=>(bif (!b295) then ((Hp.ldSl r294.2 ey fF).bind λs296=>(Hp.ldSl r294.2 ey (fF+1)).bind λs297=>(Hp.st r294.2 dy dX (.sl s296)).bind λH298=>(Hp.st H298 dy (dX+1) (.sl s297)).bind λH299=>(Hp.ldSl H299 dy dX).bind λs300=>(Hp.ldSl H299 dy (dX+1)).bind λs301=>some ((.tup [(.agg [(.sl s300),(.sl s301)]),(.bool false)]),H299)) else ((Sl.idx s293 n284 2).bind λp302=>(Hp.ldI r294.2 .i64 p302.1 p302.2).bind λn303=>(bif (decide (n303>=0)) then ((Hp.ldSl r294.2 ey fF).bind λs304=>(Hp.ldSl r294.2 ey (fF+1)).bind λs305=>(Hp.st r294.2 dy dX (.sl s304)).bind λH306=>(Hp.st H306 dy (dX+1) (.sl s305)).bind λH307=>(Hp.ldSl H307 dy dX).bind λs308=>(Hp.ldSl H307 dy (dX+1)).bind λs309=>some ((.tup [(.agg [(.sl s308),(.sl s309)]),(.bool false)]),H307)) else ((Sl.idx s293 n284 2).bind λp310=>(Hp.st r294.2 p310.1 p310.2 (.int .i64 fG)).bind λH311=>(Hp.st H311 p310.1 (p310.2+1) (.int .i64 cR)).bind λH312=>aP.l3931 F dg cD cE dh C61_ FP dy dX ey fF qh gz gA gB jz fG eb ec ed ee (wrap .i64 (cR+1)) H312))))) else ((dh s285 n284 r291.2).bind λr313=>((r313.1).asB).bind λb314=>(bif (!b314) then ((Hp.ldSl r313.2 ey fF).bind λs315=>(Hp.ldSl r313.2 ey (fF+1)).bind λs316=>(Hp.st r313.2 dy dX (.sl s315)).bind λH317=>(Hp.st H317 dy (dX+1) (.sl s316)).bind λH318=>(Hp.ldSl H318 dy dX).bind λs319=>(Hp.ldSl H318 dy (dX+1)).bind λs320=>some ((.tup [(.agg [(.sl s319),(.sl s320)]),(.bool false)]),H318)) else ((Sl.idx s285 n284 2).bind λp321=>(Hp.ldI r313.2 .i64 p321.1 p321.2).bind λn322=>(bif (decide (n322>=0)) then ((Hp.ldSl r313.2 ey fF).bind λs323=>(Hp.ldSl r313.2 ey (fF+1)).bind λs324=>(Hp.st r313.2 dy dX (.sl s323)).bind λH325=>(Hp.st H325 dy (dX+1) (.sl s324)).bind λH326=>(Hp.ldSl H326 dy dX).bind λs327=>(Hp.ldSl H326 dy (dX+1)).bind λs328=>some ((.tup [(.agg [(.sl s327),(.sl s328)]),(.bool false)]),H326)) else ((Sl.idx s285 n284 2).bind λp329=>(Hp.st r313.2 p329.1 p329.2 (.int .i64 fG)).bind λH330=>(Hp.st H330 p329.1 (p329.2+1) (.int .i64 cR)).bind λH331=>aP.l3931 F dg cD cE dh C61_ FP dy dX ey fF qh gz gA gB jz fG eb ec ed ee (wrap .i64 (cR+1)) H331)))))) else none)) else (C61_ dy dX ey fF qh gz (wrap .i64 (gA+1)) H233))
termination_by structural n=>n
def aP.l61 (F:Nat) (dg:Yq) (cD:YB) (cE:Yu) (dh:Yq) :Nat->Nat->Nat->Nat->Nat->Sl->Int->Int->Hp->OA
 | 0,_,_,_,_,_,_,_,_=>none
 | cA+1,iz,ev,fV,qi,tU,iA,fH,H29=>(bif (decide (fH<iA)) then ((Sl.idx tU fH 5).bind λp184=>(Hp.ldI H29 .i64 p184.1 p184.2).bind λn185=>(Hp.ldI H29 .i64 p184.1 (p184.2+1)).bind λn186=>(Hp.ldI H29 .i64 p184.1 (p184.2+2)).bind λn187=>(Hp.ldI H29 .i64 p184.1 (p184.2+3)).bind λn188=>(Hp.ldI H29 .i64 p184.1 (p184.2+4)).bind λn189=>(Hp.new H29 [.int .i64 0,.int .i64 0,.int .i64 0,.int .i64 0,.int .i64 0]).bind λH190=>(Hp.st H190 H29.length 0 (.int .i64 n185)).bind λH191=>(Hp.st H191 H29.length (0+1) (.int .i64 n186)).bind λH192=>(Hp.st H192 H29.length (0+1+1) (.int .i64 n187)).bind λH193=>(Hp.st H193 H29.length (0+1+1+1) (.int .i64 n188)).bind λH194=>(Hp.st H194 H29.length (0+1+1+1+1) (.int .i64 n189)).bind λH195=>(Hp.ldI H195 .i64 H29.length 0).bind λn196=>(Hp.ldI H195 .i64 H29.length (0+1)).bind λn197=>(Hp.ldI H195 .i64 H29.length (0+2)).bind λn198=>(Hp.ldI H195 .i64 H29.length (0+3)).bind λn199=>(Hp.ldI H195 .i64 H29.length (0+4)).bind λn200=>(cD n196 n197 n198 n199 n200 H195).bind λr201=>((r201.1).asAgg 4).bind λl202=>(l202[0]?).bind λv203=>((v203).asI .i64).bind λn204=>(l202[1]?).bind λv205=>((v205).asI .i64).bind λn206=>(l202[2]?).bind λv207=>((v207).asI .i64).bind λn208=>(l202[3]?).bind λv209=>((v209).asI .i64).bind λn210=>aP.l3931 F dg cD cE dh (aP.l61 F dg cD cE dh cA) F iz ev fV qi tU iA fH H29.length 0 fH n204 n206 n208 n210 0 r201.2) else ((Hp.ldSl H29 fV qi).bind λs332=>(Hp.ldSl H29 fV (qi+1)).bind λs333=>(Hp.st H29 iz ev (.sl s332)).bind λH334=>(Hp.st H334 iz (ev+1) (.sl s333)).bind λH335=>(Hp.ldSl H335 iz ev).bind λs336=>(Hp.ldSl H335 iz (ev+1)).bind λs337=>some ((.tup [(.agg [(.sl s336),(.sl s337)]),(.bool true)]),H335)))
termination_by structural n=>n
def aP.twX (dg:Yq) (cD:YB) (cE:Yu) (dh:Yq) (ac:Sl) (ag:Int) (H:Hp):OA:=(Hp.new H [(.sl ac),(.int .i64 ag)]).bind λH3=>(Hp.new H3 [.sl ⟨none,0,.ex 0⟩,.sl ⟨none,0,.ex 0⟩]).bind λH4=>(Hp.ldSl H4 H.length 0).bind λs5=>(Hp.new H4 [(.int .i64 (-1)),(.int .i64 0)]).bind λH6=>(dg (⟨some (H4.length,0),1,.ex 1⟩:Sl) (wrap .i64 (2 * (s5.n:Int))) H6).bind λr7=>((r7.1).asSl).bind λs8=>(Hp.new r7.2 [(.int .i64 (-1)),(.int .i64 0)]).bind λH9=>(dg (⟨some (r7.2.length,0),1,.ex 1⟩:Sl) (wrap .i64 (2 * (s5.n:Int))) H9).bind λr10=>((r10.1).asSl).bind λs11=>(Hp.new r10.2 [.sl ⟨none,0,.ex 0⟩,.sl ⟨none,0,.ex 0⟩]).bind λH12=>(Hp.st H12 r10.2.length 0 (.sl s8)).bind λH13=>(Hp.st H13 r10.2.length (0+1) (.sl s11)).bind λH14=>(Hp.ldSl H14 H.length 0).bind λs15=>aP.l61 F dg cD cE dh F H3.length 0 r10.2.length 0 s15 (s15.n:Int) 0 H14
def aP.tw:=aP.twX F (bd.tw F) (de.tw F) (df.tw F) (cX.tw F)
def aP.lh61 (dg:Yq) (cD:YB) (cE:Yu) (dh:Yq) (ks:Yw) (n:Nat) (tm:Tm) (H:Hp):OA:=match ks,tm 2,tm 5,tm 25,tm 26,tm 27 with
 | [],(.ptr iz ev),(.ptr fV qi),(.sl tU),(.int .i64 iA),(.int .i64 fH)=>aP.l61 F dg cD cE dh n iz ev fV qi tU iA fH H
 | _,_,_,_,_,_=>none
def aP.lh3931 (dg:Yq) (cD:YB) (cE:Yu) (dh:Yq) (ks:Yw) (n:Nat) (tm:Tm) (H:Hp):OA:=match ks,tm 2,tm 5,tm 6,tm 7,tm 25,tm 26,tm 27,tm 33,tm 34 with
 | [cA],(.ptr dy dX),(.ptr ey fF),(.int .i64 fG),(.ptr gB jz),(.sl qh),(.int .i64 gz),(.int .i64 gA),(.agg [(.int .i64 eb),(.int .i64 ec),(.int .i64 ed),(.int .i64 ee)]),(.int .i64 cR)=>aP.l3931 F dg cD cE dh (aP.l61 F dg cD cE dh cA) n dy dX ey fF qh gz gA gB jz fG eb ec ed ee cR H
 | _,_,_,_,_,_,_,_,_,_=>none
def aP.lh (dg:Yq) (cD:YB) (cE:Yu) (dh:Yq) (p:Nat) (ks:Yw) (n:Nat) (tm:Tm) (H:Hp):OA:=bif p.beq 3931 then aP.lh3931 F dg cD cE dh ks n tm H else (bif p.beq 61 then aP.lh61 F dg cD cE dh ks n tm H else (none))
def aP.cs (F:Nat) (dg:Yq) (cD:YB) (cE:Yu) (dh:Yq):Cs:=[(193,mk17 dg),(194,mk13 cD),(195,mk3 cE),(196,mk17 dh)]
theorem aP.loops (dg:Yq) (cD:YB) (cE:Yu) (dh:Yq):LO (bp (aP.cs F dg cD cE dh)) bm (aP.lh F dg cD cE dh) F Try.f158:=
 (ae.rt (ae.rt (ae.rt (ae.lt (ae.rt (ae.block (ae.la (λn tm H r h=>by change aP.lh61 F dg cD cE dh [] n tm H=_ at h;unfold aP.lh61 at h;split at h;have e:bW tm [(2,_),(5,_),(25,_),(26,_),(27,_)]:=⟨‹_›,‹_›,‹_›,‹_›,‹_›,trivial⟩;obtain _ | k61:=n;cases h;exact ⟨_,rfl,by rw [<- ca e];exact Eq.trans (by kernel_rfl) h⟩;cases h) λk61=>(ae.rt (ae.rt (ae.lt (ae.block (ae.rt (ae.rt (ae.block (ae.la (λn tm H r h=>by change aP.lh3931 F dg cD cE dh [k61] n tm H=_ at h;unfold aP.lh3931 at h;split at h;have e:bW tm [(2,_),(5,_),(6,_),(7,_),(25,_),(26,_),(27,_),(33,_),(34,_)]:=⟨‹_›,‹_›,‹_›,‹_›,‹_›,‹_›,‹_›,‹_›,‹_›,trivial⟩;cases (show [k61]=_ from ‹_›);obtain _ | k3931:=n;cases h;exact ⟨_,rfl,by rw [<- ca e];exact Eq.trans (by kernel_rfl) h⟩;cases h) λk3931=>ae.no)))))))))))))))
theorem aP.eqX (dg:Yq) (cD:YB) (cE:Yu) (dh:Yq) (ac:Sl) (ag:Int) (H:Hp):EX (bp (aP.cs F dg cD cE dh)) bm (aP.lh F dg cD cE dh) F Try.f158 [(.agg [(.sl ac),(.int .i64 ag)])] H=aP.twX F dg cD cE dh ac ag H:=by kernel_rfl
theorem aP.k:Ok Try.prog 158 (mk8 (aP.tw F)):=by
 intro args H v H' h
 unfold mk8 at h
 split at h
 ·exact okT (TB:=bm) Try.func158 (aX (bd.k F) (aX (de.k F) (aX (df.k F) (aX (cX.k F) cj)))) (aP.loops F (bd.tw F) (de.tw F) (df.tw F) (cX.tw F)) ((aP.eqX F (bd.tw F) (de.tw F) (df.tw F) (cX.tw F) _ _ H).trans h) (by kernel_rfl)
 ·cases h
def cF.twX (F:Nat) (cD:YB) (cE:Yu) (ac:Sl) (ag:Int) (az:Sl) (bB:Sl) (da:Int) (ez:Int) (H:Hp):OA:=(Hp.new H [(.sl ac),(.int .i64 ag)]).bind λH7=>(Hp.new H7 [(.sl az),(.sl bB)]).bind λH8=>(Hp.new H8 [(.int .i64 da),(.int .i64 ez)]).bind λH9=>(Hp.new H9 [.int .i64 0,.int .i64 0]).bind λH10=>(Hp.ldSl H10 H.length 0).bind λs11=>(Hp.ldI H10 .i64 H8.length 0).bind λn12=>(Sl.idx s11 n12 5).bind λp13=>(Hp.ldI H10 .i64 p13.1 p13.2).bind λn14=>(Hp.ldI H10 .i64 p13.1 (p13.2+1)).bind λn15=>(Hp.ldI H10 .i64 p13.1 (p13.2+2)).bind λn16=>(Hp.ldI H10 .i64 p13.1 (p13.2+3)).bind λn17=>(Hp.ldI H10 .i64 p13.1 (p13.2+4)).bind λn18=>(Hp.new H10 [.int .i64 0,.int .i64 0,.int .i64 0,.int .i64 0,.int .i64 0]).bind λH19=>(Hp.st H19 H10.length 0 (.int .i64 n14)).bind λH20=>(Hp.st H20 H10.length (0+1) (.int .i64 n15)).bind λH21=>(Hp.st H21 H10.length (0+1+1) (.int .i64 n16)).bind λH22=>(Hp.st H22 H10.length (0+1+1+1) (.int .i64 n17)).bind λH23=>(Hp.st H23 H10.length (0+1+1+1+1) (.int .i64 n18)).bind λH24=>(Hp.ldI H24 .i64 H10.length 0).bind λn25=>(Hp.ldI H24 .i64 H10.length (0+1)).bind λn26=>(Hp.ldI H24 .i64 H10.length (0+2)).bind λn27=>(Hp.ldI H24 .i64 H10.length (0+3)).bind λn28=>(Hp.ldI H24 .i64 H10.length (0+4)).bind λn29=>(cD n25 n26 n27 n28 n29 H24).bind λr30=>((r30.1).asAgg 4).bind λl31=>(l31[0]?).bind λv32=>((v32).asI .i64).bind λn33=>(l31[1]?).bind λv34=>((v34).asI .i64).bind λn35=>(l31[2]?).bind λv36=>((v36).asI .i64).bind λn37=>(l31[3]?).bind λv38=>((v38).asI .i64).bind λn39=>(if aO H24 r30.2 then ((Hp.ldI r30.2 .i64 H8.length 1).bind λn40=>(if 0<=n40/\n40<(4:Int) then (([(.int .i64 n33),(.int .i64 n35),(.int .i64 n37),(.int .i64 n39)]:List AV)[(n40:Int).toNat * 1]?).bind λv41=>((v41).asI .i64).bind λn42=>(Hp.ldI r30.2 .i64 H10.length 0).bind λn43=>(Hp.ldI r30.2 .i64 H10.length (0+1)).bind λn44=>(Hp.ldI r30.2 .i64 H10.length (0+2)).bind λn45=>(Hp.ldI r30.2 .i64 H10.length (0+3)).bind λn46=>(Hp.ldI r30.2 .i64 H10.length (0+4)).bind λn47=>(Hp.ldI r30.2 .i64 H8.length 1).bind λn48=>(cE n43 n44 n45 n46 n47 n48 r30.2).bind λr49=>((r49.1).asB).bind λb50=>(bif b50 then ((Hp.ldSl r49.2 H7.length 0).bind λs51=>(Sl.idx s51 n42 2).bind λp52=>(Hp.ldI r49.2 .i64 p52.1 p52.2).bind λn53=>(Hp.ldI r49.2 .i64 p52.1 (p52.2+1)).bind λn54=>(Hp.st r49.2 H9.length 0 (.int .i64 n53)).bind λH55=>(Hp.st H55 H9.length (0+1) (.int .i64 n54)).bind λH56=>(Hp.ldI H56 .i64 H9.length 0).bind λn57=>(Hp.ldI H56 .i64 H9.length (0+1)).bind λn58=>some ((.agg [(.int .i64 n57),(.int .i64 n58)]),H56)) else ((Hp.ldSl r49.2 H7.length 1).bind λs59=>(Sl.idx s59 n42 2).bind λp60=>(Hp.ldI r49.2 .i64 p60.1 p60.2).bind λn61=>(Hp.ldI r49.2 .i64 p60.1 (p60.2+1)).bind λn62=>(Hp.st r49.2 H9.length 0 (.int .i64 n61)).bind λH63=>(Hp.st H63 H9.length (0+1) (.int .i64 n62)).bind λH64=>(Hp.ldI H64 .i64 H9.length 0).bind λn65=>(Hp.ldI H64 .i64 H9.length (0+1)).bind λn66=>some ((.agg [(.int .i64 n65),(.int .i64 n66)]),H64))) else none)) else none)
def cF.tw:=cF.twX F (de.tw F) (df.tw F)
def cF.tb:Nat->List (List Nat):=cT [(2,[[],[0],[],[2],[0,1,2,3],[0,1,2,3,4]])]
def mk18 (g:YJ) (args:YE) (H:Hp):OA:=match args with
 | [(.agg [(.sl ac),(.int .i64 ag)]),(.agg [(.sl az),(.sl bB)]),(.agg [(.int .i64 da),(.int .i64 ez)])]=>g ac ag az bB da ez H
 | _=>none
theorem mk18_E (g:YJ) (ac:Sl) (ag:Int) (az:Sl) (bB:Sl) (da:Int) (ez:Int) (H:Hp):mk18 g [(.agg [(.sl ac),(.int .i64 ag)]),(.agg [(.sl az),(.sl bB)]),(.agg [(.int .i64 da),(.int .i64 ez)])] H=g ac ag az bB da ez H:=rfl
def cF.cs (F:Nat) (cD:YB) (cE:Yu):Cs:=[(194,mk13 cD),(195,mk3 cE)]
theorem cF.eqX (cD:YB) (cE:Yu) (ac:Sl) (ag:Int) (az:Sl) (bB:Sl) (da:Int) (ez:Int) (H:Hp):EX (bp (cF.cs F cD cE)) bm lh0 F Try.f160 [(.agg [(.sl ac),(.int .i64 ag)]),(.agg [(.sl az),(.sl bB)]),(.agg [(.int .i64 da),(.int .i64 ez)])] H=cF.twX F cD cE ac ag az bB da ez H:=by kernel_rfl
theorem cF.k:Ok Try.prog 160 (mk18 (cF.tw F)):=by
 intro args H v H' h
 unfold mk18 at h
 split at h
 ·exact okT (TB:=cF.tb) Try.func160 (aX (de.k F) (aX (df.k F) cj)) ae.no ((cF.eqX F (de.tw F) (df.tw F) _ _ _ _ _ _ H).trans h) (by kernel_rfl)
 ·cases h
def aw.j4 (F:Nat) (cK:YJ) (C61_:YS) (tV:Nat) (Pt:Nat) (tW:Nat) (Pu:Nat) (Pv:Sl) (Pw:Sl) (ol:Int) (om:Int) (H248:Hp):OA:=C61_ tV Pt tW Pu Pv Pw ol (wrap .i64 (om+1)) H248
def aw.j5 (cK:YJ) (C61_:YS) (tX:Nat) (Px:Nat) (nP:Nat) (Py:Nat) (kp:Sl) (Pz:Sl) (oq:Int) (ou:Int) (H228:Hp):OA:=aw.j4 F cK C61_ tX Px nP Py kp Pz oq ou H228
def aw.j6 (cK:YJ) (C61_:YS) (qj:Nat) (FQ:Nat) (qk:Nat) (FR:Nat) (FS:Sl) (FT:Sl) (FU:Sl) (ku:Int) (kv:Int) (H205:Hp):OA:=(bif (decide ((FU.n:Int)>0)) then ((Hp.new H205 [(.sl FU)]).bind λH206=>(Sl.row H206 (⟨some (H205.length,0),1,.ex 1⟩:Sl) 1).bind λxs208=>(Hp.app H206 1 24 FS (⟨some (H205.length,0),1,.ex 1⟩:Sl).n xs208).bind λa207=>aw.j5 F cK C61_ qj FQ qk FR a207.1 FT ku kv a207.2) else (aw.j5 F cK C61_ qj FQ qk FR FS FT ku kv H205))
def aw.l15725 (F:Nat) (cK:YJ) (C61_:YS):Nat->Nat->Nat->Nat->Nat->Sl->Sl->Int->Int->Sl->Int->Hp->OA
 | 0,_,_,_,_,_,_,_,_,_,_,_=>none
 | PA+1,ja,ov,jb,ox,tY,oy,iB,iC,tZ,eA,H164=>(Sl.idx oy eA 1).bind λp249=>(Hp.ldB H164 p249.1 p249.2).bind λb250=>(bif (!b250) then ((Sl.idx oy eA 1).bind λp251=>(Hp.st H164 p251.1 p251.2 (.bool true)).bind λH252=>(Hp.new H252 [(.int .i64 eA)]).bind λH253=>(Sl.row H253 (⟨some (H252.length,0),1,.ex 1⟩:Sl) 1).bind λxs255=>(Hp.app H253 1 8 tZ (⟨some (H252.length,0),1,.ex 1⟩:Sl).n xs255).bind λa254=>(Hp.ldSl a254.2 ja ov).bind λs256=>(Hp.ldI a254.2 .i64 ja (ov+1)).bind λn257=>(Hp.ldSl a254.2 jb ox).bind λs258=>(Hp.ldSl a254.2 jb (ox+1)).bind λs259=>(cK s256 n257 s258 s259 (wrap .i64 (Int.tdiv eA 4)) (Int.tmod (wrap .i64 (eA+1)) 4) a254.2).bind λr260=>((r260.1).asAgg 2).bind λl261=>(l261[0]?).bind λv262=>((v262).asI .i64).bind λn263=>(l261[1]?).bind λv264=>((v264).asI .i64).bind λn265=>(Hp.new r260.2 [.int .i64 0,.int .i64 0]).bind λH266=>(Hp.st H266 r260.2.length 0 (.int .i64 n263)).bind λH267=>(Hp.st H267 r260.2.length (0+1) (.int .i64 n265)).bind λH268=>(Hp.ldI H268 .i64 r260.2.length 0).bind λn269=>(Hp.ldI H268 .i64 r260.2.length 1).bind λn270=>aw.l15725 F cK C61_ PA ja ov jb ox tY oy iB iC a254.1 (wrap .i64 ((wrap .i64 (4 * n269))+n270)) H268) else (aw.j6 F cK C61_ ja ov jb ox tY oy tZ iB iC H164))
termination_by structural n=>n
def aw.l61 (F:Nat) (cK:YJ) :Nat->Nat->Nat->Nat->Nat->Sl->Sl->Int->Int->Hp->OA
 | 0,_,_,_,_,_,_,_,_,_=>none
 | cA+1,lA,ju,fm,kg,t_,xj,iD,gC,H22=>(bif (decide (gC<iD)) then (aw.l15725 F cK (aw.l61 F cK cA) F lA ju fm kg t_ xj iD gC (⟨none,0,.ex 0⟩:Sl) gC H22) else (some ((.sl t_),H22)))
termination_by structural n=>n
def aw.twX (cK:YJ) (ac:Sl) (ag:Int) (az:Sl) (bB:Sl) (H:Hp):OA:=(Hp.new H [(.sl ac),(.int .i64 ag)]).bind λH5=>(Hp.new H5 [(.sl az),(.sl bB)]).bind λH6=>(Hp.ldSl H6 H.length 0).bind λs7=>(Hp.mk H6 [.bool false] 1 (wrap .i64 (4 * (s7.n:Int))) (wrap .i64 (4 * (s7.n:Int)))).bind λm8=>aw.l61 F cK F H.length 0 H5.length 0 (⟨none,0,.ex 0⟩:Sl) m8.1 (m8.1.n:Int) 0 m8.2
def aw.tw:=aw.twX F (cF.tw F)
def aw.lh61 (cK:YJ) (ks:Yw) (n:Nat) (tm:Tm) (H:Hp):OA:=match ks,tm 2,tm 3,tm 5,tm 6,tm 17,tm 18 with
 | [],(.ptr lA ju),(.ptr fm kg),(.sl t_),(.sl xj),(.int .i64 iD),(.int .i64 gC)=>aw.l61 F cK n lA ju fm kg t_ xj iD gC H
 | _,_,_,_,_,_,_=>none
def aw.lh15725 (cK:YJ) (ks:Yw) (n:Nat) (tm:Tm) (H:Hp):OA:=match ks,tm 2,tm 3,tm 5,tm 6,tm 8,tm 9,tm 17,tm 18 with
 | [cA],(.ptr ja ov),(.ptr jb ox),(.sl tY),(.sl oy),(.sl tZ),(.int .i64 eA),(.int .i64 iB),(.int .i64 iC)=>aw.l15725 F cK (aw.l61 F cK cA) n ja ov jb ox tY oy iB iC tZ eA H
 | _,_,_,_,_,_,_,_,_=>none
def aw.lh (cK:YJ) (p:Nat) (ks:Yw) (n:Nat) (tm:Tm) (H:Hp):OA:=bif p.beq 15725 then aw.lh15725 F cK ks n tm H else (bif p.beq 61 then aw.lh61 F cK ks n tm H else (none))
def mk19 (g:Yv) (args:YE) (H:Hp):OA:=match args with
 | [(.agg [(.sl ac),(.int .i64 ag)]),(.agg [(.sl az),(.sl bB)])]=>g ac ag az bB H
 | _=>none
theorem mk19_E (g:Yv) (ac:Sl) (ag:Int) (az:Sl) (bB:Sl) (H:Hp):mk19 g [(.agg [(.sl ac),(.int .i64 ag)]),(.agg [(.sl az),(.sl bB)])] H=g ac ag az bB H:=rfl
def aw.cs (F:Nat) (cK:YJ):Cs:=[(160,mk18 cK)]
theorem aw.loops (cK:YJ):LO (bp (aw.cs F cK)) bm (aw.lh F cK) F Try.f104:=
 (ae.rt (ae.rt (ae.rt (ae.lt (ae.rt (ae.block (ae.la (λn tm H r h=>by change aw.lh61 F cK [] n tm H=_ at h;unfold aw.lh61 at h;split at h;have e:bW tm [(2,_),(3,_),(5,_),(6,_),(17,_),(18,_)]:=⟨‹_›,‹_›,‹_›,‹_›,‹_›,‹_›,trivial⟩;obtain _ | k61:=n;cases h;exact ⟨_,rfl,by rw [<- ca e];exact Eq.trans (by kernel_rfl) h⟩;cases h) λk61=>(ae.rt (ae.rt (ae.lt (ae.block (ae.rt (ae.rt (ae.lt (ae.rt (ae.block (ae.la (λn tm H r h=>by change aw.lh15725 F cK [k61] n tm H=_ at h;unfold aw.lh15725 at h;split at h;have e:bW tm [(2,_),(3,_),(5,_),(6,_),(8,_),(9,_),(17,_),(18,_)]:=⟨‹_›,‹_›,‹_›,‹_›,‹_›,‹_›,‹_›,‹_›,trivial⟩;cases (show [k61]=_ from ‹_›);obtain _ | k15725:=n;cases h;exact ⟨_,rfl,by rw [<- ca e];exact Eq.trans (by kernel_rfl) h⟩;cases h) λk15725=>ae.no)))))))))))))))))
theorem aw.eqX (cK:YJ) (ac:Sl) (ag:Int) (az:Sl) (bB:Sl) (H:Hp):EX (bp (aw.cs F cK)) bm (aw.lh F cK) F Try.f104 [(.agg [(.sl ac),(.int .i64 ag)]),(.agg [(.sl az),(.sl bB)])] H=aw.twX F cK ac ag az bB H:=by kernel_rfl
theorem aw.k:Ok Try.prog 104 (mk19 (aw.tw F)):=by
 intro args H v H' h
 unfold mk19 at h
 split at h
 ·exact okT (TB:=bm) Try.func104 (aX (cF.k F) cj) (aw.loops F (cF.tw F)) ((aw.eqX F (cF.tw F) _ _ _ _ H).trans h) (by kernel_rfl)
 ·cases h
def eB.twX (F:Nat) (ac:Sl) (H:Hp):OA:=some ((.int .i64 (ac.n:Int)),H)
def eB.tw:=eB.twX F
theorem eB.k:Ok Try.prog 85 (mk0 (eB.tw F)):=by
 intro args H v H' h
 unfold mk0 at h
 split at h
 ·exact ok0 Try.func85 (Eq.trans (by kernel_rfl) h) (by kernel_rfl) (by kernel_rfl)
 ·cases h
def bJ.l29 (F:Nat) :Nat->Sl->Int->Int->Hp->OA
 | 0,_,_,_,_=>none
 | ft+1,fl,iE,fI,H7=>(bif (decide (fI<iE)) then ((Hp.new H7 [(.int .i64 fI)]).bind λH11=>(Sl.row H11 (⟨some (H7.length,0),1,.ex 1⟩:Sl) 1).bind λxs13=>(Hp.app H11 1 8 fl (⟨some (H7.length,0),1,.ex 1⟩:Sl).n xs13).bind λa12=>bJ.l29 F ft a12.1 iE (wrap .i64 (fI+1)) a12.2) else (some ((.sl fl),H7)))
def bJ.twX (ac:Int) (H:Hp):OA:=bJ.l29 F F (⟨none,0,.ex 0⟩:Sl) ac 0 H
def bJ.tw:=bJ.twX F
def bJ.lh29 (ks:Yw) (n:Nat) (tm:Tm) (H:Hp):OA:=match ks,tm 3,tm 5,tm 6 with
 | [],(.sl fl),(.int .i64 iE),(.int .i64 fI)=>bJ.l29 F n fl iE fI H
 | _,_,_,_=>none
def bJ.lh (p:Nat) (ks:Yw) (n:Nat) (tm:Tm) (H:Hp):OA:=bif p.beq 29 then bJ.lh29 F ks n tm H else (none)
theorem bJ.loops:LO (bp []) bm (bJ.lh F) F Try.f125:=
 (ae.rt (ae.rt (ae.lt (ae.rt (ae.block (ae.la (λn tm H r h=>by change bJ.lh29 F [] n tm H=_ at h;unfold bJ.lh29 at h;split at h;have e:bW tm [(3,_),(5,_),(6,_)]:=⟨‹_›,‹_›,‹_›,trivial⟩;obtain _ | k29:=n;cases h;exact ⟨_,rfl,by rw [<- ca e];exact Eq.trans (by kernel_rfl) h⟩;cases h) λk29=>ae.no))))))
theorem bJ.k:Ok Try.prog 125 (mk2 (bJ.tw F)):=by
 intro args H v H' h
 unfold mk2 at h
 split at h
 ·exact okT (PN:=bm) (LH:=(bJ.lh F)) (F:=F) (TB:=bm) Try.func125 cj (bJ.loops F) (Eq.trans (by kernel_rfl) h) (by kernel_rfl)
 ·cases h
def bh.j2 (F:Nat) (C7_:YV) (pY:Sl) (oz:Int) (oA:Int) (PB:Sl) (oB:Int) (oC:Int) (H50:Hp):OA:=C7_ pY oz oA PB oB (wrap .i64 (oC+1)) H50
def bh.l7 (F:Nat) :Nat->Sl->Int->Int->Sl->Int->Int->Hp->OA
 | 0,_,_,_,_,_,_,_=>none
 | FV+1,dq,gD,gE,ql,gF,fe,H16=>(bif (decide (fe<gF)) then ((Sl.idx ql fe 1).bind λp34=>(Hp.ldI H16 .i64 p34.1 p34.2).bind λn35=>(bif (n35==gD) then ((Sl.idx dq fe 1).bind λp36=>(Hp.st H16 p36.1 p36.2 (.int .i64 gE)).bind λH37=>bh.j2 F (bh.l7 F FV) dq gD gE ql gF fe H37) else (bh.j2 F (bh.l7 F FV) dq gD gE ql gF fe H16))) else (some ((.tup []),H16)))
def bh.twX (ac:Sl) (aI:Int) (cV:Int) (H:Hp):OA:=(Sl.idx ac cV 1).bind λp4=>(Hp.ldI H .i64 p4.1 p4.2).bind λn5=>(Sl.idx ac aI 1).bind λp6=>(Hp.ldI H .i64 p6.1 p6.2).bind λn7=>bh.l7 F F ac n5 n7 ac (ac.n:Int) 0 H
def bh.tw:=bh.twX F
def bh.lh7 (ks:Yw) (n:Nat) (tm:Tm) (H:Hp):OA:=match ks,tm 0,tm 6,tm 7,tm 18,tm 19,tm 20 with
 | [],(.sl dq),(.int .i64 gD),(.int .i64 gE),(.sl ql),(.int .i64 gF),(.int .i64 fe)=>bh.l7 F n dq gD gE ql gF fe H
 | _,_,_,_,_,_,_=>none
def bh.lh (p:Nat) (ks:Yw) (n:Nat) (tm:Tm) (H:Hp):OA:=bif p.beq 7 then bh.lh7 F ks n tm H else (none)
def bh.tb:Nat->List (List Nat):=cT [(0,[[],[],[0,1],[0,1,2],[],[],[4,5],[4,5,6],[0,1,2,3],[0,1,2,3,4,5,6,7,8]])]
def mk20 (g:YC) (args:YE) (H:Hp):OA:=match args with
 | [(.sl ac),(.int .i64 aI),(.int .i64 cV)]=>g ac aI cV H
 | _=>none
theorem mk20_E (g:YC) (ac:Sl) (aI:Int) (cV:Int) (H:Hp):mk20 g [(.sl ac),(.int .i64 aI),(.int .i64 cV)] H=g ac aI cV H:=rfl
theorem bh.loops:LO (bp []) bm (bh.lh F) F Try.f129:=
 (ae.rt (ae.rt (ae.block (ae.la (λn tm H r h=>by change bh.lh7 F [] n tm H=_ at h;unfold bh.lh7 at h;split at h;have e:bW tm [(0,_),(6,_),(7,_),(18,_),(19,_),(20,_)]:=⟨‹_›,‹_›,‹_›,‹_›,‹_›,‹_›,trivial⟩;obtain _ | k7:=n;cases h;exact ⟨_,rfl,by rw [<- ca e];exact Eq.trans (by kernel_rfl) h⟩;cases h) λk7=>ae.no))))
theorem bh.k:Ok Try.prog 129 (mk20 (bh.tw F)):=by
 intro args H v H' h
 unfold mk20 at h
 split at h
 ·exact okT (PN:=bm) (LH:=(bh.lh F)) (F:=F) (TB:=bh.tb) Try.func129 cj (bh.loops F) (Eq.trans (by kernel_rfl) h) (by kernel_rfl)
 ·cases h
theorem nm_law:Keyed Try.prog 2:=int_keyed Try.underlying2
theorem nm_zero (w:World):(zeroValue 2).run Try.prog w=.ok (.int .i64 0) w:=by kernel_rfl
theorem nm_info:(Try.prog.info? 2).map (λi=>(i.zero,i.size,i.bytes))=some (some (.int .i64 0),1,8):=by kernel_rfl
theorem nm_none (a:Option Addr) (cap:Nat) (w:World):Calls Try.prog 130 #[.slice a 0 cap] w λe w'=>e=.returned (.slice none 0 0)/\Below w.heap.size w w':=by
 have hmm:=@run_makeMap Try.prog
 go_enter Try.func130,Try.ntmps130
 go_wp2
 refine wp_loop_rounds 1 ?_
 rw [rounds_succ]
 go_wp2
 go_ret
 exact ⟨rfl,(Below.refl _ _).alloc (Nat.le_refl _) _⟩
theorem nm_any (b off len cap:Nat) (zs:Yr) (w:World) (hreach:len<=4294967296) (hz:len<=zs.length) (hb:b<w.heap.size)
  (hc:∀ j,j<zs.length->w.cell? ⟨b,off+j,none⟩=some (.int .i64 (zs.getD j 0))) (hwz:∀ n∈zs,(Lit.int .i64 n).wf=true) :
  Calls Try.prog 130 #[.slice (some ⟨b,off,none⟩) len cap] w λe w'=>∃ v,e=.returned v/\w'.ownsRow (w.heap.size+1) 2 1 v len ((nst zs len).2.map (Value.int .i64))/\Below w.heap.size w w':=by
 have hmm:=@run_makeMap Try.prog
 obtain ⟨i0,hi,hz0,hz1,hz2⟩:=info_parts nm_info
 go_enter Try.func130,Try.ntmps130
 go_wp2
 go_loopw [4,12] (λv i wr=>∃ (k:Nat) (D:DataW Unit),k<=len/\i=.int .i64 k/\wr.ownsMap Try.prog 2 (plainElem Try.prog 2) w.heap.size k D/\ND D (nst zs k).1 /\
   wr.ownsRow (w.heap.size+1) 2 1 v k ((nst zs k).2.map (Value.int .i64))/\Below w.heap.size w wr/\w.heap.size+1<=wr.heap.size)
  (λ_ i _=>len - (intOf i).toNat)
 case atStart=>exact ⟨0,.map [],Nat.zero_le _,rfl,World.ownsMap_made _ _ _ _,ND.nil,World.ownsRow_nil _ _ _ _,(Below.refl _ _).alloc (Nat.le_refl _) _,by simp⟩
 case round=>
  obtain ⟨k,D,hk,rfl,hown,hD,hrow,hnx,hws⟩:=hrel
  obtain ⟨x,hx⟩:∃ x,x=zs.getD k 0:=⟨_,rfl⟩
  have hwx:(Lit.int .i64 x).wf=true:=by rw [hx];exact WK hwz k
  have hcx:k<len->wr.cell? ⟨b,off+k,none⟩=some (.int .i64 x):=λ_=>by rw [hx];exact (hnx.cell (by exact hb)).trans (hc k (by omega))
  have hkey:keyOf Try.prog 2 (.int .i64 x)=some (.int .i64 x):=keyOf_int_mk Try.underlying2 hwx
  have hl1:=MW zs k
  have hs1:Maps.size D<=k:=by rw [hD.size];exact hl1
  have hht:=hown.tidy nm_law
  have n1:nst zs (k+1)=(bif (nst zs k).1.contains x then (nst zs k).1 else (nst zs k).1++[x],(nst zs k).2++[(((bif (nst zs k).1.contains x then (nst zs k).1 else (nst zs k).1++[x]).idxOf x:Nat):Int)]):=by rw [hx];rfl
  clear hx
  go_wp2_with (first
   | (at_lookup;first
     | (refine wpList_lookup_own_ok_int _ rfl _ _ 181 rfl 2 2 .i64 nm_law Try.underlying181 Try.underlying2 (nm_zero _) w.heap.size k _ rfl hown _ _ rfl hkey ?_;intro c hat hwc)
     | (refine wpList_lookup_own_int _ rfl _ _ 181 rfl 2 2 .i64 nm_law Try.underlying181 Try.underlying2 (nm_zero _) w.heap.size (k+1) _ rfl hown1 _ _ rfl hkey ?_;intro c2 hat2 hwc2)
     | (refine wpList_lookup_own_int _ rfl _ _ 181 rfl 2 2 .i64 nm_law Try.underlying181 Try.underlying2 (nm_zero _) w.heap.size k _ rfl hown _ _ rfl hkey ?_;intro c2 hat2 hwc2))
   | (at_len;refine wpList_len_own _ rfl _ 181 rfl 2 2 Try.underlying181 _ w.heap.size k _ rfl hown ?_)
   | (at_mapUpdate;refine wpList_mapUpdate_own _ rfl _ _ _ 181 rfl 2 2 nm_law Try.underlying181 (plainElem Try.prog 2) w.heap.size k _ rfl hown (by unfold maxLen;omega) _ _ _ rfl rfl hkey _ [] (plainElem_int Try.underlying2 (WalkArith.wf_i64 (by omega))) ?_;intro w1 hown1 hgrow1)
   | (at_builtin;first
     | (refine wpList_append_own _ rfl _ _ 47 rfl (w.heap.size+1) 2 i0 (.int .i64 0) 1 8 Try.underlying47 hi hz0 hz1 hz2 rfl (by decide) _ _ _ rfl ((hrow.kept hgrow1 (Or.inr (wS hrow (Nat.lt_succ_self _)).symm)).alloc _) ⟨w1.heap.size,0,none⟩ 1 1 [.int .i64 c2] rfl rfl (cell_one_new _ _ _) (ints_oneCell .i64 [c2]) (by unfold maxLen;omega) (by omega) (by have:=hgrow1.size;simp at this ⊢;omega) ?_;intro v' w2 hown' hgrow2 hnil2)
     | (refine wpList_append_own _ rfl _ _ 47 rfl (w.heap.size+1) 2 i0 (.int .i64 0) 1 8 Try.underlying47 hi hz0 hz1 hz2 rfl (by decide) _ _ _ rfl (hrow.alloc _) ⟨wr.heap.size,0,none⟩ 1 1 [.int .i64 c2] rfl rfl (cell_one_new _ _ _) (ints_oneCell .i64 [c2]) (by unfold maxLen;omega) (by omega) (by simp;omega) ?_;intro v' w2 hown' hgrow2 hnil2))
   | go_in)
  ·have hlt:k<len:=by assumption
   have ht:(!Maps.has D (Lit.int .i64 x))=true:=by assumption
   have hc0:(nst zs k).1.contains x=false:=by rw [<- hD.has x];simpa using ht
   have hr1:=hrow.kept hgrow1 (Or.inr (wS hrow (Nat.lt_succ_self _)).symm)
   have s1:=hgrow1.size
   have s2:=hgrow2.size
   simp at s1 s2
   have hD1:=hD.new hht hc0
   rw [hD1.at_ x (by simp) _] at hat2
   have e2:c2=(((nst zs k).1++[x]).idxOf x:Nat):=by injection hat2 with q;injection q with _ q;exact q.symm
   rw [hc0,cond_false] at n1
   go_roundw
   case rel=>
    refine ⟨k+1,_,by omega,by go_num,(hown1.alloc _).kept hgrow2 (wS hr1 (Nat.lt_succ_self _)),by rw [n1];exact hD1,?_,?_,by omega⟩
    ·rw [n1,List.map_append,<-e2];exact hown'
    ·exact (((hnx.grown hgrow1 hnx.size (λj hj=>by cases hj;exact Nat.le_refl _)).alloc (by omega) _).grown hgrow2 (by simp;omega) (λj hj=>Nat.le_trans (Nat.le_succ _) (hr1.lt j hj).1))
   case measure=>simp [intOf];omega
  ·have hlt:k<len:=by assumption
   have ht:(!Maps.has D (Lit.int .i64 x))=false:=by assumption
   have hc1:(nst zs k).1.contains x=true:=by rw [<- hD.has x];simpa using ht
   have s2:=hgrow2.size
   simp at s2
   rw [hD.at_ x hc1 _] at hat2
   have e2:c2=((nst zs k).1.idxOf x:Nat):=by injection hat2 with q;injection q with _ q;exact q.symm
   rw [hc1,cond_true] at n1
   go_roundw
   case rel=>
    refine ⟨k+1,_,by omega,by go_num,((hown.alloc _).kept hgrow2 (wS hrow (Nat.lt_succ_self _))).mono (Nat.le_succ _),by rw [n1];exact hD,?_,?_,by omega⟩
    ·rw [n1,List.map_append,<-e2];exact hown'
    ·exact ((hnx.alloc hnx.size _).grown hgrow2 (by simp;omega) (λj hj=>Nat.le_trans (Nat.le_succ _) (hrow.lt j hj).1))
   case measure=>simp [intOf];omega
  ·have:k=len:=by omega
   subst this
   go_ret
   exact ⟨_,rfl,hrow,hnx⟩
theorem nm_ok:NumOk Try.prog 130 2:=⟨nm_none,nm_any⟩
def cY.tw (F:Nat) (ac:Sl) (H:Hp):OA:=sF ac H
def cY.mk (g:Yt) (args:YE) (H:Hp):OA:=match args with
 | [.sl ac]=>g ac H
 | _=>none
theorem cY.T {F:Nat} {ac:Sl} {H:Hp} {v:AV} {H':Hp} (h:cY.tw F ac H=some (v,H')):Go.AE.T Try.prog 130 [.sl ac] H v H':=
 nm_ok.T (WL Try.func130 (by kernel_rfl) (by kernel_rfl)) h
theorem cY.mk_T {F:Nat} {args:YE} {H:Hp} {v:AV} {H':Hp} (h:cY.mk (cY.tw F) args H=some (v,H')):Go.AE.T Try.prog 130 args H v H':=by
 unfold cY.mk at h
 split at h
 ·exact cY.T h
 ·cases h
theorem cY.k:Ok Try.prog 130 (cY.mk (cY.tw F)):=λ_ _ _ _ h=>cY.mk_T h
def a_.l29 (F:Nat) (dz:Yt) (eL:Yz) (eM:YC) (eN:Yt) :Nat->Nat->Nat->Sl->Sl->Int->Int->Hp->OA
 | 0,_,_,_,_,_,_,_=>none
 | ft+1,kw,ua,qn,ub,iF,fJ,H26=>(bif (decide (fJ<iF)) then ((Sl.idx ub fJ 2).bind λp40=>(Hp.ldI H26 .i64 p40.1 p40.2).bind λn41=>(Hp.ldI H26 .i64 p40.1 (p40.2+1)).bind λn42=>(Hp.new H26 [.int .i64 0,.int .i64 0]).bind λH43=>(Hp.st H43 H26.length 0 (.int .i64 n41)).bind λH44=>(Hp.st H44 H26.length (0+1) (.int .i64 n42)).bind λH45=>(Hp.ldI H45 .i64 H26.length 0).bind λn46=>(Hp.ldSl H45 kw (ua+1)).bind λs47=>(Sl.idx s47 fJ 2).bind λp48=>(Hp.ldI H45 .i64 p48.1 p48.2).bind λn49=>(eM qn n46 n49 H45).bind λr50=>a_.l29 F dz eL eM eN ft kw ua qn ub iF (wrap .i64 (fJ+1)) r50.2) else ((eN qn H26).bind λr51=>((r51.1).asSl).bind λs52=>some ((.sl s52),r51.2)))
termination_by structural n=>n
def a_.twX (dz:Yt) (eL:Yz) (eM:YC) (eN:Yt) (ac:Sl) (ag:Int) (az:Sl) (bB:Sl) (H:Hp):OA:=(Hp.new H [(.sl ac),(.int .i64 ag)]).bind λH5=>(Hp.new H5 [(.sl az),(.sl bB)]).bind λH6=>(Hp.ldSl H6 H.length 0).bind λs7=>(dz s7 H6).bind λr8=>((r8.1).asI .i64).bind λn9=>(eL n9 r8.2).bind λr10=>((r10.1).asSl).bind λs11=>(Hp.ldSl r10.2 H5.length 0).bind λs12=>a_.l29 F dz eL eM eN F H5.length 0 s11 s12 (s12.n:Int) 0 r10.2
def a_.tw:=a_.twX F (cQ.tw F) (bJ.tw F) (bh.tw F) (cY.tw F)
def a_.lh29 (dz:Yt) (eL:Yz) (eM:YC) (eN:Yt) (ks:Yw) (n:Nat) (tm:Tm) (H:Hp):OA:=match ks,tm 3,tm 5,tm 13,tm 14,tm 15 with
 | [],(.ptr kw ua),(.sl qn),(.sl ub),(.int .i64 iF),(.int .i64 fJ)=>a_.l29 F dz eL eM eN n kw ua qn ub iF fJ H
 | _,_,_,_,_,_=>none
def a_.lh (dz:Yt) (eL:Yz) (eM:YC) (eN:Yt) (p:Nat) (ks:Yw) (n:Nat) (tm:Tm) (H:Hp):OA:=bif p.beq 29 then a_.lh29 F dz eL eM eN ks n tm H else (none)
def a_.pn:Nat->List Nat:=cT [(5,[9])]
def a_.tb:Nat->List (List Nat):=cT [(5,[[],[],[1],[],[3],[],[3,4,5],[3,4,5,6],[3,4,5,6,7],[0,1,2,3,4,5,6,7,8]])]
def a_.cs (F:Nat) (dz:Yt) (eL:Yz) (eM:YC) (eN:Yt):Cs:=[(128,mk0 dz),(125,mk2 eL),(129,mk20 eM),(130,cY.mk eN)]
theorem a_.loops (dz:Yt) (eL:Yz) (eM:YC) (eN:Yt):LO (bp (a_.cs F dz eL eM eN)) a_.pn (a_.lh F dz eL eM eN) F Try.f159:=
 (ae.rt (ae.rt (ae.lt (ae.rt (ae.block (ae.la (λn tm H r h=>by change a_.lh29 F dz eL eM eN [] n tm H=_ at h;unfold a_.lh29 at h;split at h;have e:bW tm [(3,_),(5,_),(13,_),(14,_),(15,_)]:=⟨‹_›,‹_›,‹_›,‹_›,‹_›,trivial⟩;obtain _ | k29:=n;cases h;exact ⟨_,rfl,by rw [<- ca e];exact Eq.trans (by kernel_rfl) h⟩;cases h) λk29=>ae.no))))))
theorem a_.eqX (dz:Yt) (eL:Yz) (eM:YC) (eN:Yt) (ac:Sl) (ag:Int) (az:Sl) (bB:Sl) (H:Hp):EX (bp (a_.cs F dz eL eM eN)) a_.pn (a_.lh F dz eL eM eN) F Try.f159 [(.agg [(.sl ac),(.int .i64 ag)]),(.agg [(.sl az),(.sl bB)])] H=a_.twX F dz eL eM eN ac ag az bB H:=by kernel_rfl
theorem a_.k:Ok Try.prog 159 (mk19 (a_.tw F)):=by
 intro args H v H' h
 unfold mk19 at h
 split at h
 ·exact okT (TB:=a_.tb) Try.func159 (aX (cQ.k F) (aX (bJ.k F) (aX (bh.k F) (aX (cY.k F) cj)))) (a_.loops F (cQ.tw F) (bJ.tw F) (bh.tw F) (cY.tw F)) ((a_.eqX F (cQ.tw F) (bJ.tw F) (bh.tw F) (cY.tw F) _ _ _ _ H).trans h) (by kernel_rfl)
 ·cases h
def bs.l61 (F:Nat) :Nat->Sl->Int->Int->Hp->OA
 | 0,_,_,_,_=>none
 | cA+1,dq,eG,gG,H13=>(bif (decide (gG<(dq.n:Int))) then ((Sl.idx dq gG 1).bind λp16=>(Hp.ldI H13 .i64 p16.1 p16.2).bind λn17=>bs.l61 F cA dq (if n17>eG then n17 else eG) (wrap .i64 (gG+1)) H13) else (some ((.int .i64 eG),H13)))
def bs.j1 (FW:Sl) (H5:Hp):OA:=(Sl.idx FW 0 1).bind λp6=>(Hp.ldI H5 .i64 p6.1 p6.2).bind λn7=>bs.l61 F F FW n7 1 H5
def bs.twX (ac:Sl) (H:Hp):OA:=(bif (decide ((ac.n:Int)<1)) then (none) else (bs.j1 F ac H))
def bs.tw:=bs.twX F
def bs.lh61 (ks:Yw) (n:Nat) (tm:Tm) (H:Hp):OA:=match ks,tm 0,tm 3,tm 4 with
 | [],(.sl dq),(.int .i64 eG),(.int .i64 gG)=>bs.l61 F n dq eG gG H
 | _,_,_,_=>none
def bs.lh (p:Nat) (ks:Yw) (n:Nat) (tm:Tm) (H:Hp):OA:=bif p.beq 61 then bs.lh61 F ks n tm H else (none)
theorem bs.loops:LO (bp []) bm (bs.lh F) F Try.f171:=
 (ae.rt (ae.rt (ae.rt (ae.lt (ae.rt (ae.block (ae.la (λn tm H r h=>by change bs.lh61 F [] n tm H=_ at h;unfold bs.lh61 at h;split at h;have e:bW tm [(0,_),(3,_),(4,_)]:=⟨‹_›,‹_›,‹_›,trivial⟩;obtain _ | k61:=n;cases h;exact ⟨_,rfl,by rw [<- ca e];exact Eq.trans (by kernel_rfl) h⟩;cases h) λk61=>ae.no)))))))
theorem bs.k:Ok Try.prog 171 (mk0 (bs.tw F)):=by
 intro args H v H' h
 unfold mk0 at h
 split at h
 ·exact okT (PN:=bm) (LH:=(bs.lh F)) (F:=F) (TB:=bm) Try.func171 cj (bs.loops F) (Eq.trans (by kernel_rfl) h) (by kernel_rfl)
 ·cases h
def cl.twX (F:Nat) (oD:Yt) (ac:Sl) (H:Hp):OA:=(bif ((ac.n:Int)==0) then (some ((.int .i64 0),H)) else ((oD ac H).bind λr2=>((r2.1).asI .i64).bind λn3=>some ((.int .i64 (wrap .i64 (n3+1))),r2.2)))
def cl.tw:=cl.twX F (bs.tw F)
def cl.cs (F:Nat) (oD:Yt):Cs:=[(171,mk0 oD)]
theorem cl.eqX (oD:Yt) (ac:Sl) (H:Hp):EX (bp (cl.cs F oD)) bm lh0 F Try.f131 [(.sl ac)] H=cl.twX F oD ac H:=by kernel_rfl
theorem cl.k:Ok Try.prog 131 (mk0 (cl.tw F)):=by
 intro args H v H' h
 unfold mk0 at h
 split at h
 ·exact okT (TB:=bm) Try.func131 (aX (bs.k F) cj) ae.no ((cl.eqX F (bs.tw F) _ H).trans h) (by kernel_rfl)
 ·cases h
def ck.twX (F:Nat) (dz:Yt) (gy:YF) (oE:Yt) (oF:Yq) (aQ:Yv) (oG:Yt) (bF:Yv) (bG:Yt) (ac:Sl) (ag:Int) (H:Hp):OA:=(Hp.new H [(.sl ac),(.int .i64 ag)]).bind λH3=>(Hp.new H3 [.sl ⟨none,0,.ex 0⟩,.sl ⟨none,0,.ex 0⟩]).bind λH4=>(Hp.ldSl H4 H.length 0).bind λs5=>(dz s5 H4).bind λr6=>((r6.1).asI .i64).bind λn7=>(bif (decide (n7>10)) then ((Hp.st r6.2 H3.length 0 (.sl (⟨none,0,.ex 0⟩:Sl))).bind λH8=>(Hp.st H8 H3.length (0+1) (.sl (⟨none,0,.ex 0⟩:Sl))).bind λH9=>(Hp.ldSl H9 H3.length 0).bind λs10=>(Hp.ldSl H9 H3.length (0+1)).bind λs11=>some ((.tup [(.agg [(.sl s10),(.sl s11)]),(.bool false)]),H9)) else ((Hp.ldI r6.2 .i64 H.length 1).bind λn12=>(gy n12 0 8 r6.2).bind λr13=>((r13.1).asB).bind λb14=>(bif (!b14) then ((Hp.st r13.2 H3.length 0 (.sl (⟨none,0,.ex 0⟩:Sl))).bind λH15=>(Hp.st H15 H3.length (0+1) (.sl (⟨none,0,.ex 0⟩:Sl))).bind λH16=>(Hp.ldSl H16 H3.length 0).bind λs17=>(Hp.ldSl H16 H3.length (0+1)).bind λs18=>some ((.tup [(.agg [(.sl s17),(.sl s18)]),(.bool false)]),H16)) else ((Hp.ldSl r13.2 H.length 0).bind λs19=>(oE s19 r13.2).bind λr20=>((r20.1).asB).bind λb21=>(bif b21 then ((Hp.st r20.2 H3.length 0 (.sl (⟨none,0,.ex 0⟩:Sl))).bind λH22=>(Hp.st H22 H3.length (0+1) (.sl (⟨none,0,.ex 0⟩:Sl))).bind λH23=>(Hp.ldSl H23 H3.length 0).bind λs24=>(Hp.ldSl H23 H3.length (0+1)).bind λs25=>some ((.tup [(.agg [(.sl s24),(.sl s25)]),(.bool false)]),H23)) else ((Hp.ldSl r20.2 H.length 0).bind λs26=>(Hp.ldI r20.2 .i64 H.length (0+1)).bind λn27=>(oF s26 n27 r20.2).bind λr28=>((r28.1).asTup 2).bind λl29=>(l29[0]?).bind λv30=>((v30).asAgg 2).bind λl31=>(l31[0]?).bind λv32=>((v32).asSl).bind λs33=>(l31[1]?).bind λv34=>((v34).asSl).bind λs35=>(l29[1]?).bind λv36=>((v36).asB).bind λb37=>(Hp.new r28.2 [.sl ⟨none,0,.ex 0⟩,.sl ⟨none,0,.ex 0⟩]).bind λH38=>(Hp.st H38 r28.2.length 0 (.sl s33)).bind λH39=>(Hp.st H39 r28.2.length (0+1) (.sl s35)).bind λH40=>(bif (!b37) then ((Hp.st H40 H3.length 0 (.sl (⟨none,0,.ex 0⟩:Sl))).bind λH41=>(Hp.st H41 H3.length (0+1) (.sl (⟨none,0,.ex 0⟩:Sl))).bind λH42=>(Hp.ldSl H42 H3.length 0).bind λs43=>(Hp.ldSl H42 H3.length (0+1)).bind λs44=>some ((.tup [(.agg [(.sl s43),(.sl s44)]),(.bool false)]),H42)) else ((Hp.ldSl H40 H.length 0).bind λs45=>(Hp.ldI H40 .i64 H.length (0+1)).bind λn46=>(Hp.ldSl H40 r28.2.length 0).bind λs47=>(Hp.ldSl H40 r28.2.length (0+1)).bind λs48=>(aQ s45 n46 s47 s48 H40).bind λr49=>((r49.1).asSl).bind λs50=>(if aO H40 r49.2 then ((oG s50 r49.2).bind λr51=>((r51.1).asI .i64).bind λn52=>(if aO r49.2 r51.2 then ((Hp.ldSl r51.2 H.length 0).bind λs53=>(Hp.ldI r51.2 .i64 H.length (0+1)).bind λn54=>(Hp.ldSl r51.2 r28.2.length 0).bind λs55=>(Hp.ldSl r51.2 r28.2.length (0+1)).bind λs56=>(bF s53 n54 s55 s56 r51.2).bind λr57=>((r57.1).asSl).bind λs58=>(bG s58 r57.2).bind λr59=>((r59.1).asI .i64).bind λn60=>(bif (n52 != (wrap .i64 (n7+(wrap .i64 (2 * n60))))) then ((Hp.st r59.2 H3.length 0 (.sl (⟨none,0,.ex 0⟩:Sl))).bind λH61=>(Hp.st H61 H3.length (0+1) (.sl (⟨none,0,.ex 0⟩:Sl))).bind λH62=>(Hp.ldSl H62 H3.length 0).bind λs63=>(Hp.ldSl H62 H3.length (0+1)).bind λs64=>some ((.tup [(.agg [(.sl s63),(.sl s64)]),(.bool false)]),H62)) else ((Hp.ldSl r59.2 r28.2.length 0).bind λs65=>(Hp.ldSl r59.2 r28.2.length (0+1)).bind λs66=>(Hp.st r59.2 H3.length 0 (.sl s65)).bind λH67=>(Hp.st H67 H3.length (0+1) (.sl s66)).bind λH68=>(Hp.ldSl H68 H3.length 0).bind λs69=>(Hp.ldSl H68 H3.length (0+1)).bind λs70=>some ((.tup [(.agg [(.sl s69),(.sl s70)]),(.bool true)]),H68)))) else none)) else none)))))))))
def ck.tw:=ck.twX F (cQ.tw F) (dw.tw F) (dx.tw F) (aP.tw F) (aw.tw F) (eB.tw F) (a_.tw F) (cl.tw F)
def ck.pn:Nat->List Nat:=cT [(5,[10,11])]
def ck.tb:Nat->List (List Nat):=cT [(5,[[],[0],[0,1],[0,1,2],[0,1,2],[0,1,2,3,4],[0,1,2,3,4,5],[0,1,2],[0,1,2],[0,1,2],[0,1,2,3,4,5,6,8,9],[0,1,2,3,4,5,6,8,9,10],[0,1,2,3,4,5,6,8,9,10,11],[0,1,2,3,4,5,6,7,8,9,10,11,12],[0,1,2,3,4,5,6,7,8,9,10,11,12,13],[0,1,2,3,4,5,6,7,8,9,10,11,12,13,14]])]
def ck.cs (F:Nat) (dz:Yt) (gy:YF) (oE:Yt) (oF:Yq) (aQ:Yv) (oG:Yt) (bF:Yv) (bG:Yt):Cs:=[(128,mk0 dz),(112,mk7 gy),(156,mk15 oE),(158,mk8 oF),(104,mk19 aQ),(85,mk0 oG),(159,mk19 bF),(131,mk0 bG)]
theorem ck.eqX (dz:Yt) (gy:YF) (oE:Yt) (oF:Yq) (aQ:Yv) (oG:Yt) (bF:Yv) (bG:Yt) (ac:Sl) (ag:Int) (H:Hp):EX (bp (ck.cs F dz gy oE oF aQ oG bF bG)) ck.pn lh0 F Try.f103 [(.agg [(.sl ac),(.int .i64 ag)])] H=ck.twX F dz gy oE oF aQ oG bF bG ac ag H:=by kernel_rfl
theorem ck.k:Ok Try.prog 103 (mk8 (ck.tw F)):=by
 intro args H v H' h
 unfold mk8 at h
 split at h
 ·exact okT (TB:=ck.tb) Try.func103 (aX (cQ.k F) (aX (dw.k F) (aX (dx.k F) (aX (aP.k F) (aX (aw.k F) (aX (eB.k F) (aX (a_.k F) (aX (cl.k F) cj)))))))) ae.no ((ck.eqX F (cQ.tw F) (dw.tw F) (dx.tw F) (aP.tw F) (aw.tw F) (eB.tw F) (a_.tw F) (cl.tw F) _ _ H).trans h) (by kernel_rfl)
 ·cases h
def cN.twX (F:Nat) (gH:Yq) (aQ:Yv) (ac:Sl) (ag:Int) (H:Hp):OA:=(Hp.new H [(.sl ac),(.int .i64 ag)]).bind λH3=>(Hp.ldSl H3 H.length 0).bind λs4=>(Hp.ldI H3 .i64 H.length (0+1)).bind λn5=>(gH s4 n5 H3).bind λr6=>((r6.1).asTup 2).bind λl7=>(l7[0]?).bind λv8=>((v8).asAgg 2).bind λl9=>(l9[0]?).bind λv10=>((v10).asSl).bind λs11=>(l9[1]?).bind λv12=>((v12).asSl).bind λs13=>(l7[1]?).bind λv14=>((v14).asB).bind λb15=>(Hp.new r6.2 [.sl ⟨none,0,.ex 0⟩,.sl ⟨none,0,.ex 0⟩]).bind λH16=>(Hp.st H16 r6.2.length 0 (.sl s11)).bind λH17=>(Hp.st H17 r6.2.length (0+1) (.sl s13)).bind λH18=>(bif (!b15) then (some ((.sl (⟨none,0,.ex 0⟩:Sl)),H18)) else ((Hp.ldSl H18 H.length 0).bind λs19=>(Hp.ldI H18 .i64 H.length (0+1)).bind λn20=>(Hp.ldSl H18 r6.2.length 0).bind λs21=>(Hp.ldSl H18 r6.2.length (0+1)).bind λs22=>(aQ s19 n20 s21 s22 H18).bind λr23=>((r23.1).asSl).bind λs24=>some ((.sl s24),r23.2)))
def cN.tw:=cN.twX F (ck.tw F) (aw.tw F)
def cN.cs (F:Nat) (gH:Yq) (aQ:Yv):Cs:=[(103,mk8 gH),(104,mk19 aQ)]
theorem cN.eqX (gH:Yq) (aQ:Yv) (ac:Sl) (ag:Int) (H:Hp):EX (bp (cN.cs F gH aQ)) bm lh0 F Try.f45 [(.agg [(.sl ac),(.int .i64 ag)])] H=cN.twX F gH aQ ac ag H:=by kernel_rfl
theorem cN.k:Ok Try.prog 45 (mk8 (cN.tw F)):=by
 intro args H v H' h
 unfold mk8 at h
 split at h
 ·exact okT (TB:=bm) Try.func45 (aX (ck.k F) (aX (aw.k F) cj)) ae.no ((cN.eqX F (ck.tw F) (aw.tw F) _ _ H).trans h) (by kernel_rfl)
 ·cases h
def aF.j3 (F:Nat) (aQ:Yv) (C29_:YK) (PC:Sl) (PD:Sl) (oH:Int) (oI:Int) (H168:Hp):OA:=C29_ PC PD oH (wrap .i64 (oI+1)) H168
def aF.j4 (aQ:Yv) (C29_:YK) (PE:Sl) (PF:Sl) (oJ:Int) (oK:Int) (H147:Hp):OA:=aF.j3 F aQ C29_ PE PF oJ oK H147
def aF.l1883 (F:Nat) (aQ:Yv) (C29_:YK):Nat->Sl->Sl->Int->Int->Int->Sl->Int->Int->Hp->OA
 | 0,_,_,_,_,_,_,_,_,_=>none
 | PG+1,qo,uc,iG,iH,iI,ud,iJ,gI,H122=>(bif (decide (gI<iJ)) then ((Sl.idx ud gI 1).bind λp169=>(Hp.ldI H122 .i64 p169.1 p169.2).bind λn170=>(Sl.idx qo n170 1).bind λp171=>(Hp.st H122 p171.1 p171.2 (.int .i64 iI)).bind λH172=>aF.l1883 F aQ C29_ PG qo uc iG iH iI ud iJ (wrap .i64 (gI+1)) H172) else (aF.j4 F aQ C29_ qo uc iG iH H122))
def aF.l29 (F:Nat) (aQ:Yv) :Nat->Sl->Sl->Int->Int->Hp->OA
 | 0,_,_,_,_,_=>none
 | ft+1,fV,ue,iK,fK,H28=>(bif (decide (fK<iK)) then ((Sl.idx ue fK 1).bind λp101=>(Hp.ldSl H28 p101.1 p101.2).bind λs102=>aF.l1883 F aQ (aF.l29 F aQ ft) F fV ue iK fK fK s102 (s102.n:Int) 0 H28) else (some ((.sl fV),H28)))
def aF.twX (aQ:Yv) (ac:Sl) (ag:Int) (az:Sl) (bB:Sl) (H:Hp):OA:=(Hp.new H [(.sl ac),(.int .i64 ag)]).bind λH5=>(Hp.new H5 [(.sl az),(.sl bB)]).bind λH6=>(Hp.ldSl H6 H.length 0).bind λs7=>(Hp.mk H6 [.int .i64 0] 8 (wrap .i64 (4 * (s7.n:Int))) (wrap .i64 (4 * (s7.n:Int)))).bind λm8=>(Hp.ldSl m8.2 H.length 0).bind λs9=>(Hp.ldI m8.2 .i64 H.length (0+1)).bind λn10=>(Hp.ldSl m8.2 H5.length 0).bind λs11=>(Hp.ldSl m8.2 H5.length (0+1)).bind λs12=>(aQ s9 n10 s11 s12 m8.2).bind λr13=>((r13.1).asSl).bind λs14=>aF.l29 F aQ F m8.1 s14 (s14.n:Int) 0 r13.2
def aF.tw:=aF.twX F (aw.tw F)
def aF.lh29 (aQ:Yv) (ks:Yw) (n:Nat) (tm:Tm) (H:Hp):OA:=match ks,tm 5,tm 17,tm 18,tm 19 with
 | [],(.sl fV),(.sl ue),(.int .i64 iK),(.int .i64 fK)=>aF.l29 F aQ n fV ue iK fK H
 | _,_,_,_,_=>none
def aF.lh1883 (aQ:Yv) (ks:Yw) (n:Nat) (tm:Tm) (H:Hp):OA:=match ks,tm 5,tm 6,tm 17,tm 18,tm 19,tm 24,tm 25,tm 26 with
 | [ft],(.sl qo),(.int .i64 iI),(.sl uc),(.int .i64 iG),(.int .i64 iH),(.sl ud),(.int .i64 iJ),(.int .i64 gI)=>aF.l1883 F aQ (aF.l29 F aQ ft) n qo uc iG iH iI ud iJ gI H
 | _,_,_,_,_,_,_,_,_=>none
def aF.lh (aQ:Yv) (p:Nat) (ks:Yw) (n:Nat) (tm:Tm) (H:Hp):OA:=bif p.beq 1883 then aF.lh1883 F aQ ks n tm H else (bif p.beq 29 then aF.lh29 F aQ ks n tm H else (none))
def aF.cs (F:Nat) (aQ:Yv):Cs:=[(104,mk19 aQ)]
theorem aF.loops (aQ:Yv):LO (bp (aF.cs F aQ)) bm (aF.lh F aQ) F Try.f161:=
 (ae.rt (ae.rt (ae.lt (ae.rt (ae.block (ae.la (λn tm H r h=>by change aF.lh29 F aQ [] n tm H=_ at h;unfold aF.lh29 at h;split at h;have e:bW tm [(5,_),(17,_),(18,_),(19,_)]:=⟨‹_›,‹_›,‹_›,‹_›,trivial⟩;obtain _ | k29:=n;cases h;exact ⟨_,rfl,by rw [<- ca e];exact Eq.trans (by kernel_rfl) h⟩;cases h) λk29=>(ae.rt (ae.rt (ae.lt (ae.block (ae.rt (ae.rt (ae.block (ae.la (λn tm H r h=>by change aF.lh1883 F aQ [k29] n tm H=_ at h;unfold aF.lh1883 at h;split at h;have e:bW tm [(5,_),(6,_),(17,_),(18,_),(19,_),(24,_),(25,_),(26,_)]:=⟨‹_›,‹_›,‹_›,‹_›,‹_›,‹_›,‹_›,‹_›,trivial⟩;cases (show [k29]=_ from ‹_›);obtain _ | k1883:=n;cases h;exact ⟨_,rfl,by rw [<- ca e];exact Eq.trans (by kernel_rfl) h⟩;cases h) λk1883=>ae.no))))))))))))))
theorem aF.eqX (aQ:Yv) (ac:Sl) (ag:Int) (az:Sl) (bB:Sl) (H:Hp):EX (bp (aF.cs F aQ)) bm (aF.lh F aQ) F Try.f161 [(.agg [(.sl ac),(.int .i64 ag)]),(.agg [(.sl az),(.sl bB)])] H=aF.twX F aQ ac ag az bB H:=by kernel_rfl
theorem aF.k:Ok Try.prog 161 (mk19 (aF.tw F)):=by
 intro args H v H' h
 unfold mk19 at h
 split at h
 ·exact okT (TB:=bm) Try.func161 (aX (aw.k F) cj) (aF.loops F (aw.tw F)) ((aF.eqX F (aw.tw F) _ _ _ _ H).trans h) (by kernel_rfl)
 ·cases h
def aZ.l254 (F:Nat) (g_bits_Mul:YH) :Nat->Sl->Int->Hp->OA
 | 0,_,_,_=>none
 | xh+1,fd,gv,H33=>(bif (decide (gv<(fd.n:Int))) then ((Sl.cut fd 1 gv (fd.n:Int)).bind λs37=>(Sl.cut fd 1 0 gv).bind λs38=>(Hp.cpy H33 1 s37 s38).bind λc39=>aZ.l254 F g_bits_Mul xh fd (wrap .i64 (gv+(c39.1:Int))) c39.2) else (some ((.sl fd),H33)))
def aZ.j1 (g_bits_Mul:YH) (xi:Sl) (fE:Int) (H21:Hp):OA:=(Hp.mk H21 [.int .i64 0] 8 (wrap .i64 fE) (wrap .i64 fE)).bind λm22=>(Hp.cpy m22.2 1 m22.1 xi).bind λc23=>aZ.l254 F g_bits_Mul F m22.1 (c23.1:Int) c23.2
def aZ.j2 (g_bits_Mul:YH) (qg:Sl) (gw:Int) (H7:Hp):OA:=(g_bits_Mul (IntKind.u64.wrap (qg.n:Int)) (IntKind.u64.wrap gw) H7).bind λr8=>((r8.1).asTup 2).bind λl9=>(l9[0]?).bind λv10=>((v10).asI .u64).bind λn11=>(l9[1]?).bind λv12=>((v12).asI .u64).bind λn13=>(bif (decide (n11>0)) then (none) else ((bif (decide (n13>9223372036854775807)) then (none) else (aZ.j1 F g_bits_Mul qg n13 r8.2))))
def aZ.twX (g_bits_Mul:YH) (ac:Sl) (aI:Int) (H:Hp):OA:=(bif (decide (aI<0)) then (none) else (aZ.j2 F g_bits_Mul ac aI H))
def aZ.tw:=aZ.twX F (bits_Mul.tw F)
def aZ.lh254 (g_bits_Mul:YH) (ks:Yw) (n:Nat) (tm:Tm) (H:Hp):OA:=match ks,tm 7,tm 8 with
 | [],(.sl fd),(.int .i64 gv)=>aZ.l254 F g_bits_Mul n fd gv H
 | _,_,_=>none
def aZ.lh (g_bits_Mul:YH) (p:Nat) (ks:Yw) (n:Nat) (tm:Tm) (H:Hp):OA:=bif p.beq 254 then aZ.lh254 F g_bits_Mul ks n tm H else (none)
def aZ.pn:Nat->List Nat:=cT [(9,[7])]
def aZ.tb:Nat->List (List Nat):=cT [(9,[[],[],[],[1,2],[],[],[4,5],[1,2,3,4,5,6],[0,1,2,3,4,5,6,7],[0,1,2,3,4,5,6,7,8]])]
def aZ.cs (F:Nat) (g_bits_Mul:YH):Cs:=[(197,mk16 g_bits_Mul)]
theorem aZ.loops (g_bits_Mul:YH):LO (bp (aZ.cs F g_bits_Mul)) aZ.pn (aZ.lh F g_bits_Mul) F Try.f162:=
 (ae.rt (ae.rt (ae.rt (ae.rt (ae.rt (ae.rt (ae.lt (ae.block (ae.la (λn tm H r h=>by change aZ.lh254 F g_bits_Mul [] n tm H=_ at h;unfold aZ.lh254 at h;split at h;have e:bW tm [(7,_),(8,_)]:=⟨‹_›,‹_›,trivial⟩;obtain _ | k254:=n;cases h;exact ⟨_,rfl,by rw [<- ca e];exact Eq.trans (by kernel_rfl) h⟩;cases h) λk254=>ae.no)))))))))
theorem aZ.eqX (g_bits_Mul:YH) (ac:Sl) (aI:Int) (H:Hp):EX (bp (aZ.cs F g_bits_Mul)) aZ.pn (aZ.lh F g_bits_Mul) F Try.f162 [(.sl ac),(.int .i64 aI)] H=aZ.twX F g_bits_Mul ac aI H:=by kernel_rfl
theorem aZ.k:Ok Try.prog 162 (mk17 (aZ.tw F)):=by
 intro args H v H' h
 unfold mk17 at h
 split at h
 ·exact okT (TB:=aZ.tb) Try.func162 (aX (bits_Mul.k F) cj) (aZ.loops F (bits_Mul.tw F)) ((aZ.eqX F (bits_Mul.tw F) _ _ H).trans h) (by kernel_rfl)
 ·cases h
def aq.j7 (F:Nat) (bP:Yv) (bF:Yv) (aQ:Yv) (bQ:Yq) (bG:Yt) (C509_:YK) (PH:Sl) (PI:Sl) (oL:Int) (oM:Int) (H363:Hp):OA:=C509_ PH PI oL (wrap .i64 (oM+1)) H363
def aq.j8 (bP:Yv) (bF:Yv) (aQ:Yv) (bQ:Yq) (bG:Yt) (C509_:YK) (PJ:Sl) (PK:Sl) (oN:Int) (oO:Int) (H339:Hp):OA:=aq.j7 F bP bF aQ bQ bG C509_ PJ PK oN oO H339
def aq.j9 (F:Nat) (bP:Yv) (bF:Yv) (aQ:Yv) (bQ:Yq) (bG:Yt) (C16301_:Zq) (PL:Sl) (PM:Sl) (oP:Int) (oQ:Int) (oR:Int) (oS:Int) (H398:Hp):OA:=C16301_ PL PM oP oQ oR (wrap .i64 (oS+1)) H398
def aq.l16301 (F:Nat) (bP:Yv) (bF:Yv) (aQ:Yv) (bQ:Yq) (bG:Yt) (C509_:YK):Nat->Sl->Sl->Int->Int->Int->Int->Hp->OA
 | 0,_,_,_,_,_,_,_=>none
 | FX+1,lC,lD,gJ,gK,gL,dY,H280=>(bif (decide (dY<gL)) then ((Sl.idx lC dY 1).bind λp364=>(Hp.ldI H280 .i64 p364.1 p364.2).bind λn365=>(Sl.idx lD n365 1).bind λp366=>(Hp.ldI H280 .i64 p366.1 p366.2).bind λn367=>(bif (decide (n367>=0)) then ((Sl.idx lC (wrap .i64 ((wrap .i64 (dY - (Int.tmod dY 4)))+(Int.tmod (wrap .i64 (dY+1)) 4))) 1).bind λp368=>(Hp.ldI H280 .i64 p368.1 p368.2).bind λn369=>(Sl.idx lD n369 1).bind λp370=>(Hp.st H280 p370.1 p370.2 (.int .i64 (wrap .i64 (1 - n367)))).bind λH371=>aq.j9 F bP bF aQ bQ bG (aq.l16301 F bP bF aQ bQ bG C509_ FX) lC lD gJ gK gL dY H371) else (aq.j9 F bP bF aQ bQ bG (aq.l16301 F bP bF aQ bQ bG C509_ FX) lC lD gJ gK gL dY H280))) else (aq.j8 F bP bF aQ bQ bG C509_ lC lD gJ gK H280))
def aq.l509 (F:Nat) (bP:Yv) (bF:Yv) (aQ:Yv) (bQ:Yq) (bG:Yt) :Nat->Sl->Sl->Int->Int->Hp->OA
 | 0,_,_,_,_,_=>none
 | ij+1,ug,uh,iL,iM,H116=>(bif (decide (iM<iL)) then (aq.l16301 F bP bF aQ bQ bG (aq.l509 F bP bF aQ bQ bG ij) F ug uh iL iM (ug.n:Int) 0 H116) else (some ((.sl uh),H116)))
def aq.j10 (bP:Yv) (bF:Yv) (aQ:Yv) (bQ:Yq) (bG:Yt) (PO:Sl) (FY:Sl) (H96:Hp):OA:=aq.l509 F bP bF aQ bQ bG F PO FY (FY.n:Int) 0 H96
def aq.j11 (F:Nat) (bP:Yv) (bF:Yv) (aQ:Yv) (bQ:Yq) (bG:Yt) (C253_:Zr) (PP:Sl) (PQ:Sl) (PR:Sl) (PU:Sl) (oT:Int) (oU:Int) (H429:Hp):OA:=C253_ PP PQ PR PU oT (wrap .i64 (oU+1)) H429
def aq.l253 (F:Nat) (bP:Yv) (bF:Yv) (aQ:Yv) (bQ:Yq) (bG:Yt) :Nat->Sl->Sl->Sl->Sl->Int->Int->Hp->OA
 | 0,_,_,_,_,_,_,_=>none
 | pW+1,oV,oW,oX,qp,gM,ff,H47=>(bif (decide (ff<gM)) then ((Sl.idx qp ff 1).bind λp399=>(Hp.ldI H47 .i64 p399.1 p399.2).bind λn400=>(Sl.idx oX n400 1).bind λp401=>(Hp.ldB H47 p401.1 p401.2).bind λb402=>(bif (!b402) then ((Sl.idx oX n400 1).bind λp403=>(Hp.st H47 p403.1 p403.2 (.bool true)).bind λH404=>(Sl.idx oV (wrap .i64 (4 * ff)) 1).bind λp405=>(Hp.ldI H404 .i64 p405.1 p405.2).bind λn406=>(Sl.idx oW n406 1).bind λp407=>(Hp.st H404 p407.1 p407.2 (.int .i64 0)).bind λH408=>aq.j11 F bP bF aQ bQ bG (aq.l253 F bP bF aQ bQ bG pW) oV oW oX qp gM ff H408) else (aq.j11 F bP bF aQ bQ bG (aq.l253 F bP bF aQ bQ bG pW) oV oW oX qp gM ff H47))) else (aq.j10 F bP bF aQ bQ bG oV oW H47))
def aq.twX (bP:Yv) (bF:Yv) (aQ:Yv) (bQ:Yq) (bG:Yt) (ac:Sl) (ag:Int) (az:Sl) (bB:Sl) (H:Hp):OA:=(Hp.new H [(.sl ac),(.int .i64 ag)]).bind λH5=>(Hp.new H5 [(.sl az),(.sl bB)]).bind λH6=>(Hp.ldSl H6 H.length 0).bind λs7=>(Hp.ldI H6 .i64 H.length (0+1)).bind λn8=>(Hp.ldSl H6 H5.length 0).bind λs9=>(Hp.ldSl H6 H5.length (0+1)).bind λs10=>(bP s7 n8 s9 s10 H6).bind λr11=>((r11.1).asSl).bind λs12=>(Hp.ldSl r11.2 H.length 0).bind λs13=>(Hp.ldI r11.2 .i64 H.length (0+1)).bind λn14=>(Hp.ldSl r11.2 H5.length 0).bind λs15=>(Hp.ldSl r11.2 H5.length (0+1)).bind λs16=>(bF s13 n14 s15 s16 r11.2).bind λr17=>((r17.1).asSl).bind λs18=>(Hp.new r17.2 [(.int .i64 (-1))]).bind λH19=>(Hp.ldSl H19 H.length 0).bind λs20=>(Hp.ldI H19 .i64 H.length (0+1)).bind λn21=>(Hp.ldSl H19 H5.length 0).bind λs22=>(Hp.ldSl H19 H5.length (0+1)).bind λs23=>(aQ s20 n21 s22 s23 H19).bind λr24=>((r24.1).asSl).bind λs25=>(bQ (⟨some (r17.2.length,0),1,.ex 1⟩:Sl) (s25.n:Int) r24.2).bind λr26=>((r26.1).asSl).bind λs27=>(bG s18 r26.2).bind λr28=>((r28.1).asI .i64).bind λn29=>(Hp.mk r28.2 [.bool false] 1 n29 n29).bind λm30=>aq.l253 F bP bF aQ bQ bG F s12 s27 m30.1 s18 (s18.n:Int) 0 m30.2
def aq.tw:=aq.twX F (aF.tw F) (a_.tw F) (aw.tw F) (aZ.tw F) (cl.tw F)
def aq.lh253 (bP:Yv) (bF:Yv) (aQ:Yv) (bQ:Yq) (bG:Yt) (ks:Yw) (n:Nat) (tm:Tm) (H:Hp):OA:=match ks,tm 5,tm 7,tm 8,tm 28,tm 29,tm 30 with
 | [],(.sl oV),(.sl oW),(.sl oX),(.sl qp),(.int .i64 gM),(.int .i64 ff)=>aq.l253 F bP bF aQ bQ bG n oV oW oX qp gM ff H
 | _,_,_,_,_,_,_=>none
def aq.lh509 (bP:Yv) (bF:Yv) (aQ:Yv) (bQ:Yq) (bG:Yt) (ks:Yw) (n:Nat) (tm:Tm) (H:Hp):OA:=match ks,tm 5,tm 7,tm 52,tm 53 with
 | [],(.sl ug),(.sl uh),(.int .i64 iL),(.int .i64 iM)=>aq.l509 F bP bF aQ bQ bG n ug uh iL iM H
 | _,_,_,_,_=>none
def aq.lh16301 (bP:Yv) (bF:Yv) (aQ:Yv) (bQ:Yq) (bG:Yt) (ks:Yw) (n:Nat) (tm:Tm) (H:Hp):OA:=match ks,tm 5,tm 7,tm 52,tm 53,tm 56,tm 57 with
 | [ij],(.sl lC),(.sl lD),(.int .i64 gJ),(.int .i64 gK),(.int .i64 gL),(.int .i64 dY)=>aq.l16301 F bP bF aQ bQ bG (aq.l509 F bP bF aQ bQ bG ij) n lC lD gJ gK gL dY H
 | _,_,_,_,_,_,_=>none
def aq.lh (bP:Yv) (bF:Yv) (aQ:Yv) (bQ:Yq) (bG:Yt) (p:Nat) (ks:Yw) (n:Nat) (tm:Tm) (H:Hp):OA:=bif p.beq 16301 then aq.lh16301 F bP bF aQ bQ bG ks n tm H else (bif p.beq 509 then aq.lh509 F bP bF aQ bQ bG ks n tm H else (bif p.beq 253 then aq.lh253 F bP bF aQ bQ bG ks n tm H else (none)))
def aq.cs (F:Nat) (bP:Yv) (bF:Yv) (aQ:Yv) (bQ:Yq) (bG:Yt):Cs:=[(161,mk19 bP),(159,mk19 bF),(104,mk19 aQ),(162,mk17 bQ),(131,mk0 bG)]
theorem aq.loops (bP:Yv) (bF:Yv) (aQ:Yv) (bQ:Yq) (bG:Yt):LO (bp (aq.cs F bP bF aQ bQ bG)) bm (aq.lh F bP bF aQ bQ bG) F Try.f105:=
 (ae.rt (ae.rt (ae.rt (ae.rt (ae.rt (ae.seq (ae.rt (ae.block (ae.la (λn tm H r h=>by change aq.lh253 F bP bF aQ bQ bG [] n tm H=_ at h;unfold aq.lh253 at h;split at h;have e:bW tm [(5,_),(7,_),(8,_),(28,_),(29,_),(30,_)]:=⟨‹_›,‹_›,‹_›,‹_›,‹_›,‹_›,trivial⟩;obtain _ | k253:=n;cases h;exact ⟨_,rfl,by rw [<- ca e];exact Eq.trans (by kernel_rfl) h⟩;cases h) λk253=>ae.no))) (ae.lt (ae.rt (ae.block (ae.la (λn tm H r h=>by change aq.lh509 F bP bF aQ bQ bG [] n tm H=_ at h;unfold aq.lh509 at h;split at h;have e:bW tm [(5,_),(7,_),(52,_),(53,_)]:=⟨‹_›,‹_›,‹_›,‹_›,trivial⟩;obtain _ | k509:=n;cases h;exact ⟨_,rfl,by rw [<- ca e];exact Eq.trans (by kernel_rfl) h⟩;cases h) λk509=>(ae.rt (ae.rt (ae.lt (ae.block (ae.rt (ae.block (ae.la (λn tm H r h=>by change aq.lh16301 F bP bF aQ bQ bG [k509] n tm H=_ at h;unfold aq.lh16301 at h;split at h;have e:bW tm [(5,_),(7,_),(52,_),(53,_),(56,_),(57,_)]:=⟨‹_›,‹_›,‹_›,‹_›,‹_›,‹_›,trivial⟩;cases (show [k509]=_ from ‹_›);obtain _ | k16301:=n;cases h;exact ⟨_,rfl,by rw [<- ca e];exact Eq.trans (by kernel_rfl) h⟩;cases h) λk16301=>ae.no)))))))))))))))))
theorem aq.eqX (bP:Yv) (bF:Yv) (aQ:Yv) (bQ:Yq) (bG:Yt) (ac:Sl) (ag:Int) (az:Sl) (bB:Sl) (H:Hp):EX (bp (aq.cs F bP bF aQ bQ bG)) bm (aq.lh F bP bF aQ bQ bG) F Try.f105 [(.agg [(.sl ac),(.int .i64 ag)]),(.agg [(.sl az),(.sl bB)])] H=aq.twX F bP bF aQ bQ bG ac ag az bB H:=by kernel_rfl
theorem aq.k:Ok Try.prog 105 (mk19 (aq.tw F)):=by
 intro args H v H' h
 unfold mk19 at h
 split at h
 ·exact okT (TB:=bm) Try.func105 (aX (aF.k F) (aX (a_.k F) (aX (aw.k F) (aX (aZ.k F) (aX (cl.k F) cj))))) (aq.loops F (aF.tw F) (a_.tw F) (aw.tw F) (aZ.tw F) (cl.tw F)) ((aq.eqX F (aF.tw F) (a_.tw F) (aw.tw F) (aZ.tw F) (cl.tw F) _ _ _ _ H).trans h) (by kernel_rfl)
 ·cases h
def cO.twX (F:Nat) (gH:Yq) (oY:Yv) (ac:Sl) (ag:Int) (H:Hp):OA:=(Hp.new H [(.sl ac),(.int .i64 ag)]).bind λH3=>(Hp.ldSl H3 H.length 0).bind λs4=>(Hp.ldI H3 .i64 H.length (0+1)).bind λn5=>(gH s4 n5 H3).bind λr6=>((r6.1).asTup 2).bind λl7=>(l7[0]?).bind λv8=>((v8).asAgg 2).bind λl9=>(l9[0]?).bind λv10=>((v10).asSl).bind λs11=>(l9[1]?).bind λv12=>((v12).asSl).bind λs13=>(l7[1]?).bind λv14=>((v14).asB).bind λb15=>(Hp.new r6.2 [.sl ⟨none,0,.ex 0⟩,.sl ⟨none,0,.ex 0⟩]).bind λH16=>(Hp.st H16 r6.2.length 0 (.sl s11)).bind λH17=>(Hp.st H17 r6.2.length (0+1) (.sl s13)).bind λH18=>(bif (!b15) then (some ((.tup [(.sl (⟨none,0,.ex 0⟩:Sl)),(.bool false)]),H18)) else ((Hp.ldSl H18 H.length 0).bind λs19=>(Hp.ldI H18 .i64 H.length (0+1)).bind λn20=>(Hp.ldSl H18 r6.2.length 0).bind λs21=>(Hp.ldSl H18 r6.2.length (0+1)).bind λs22=>(oY s19 n20 s21 s22 H18).bind λr23=>((r23.1).asSl).bind λs24=>some ((.tup [(.sl s24),(.bool true)]),r23.2)))
def cO.tw:=cO.twX F (ck.tw F) (aq.tw F)
def cO.cs (F:Nat) (gH:Yq) (oY:Yv):Cs:=[(103,mk8 gH),(105,mk19 oY)]
theorem cO.eqX (gH:Yq) (oY:Yv) (ac:Sl) (ag:Int) (H:Hp):EX (bp (cO.cs F gH oY)) bm lh0 F Try.f46 [(.agg [(.sl ac),(.int .i64 ag)])] H=cO.twX F gH oY ac ag H:=by kernel_rfl
theorem cO.k:Ok Try.prog 46 (mk8 (cO.tw F)):=by
 intro args H v H' h
 unfold mk8 at h
 split at h
 ·exact okT (TB:=bm) Try.func46 (aX (ck.k F) (aX (aq.k F) cj)) ae.no ((cO.eqX F (ck.tw F) (aq.tw F) _ _ H).trans h) (by kernel_rfl)
 ·cases h
def av.j3 (F:Nat) (cb:Yt) (cf:Yt) (cg:Yq) (ch:Yq) (bk:Yq) (PW:Sl) (oZ:Int) (H170:Hp):OA:=some ((.bool (oZ==(PW.n:Int))),H170)
def av.l8189 (F:Nat) (cb:Yt) (cf:Yt) (cg:Yq) (ch:Yq) (bk:Yq) :Nat->Sl->Int->Int->Hp->OA
 | 0,_,_,_,_=>none
 | PX+1,lE,iN,fg,H149=>(bif (decide (fg<(lE.n:Int))) then ((Sl.idx lE fg 1).bind λp171=>(Hp.ldI H149 .i64 p171.1 p171.2).bind λn172=>(Sl.idx lE (wrap .i64 ((wrap .i64 ((wrap .i64 (Int.tdiv fg 4)) * 4))+(Int.tmod (wrap .i64 (fg+1)) 4))) 1).bind λp173=>(Hp.ldI H149 .i64 p173.1 p173.2).bind λn174=>(bif ((wrap .i64 (n172+n174)) != 3) then (some ((.bool false),H149)) else (av.l8189 F cb cf cg ch bk PX lE iN (wrap .i64 (fg+1)) H149))) else (av.j3 F cb cf cg ch bk lE iN H149))
def av.j4 (cb:Yt) (cf:Yt) (cg:Yq) (ch:Yq) (bk:Yq) (PY:Sl) (gl:Int) (H133:Hp):OA:=av.l8189 F cb cf cg ch bk F PY gl 0 H133
def av.j5 (F:Nat) (cb:Yt) (cf:Yt) (cg:Yq) (ch:Yq) (bk:Yq) (C4093_:Za) (PZ:Sl) (P_:Sl) (Qa:Sl) (o_:Int) (pa:Int) (H236:Hp):OA:=C4093_ PZ P_ Qa o_ (wrap .i64 (pa+1)) H236
def av.j6 (cb:Yt) (cf:Yt) (cg:Yq) (ch:Yq) (bk:Yq) (C4093_:Za) (Qb:Sl) (Qc:Sl) (Qd:Sl) (pb:Int) (pc:Int) (H219:Hp):OA:=av.j5 F cb cf cg ch bk C4093_ Qb Qc Qd pb pc H219
def av.l65493 (F:Nat) (cb:Yt) (cf:Yt) (cg:Yq) (ch:Yq) (bk:Yq) (C4093_:Za):Nat->Sl->Sl->Sl->Int->Int->Int->Hp->OA
 | 0,_,_,_,_,_,_,_=>none
 | Qe+1,pd,qq,lF,iO,fh,gN,H190=>(Sl.idx pd fh 1).bind λp237=>(Hp.ldSl H190 p237.1 p237.2).bind λs238=>(bif (decide (gN<(s238.n:Int))) then ((Sl.idx pd fh 1).bind λp239=>(Hp.ldSl H190 p239.1 p239.2).bind λs240=>(Sl.idx s240 gN 1).bind λp241=>(Hp.ldI H190 .i64 p241.1 p241.2).bind λn242=>(bif (decide (n242<0)) then (some ((.bool false),H190)) else ((bif (decide (n242>=(lF.n:Int))) then (some ((.bool false),H190)) else ((Sl.idx lF n242 1).bind λp243=>(Hp.ldI H190 .i64 p243.1 p243.2).bind λn244=>(bif (n244 != 0) then (some ((.bool false),H190)) else ((Sl.idx qq fh 1).bind λp245=>(Hp.ldI H190 .i64 p245.1 p245.2).bind λn246=>(Sl.idx lF n242 1).bind λp247=>(Hp.st H190 p247.1 p247.2 (.int .i64 (wrap .i64 (n246+1)))).bind λH248=>av.l65493 F cb cf cg ch bk C4093_ Qe pd qq lF (wrap .i64 (iO+1)) fh (wrap .i64 (gN+1)) H248))))))) else (av.j6 F cb cf cg ch bk C4093_ pd qq lF iO fh H190))
def av.l4093 (F:Nat) (cb:Yt) (cf:Yt) (cg:Yq) (ch:Yq) (bk:Yq) :Nat->Sl->Sl->Sl->Int->Int->Hp->OA
 | 0,_,_,_,_,_,_=>none
 | xk+1,ui,xl,uj,iQ,iS,H44=>(bif (decide (iS<(ui.n:Int))) then (av.l65493 F cb cf cg ch bk (av.l4093 F cb cf cg ch bk xk) F ui xl uj iQ iS 0 H44) else (av.j4 F cb cf cg ch bk uj iQ H44))
def av.twX (cb:Yt) (cf:Yt) (cg:Yq) (ch:Yq) (bk:Yq) (ac:Sl) (H:Hp):OA:=(cb ac H).bind λr2=>((r2.1).asB).bind λb3=>(bif b3 then (some ((.bool true),r2.2)) else ((cf ac r2.2).bind λr4=>((r4.1).asAgg 2).bind λl5=>(l5[0]?).bind λv6=>((v6).asSl).bind λs7=>(l5[1]?).bind λv8=>((v8).asI .i64).bind λn9=>(Hp.new r4.2 [.sl ⟨none,0,.ex 0⟩,.int .i64 0]).bind λH10=>(Hp.st H10 r4.2.length 0 (.sl s7)).bind λH11=>(Hp.st H11 r4.2.length (0+1) (.int .i64 n9)).bind λH12=>(Hp.ldSl H12 r4.2.length 0).bind λs13=>(Hp.ldI H12 .i64 r4.2.length (0+1)).bind λn14=>(cg s13 n14 H12).bind λr15=>((r15.1).asSl).bind λs16=>(Hp.ldSl r15.2 r4.2.length 0).bind λs17=>(Hp.ldI r15.2 .i64 r4.2.length (0+1)).bind λn18=>(ch s17 n18 r15.2).bind λr19=>((r19.1).asTup 2).bind λl20=>(l20[0]?).bind λv21=>((v21).asSl).bind λs22=>(l20[1]?).bind λv23=>((v23).asB).bind λb24=>(Hp.ldSl r19.2 r4.2.length 0).bind λs25=>(Hp.ldI r19.2 .i64 r4.2.length (0+1)).bind λn26=>(bk s25 n26 r19.2).bind λr27=>((r27.1).asB).bind λb28=>(bif (!b28) then ((bif (!b24) then (some ((.bool ((s16.n:Int)==0)),r27.2)) else (some ((.bool false),r27.2)))) else ((bif (!b24) then (some ((.bool false),r27.2)) else ((bif ((s22.n:Int) != (s16.n:Int)) then (some ((.bool false),r27.2)) else ((Hp.ldSl r27.2 r4.2.length 0).bind λs29=>(Hp.mk r27.2 [.int .i64 0] 8 (wrap .i64 (4 * (s29.n:Int))) (wrap .i64 (4 * (s29.n:Int)))).bind λm30=>av.l4093 F cb cf cg ch bk F s16 s22 m30.1 0 0 m30.2))))))))
def av.tw:=av.twX F (di.tw F) (cJ.tw F) (cN.tw F) (cO.tw F) (bL.tw F)
def av.lh4093 (cb:Yt) (cf:Yt) (cg:Yq) (ch:Yq) (bk:Yq) (ks:Yw) (n:Nat) (tm:Tm) (H:Hp):OA:=match ks,tm 4,tm 5,tm 7,tm 8,tm 9 with
 | [],(.sl ui),(.sl xl),(.sl uj),(.int .i64 iQ),(.int .i64 iS)=>av.l4093 F cb cf cg ch bk n ui xl uj iQ iS H
 | _,_,_,_,_,_=>none
def av.lh8189 (cb:Yt) (cf:Yt) (cg:Yq) (ch:Yq) (bk:Yq) (ks:Yw) (n:Nat) (tm:Tm) (H:Hp):OA:=match ks,tm 7,tm 8,tm 12 with
 | [],(.sl lE),(.int .i64 iN),(.int .i64 fg)=>av.l8189 F cb cf cg ch bk n lE iN fg H
 | _,_,_,_=>none
def av.lh65493 (cb:Yt) (cf:Yt) (cg:Yq) (ch:Yq) (bk:Yq) (ks:Yw) (n:Nat) (tm:Tm) (H:Hp):OA:=match ks,tm 4,tm 5,tm 7,tm 8,tm 9,tm 10 with
 | [xk],(.sl pd),(.sl qq),(.sl lF),(.int .i64 iO),(.int .i64 fh),(.int .i64 gN)=>av.l65493 F cb cf cg ch bk (av.l4093 F cb cf cg ch bk xk) n pd qq lF iO fh gN H
 | _,_,_,_,_,_,_=>none
def av.lh (cb:Yt) (cf:Yt) (cg:Yq) (ch:Yq) (bk:Yq) (p:Nat) (ks:Yw) (n:Nat) (tm:Tm) (H:Hp):OA:=bif p.beq 65493 then av.lh65493 F cb cf cg ch bk ks n tm H else (bif p.beq 8189 then av.lh8189 F cb cf cg ch bk ks n tm H else (bif p.beq 4093 then av.lh4093 F cb cf cg ch bk ks n tm H else (none)))
def av.tb:Nat->List (List Nat):=cT [(27,[[],[],[0,1],[0,1,2],[],[],[4,5],[4,5,6],[0,1,2,3,4,5,6,7],[0,1,2,3,4,5,6,7,8]])]
def av.cs (F:Nat) (cb:Yt) (cf:Yt) (cg:Yq) (ch:Yq) (bk:Yq):Cs:=[(43,mk0 cb),(44,mk0 cf),(45,mk8 cg),(46,mk8 ch),(47,mk8 bk)]
theorem av.loops (cb:Yt) (cf:Yt) (cg:Yq) (ch:Yq) (bk:Yq):LO (bp (av.cs F cb cf cg ch bk)) bm (av.lh F cb cf cg ch bk) F Try.f8:=
 (ae.rt (ae.rt (ae.rt (ae.rt (ae.rt (ae.rt (ae.rt (ae.rt (ae.rt (ae.seq (ae.rt (ae.block (ae.la (λn tm H r h=>by change av.lh4093 F cb cf cg ch bk [] n tm H=_ at h;unfold av.lh4093 at h;split at h;have e:bW tm [(4,_),(5,_),(7,_),(8,_),(9,_)]:=⟨‹_›,‹_›,‹_›,‹_›,‹_›,trivial⟩;obtain _ | k4093:=n;cases h;exact ⟨_,rfl,by rw [<- ca e];exact Eq.trans (by kernel_rfl) h⟩;cases h) λk4093=>(ae.rt (ae.lt (ae.block (ae.rt (ae.block (ae.la (λn tm H r h=>by change av.lh65493 F cb cf cg ch bk [k4093] n tm H=_ at h;unfold av.lh65493 at h;split at h;have e:bW tm [(4,_),(5,_),(7,_),(8,_),(9,_),(10,_)]:=⟨‹_›,‹_›,‹_›,‹_›,‹_›,‹_›,trivial⟩;cases (show [k4093]=_ from ‹_›);obtain _ | k65493:=n;cases h;exact ⟨_,rfl,by rw [<- ca e];exact Eq.trans (by kernel_rfl) h⟩;cases h) λk65493=>ae.no))))))))) (ae.lt (ae.rt (ae.block (ae.la (λn tm H r h=>by change av.lh8189 F cb cf cg ch bk [] n tm H=_ at h;unfold av.lh8189 at h;split at h;have e:bW tm [(7,_),(8,_),(12,_)]:=⟨‹_›,‹_›,‹_›,trivial⟩;obtain _ | k8189:=n;cases h;exact ⟨_,rfl,by rw [<- ca e];exact Eq.trans (by kernel_rfl) h⟩;cases h) λk8189=>ae.no))))))))))))))
theorem av.eqX (cb:Yt) (cf:Yt) (cg:Yq) (ch:Yq) (bk:Yq) (ac:Sl) (H:Hp):EX (bp (av.cs F cb cf cg ch bk)) bm (av.lh F cb cf cg ch bk) F Try.f8 [(.sl ac)] H=av.twX F cb cf cg ch bk ac H:=by kernel_rfl
theorem av.k:Ok Try.prog 8 (mk0 (av.tw F)):=by
 intro args H v H' h
 unfold mk0 at h
 split at h
 ·exact okT (TB:=av.tb) Try.func8 (aX (di.k F) (aX (cJ.k F) (aX (cN.k F) (aX (cO.k F) (aX (bL.k F) cj))))) (av.loops F (di.tw F) (cJ.tw F) (cN.tw F) (cO.tw F) (bL.tw F)) ((av.eqX F (di.tw F) (cJ.tw F) (cN.tw F) (cO.tw F) (bL.tw F) _ H).trans h) (by kernel_rfl)
 ·cases h
theorem av.T {F:Nat} {ac:Sl} {H:Hp} {v:AV} {H':Hp} (h:av.tw F ac H=some (v,H')):Go.AE.T Try.prog 8 [(.sl ac)] H v H':=av.k F _ _ _ _ ((mk0_E (av.tw F) ac H).trans h)
end
end Go.Proofs.Ytodfdhnlhiaohaa.AE
