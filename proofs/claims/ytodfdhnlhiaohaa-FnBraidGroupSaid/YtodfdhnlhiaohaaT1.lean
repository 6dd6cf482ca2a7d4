import Derived.Test.YtodfdhnlhiaohaaTab1
import Derived.Test.YtodfdhnlhiaohaaE2
set_option linter.unusedVariables false
set_option linter.unusedSimpArgs false
namespace Go.Proofs.Ytodfdhnlhiaohaa.AE
open Go Go.AE Go.Proofs Go.RowKit Go.Maps IntKind
variable (F:Nat)
set_option linter.unusedVariables false
set_option maxHeartbeats 4000000
set_option maxRecDepth 100000
noncomputable section
def eE.twX (F:Nat) (aa:Sl) (H:Hp):OA:=some ((.bool (decide ((aa.n:Int)>4096))),H)
def eE.tw:=eE.twX F
def mk0 (g:VG) (args:VS) (H:Hp):OA:=match args with
 | [(.sl aa)]=>g aa H
 | _=>none
theorem mk0_E (g:VG) (aa:Sl) (H:Hp):mk0 g [(.sl aa)] H=g aa H:=rfl
theorem eE.k:Ok Try.prog 43 (mk0 (eE.tw F)):=by
 intro args H v H' h
 unfold mk0 at h
 split at h
 ·exact ok0 Try.func43 (Eq.trans (by kernel_rfl) h) (by kernel_rfl) (by kernel_rfl)
 ·cases h
def bR.l29 (F:Nat) :Nat->Sl->Nat->Nat->Int->Hp->OA
 | 0,_,_,_,_,_=>none
 | bB+1,bz,cP,cn,bu,H7=>(bif (decide (bu<(bz.n:Int))) then ((bif (decide (bu<64)) then ((Hp.ldI H7 .i64 cP (cn+2)).bind λn12=>(Sl.idx bz bu 1).bind λp13=>(Hp.ldI H7 .u8 p13.1 p13.2).bind λn14=>(Hp.st H7 cP (cn+2) (.int .i64 (Int.tmod (wrap .i64 ((wrap .i64 (n12 * 37))+(wrap .i64 n14))) 2147483647))).bind λH15=>bR.l29 F bB bz cP cn (wrap .i64 (bu+1)) H15) else (some ((.ptr cP cn),H7)))) else (some ((.ptr cP cn),H7)))
termination_by structural n=>n
def bR.twX (aa:Sl) (H:Hp):OA:=(Hp.new H [(.sl aa),(.int .i64 0),(.int .i64 97531)]).bind λH2=>bR.l29 F F aa H.length 0 0 H2
def bR.tw:=bR.twX F
def bR.lh29 (ks:VM) (n:Nat) (tm:Tm) (H:Hp):OA:=match ks,tm 0,tm 2,tm 3,tm 4 with
 | [],(.sl bz),.nilp,(.ptr cP cn),(.int .i64 bu)=>bR.l29 F n bz cP cn bu H
 | _,_,_,_,_=>none
def bR.lh (p:Nat) (ks:VM) (n:Nat) (tm:Tm) (H:Hp):OA:=bif p.beq 29 then bR.lh29 F ks n tm H else (none)
def bR.pn:Nat->List Nat:=cG [(5,[15])]
def bR.tb:Nat->List (List Nat):=cG [(5,[[],[],[1],[1,2],[1,2,3],[1,2,3,4],[],[],[6,7],[6,7,8],[6,7,8,9],[1,2,3,4,5,6,7,8,9,10],[1,2,3,4,5,6,7,8,9,10,11],[0,1,2,3,4,5,6,7,8,9,10,11,12],[0,1,2,3,4,5,6,7,8,9,10,11,12,13],[0,1,2,3,4,5,6,7,8,9,10,11,12,13,14]])]
theorem bR.loops:LO (bw []) bR.pn (bR.lh F) F Try.f102:=
 (af.rt (af.rt (af.lt (af.rt (af.block (af.la (λn tm H r h=>by change bR.lh29 F [] n tm H=_ at h;unfold bR.lh29 at h;split at h;have e:cR tm [(0,_),(2,_),(3,_),(4,_)]:=⟨‹_›,‹_›,‹_›,‹_›,trivial⟩;obtain _ | k29:=n;cases h;exact ⟨_,rfl,by rw [<- cS e];exact Eq.trans (by kernel_rfl) h⟩;cases h) λk29=>af.no))))))
theorem bR.k:Ok Try.prog 102 (mk0 (bR.tw F)):=by
 intro args H v H' h
 unfold mk0 at h
 split at h
 ·exact okT (PN:=bR.pn) (LH:=(bR.lh F)) (F:=F) (TB:=bR.tb) Try.func102 cw (bR.loops F) (Eq.trans (by kernel_rfl) h) (by kernel_rfl)
 ·cases h
def aD.j1 (F:Nat) (jy:Int) (kR:Int) (H37:Hp):OA:=(if jy=0 then none else (some ((.int .i64 (Int.tmod kR jy)),H37)))
def aD.j2 (kS:Int) (kT:Int) (H28:Hp):OA:=aD.j1 F kS kT H28
def aD.j3 (F:Nat) (jz:Int) (kU:Int) (H45:Hp):OA:=(if jz=0 then none else (some ((.int .i64 (Int.tmod kU jz)),H45)))
def aD.twX (aa:Nat) (aF:Nat) (aC:Int) (H:Hp):OA:=(bif (decide (aC<=1)) then (some ((.int .i64 0),H)) else ((Hp.ldI H .i64 aa (aF+2)).bind λn4=>(Hp.st H aa (aF+2) (.int .i64 (Int.tmod (wrap .i64 ((wrap .i64 (n4 * 48271))+11)) 2147483647))).bind λH5=>(Hp.ldI H5 .i64 aa (aF+2)).bind λn6=>(Hp.ldI H5 .i64 aa (aF+1)).bind λn7=>(Hp.ldSl H5 aa aF).bind λs8=>(bif (decide (n7<(s8.n:Int))) then ((Hp.ldSl H5 aa aF).bind λs9=>(Hp.ldI H5 .i64 aa (aF+1)).bind λn10=>(Sl.idx s9 n10 1).bind λp11=>(Hp.ldI H5 .u8 p11.1 p11.2).bind λn12=>(Hp.ldI H5 .i64 aa (aF+1)).bind λn13=>(Hp.st H5 aa (aF+1) (.int .i64 (wrap .i64 (n13+1)))).bind λH14=>(bif (decide (aC<=256)) then ((Hp.ldI H14 .i64 aa (aF+1)).bind λn15=>(bif ((Int.tmod n15 2)==0) then ((Hp.ldSl H14 aa aF).bind λs16=>(Hp.ldI H14 .i64 aa (aF+1)).bind λn17=>(Sl.idx s16 (wrap .i64 (n17 - 1)) 1).bind λp18=>(Hp.ldI H14 .u8 p18.1 p18.2).bind λn19=>aD.j2 F aC (wrap .i64 n19) H14) else (aD.j2 F aC (wrap .i64 ((wrap .i64 (Int.tdiv n6 11))+(wrap .i64 n12))) H14))) else (aD.j1 F aC (wrap .i64 ((wrap .i64 (Int.tdiv n6 11))+(wrap .i64 n12))) H14))) else (aD.j3 F aC (wrap .i64 (Int.tdiv n6 11)) H5))))
def aD.tw:=aD.twX F
def aD.tb:Nat->List (List Nat):=cG [(5,[[],[0],[0,1],[0,1,2],[],[4],[4,5],[4,5,6],[4,5,6,7],[0,1,2,3,4,5,6,7,8]]),(6,[[],[],[1],[1,2],[1,2,3],[],[5],[5,6],[5,6,7],[1,2,3,4,5,6,7,8],[1,2,3,4,5,6,7,8,9],[1,2,3,4,5,6,7,8,9,10],[0,1,2,3,4,5,6,7,8,9,10,11],[0,1,2,3,4,5,6,7,8,9,10,11,12]]),(9,[[],[0],[0,1],[0,1,2],[],[4],[4,5],[4,5,6],[4,5,6,7],[0,1,2,3,4,5,6,7,8],[0,1,2,3,4,5,6,7,8,9],[0,1,2,3,4,5,6,7,8,9,10],[0,1,2,3,4,5,6,7,8,9,10,11]])]
def mk1 (g:VL) (args:VS) (H:Hp):OA:=match args with
 | [(.ptr aa aF),(.int .i64 aC)]=>g aa aF aC H
 | _=>none
theorem mk1_E (g:VL) (aa:Nat) (aF:Nat) (aC:Int) (H:Hp):mk1 g [(.ptr aa aF),(.int .i64 aC)] H=g aa aF aC H:=rfl
theorem aD.k:Ok Try.prog 121 (mk1 (aD.tw F)):=by
 intro args H v H' h
 unfold mk1 at h
 split at h
 ·exact okT (PN:=bk) (LH:=lh0) (F:=F) (TB:=aD.tb) Try.func121 cw af.no (Eq.trans (by kernel_rfl) h) (by kernel_rfl)
 ·cases h
def aN.j2 (F:Nat) (aw:VL) (C61_:Wo) (IV:Nat) (uN:Nat) (pJ:Nat) (IW:Nat) (kV:Nat) (uO:Nat) (kW:Int) (jA:Int) (H90:Hp):OA:=(Hp.ldSl H90 kV (uO+1)).bind λs91=>(Hp.new H90 [(.int .i64 jA)]).bind λH92=>(Sl.row H92 (⟨some (H90.length,0),1,.ex 1⟩:Sl) 1).bind λxs94=>(Hp.app H92 1 8 s91 (⟨some (H90.length,0),1,.ex 1⟩:Sl).n xs94).bind λa93=>(Hp.st a93.2 kV (uO+1) (.sl a93.1)).bind λH95=>C61_ IV uN pJ IW kV uO (wrap .i64 (kW - 1)) H95
def aN.l61 (F:Nat) (aw:VL) :Nat->Nat->Nat->Nat->Nat->Nat->Nat->Int->Hp->OA
 | 0,_,_,_,_,_,_,_,_=>none
 | jB+1,kX,kY,fG,gY,gm,iK,gD,H35=>(bif (decide (gD>0)) then ((Hp.ldI H35 .i64 gm iK).bind λn72=>(bif (decide (n72>1)) then ((Hp.ldI H35 .i64 gm iK).bind λn73=>(aw kX kY (wrap .i64 (n73 - 1)) H35).bind λr74=>((r74.1).asI .i64).bind λn75=>(aw kX kY 2 r74.2).bind λr76=>((r76.1).asI .i64).bind λn77=>(bif (n77==0) then (aN.j2 F aw (aN.l61 F aw jB) kX kY fG gY gm iK gD (wrap .i64 (0 - (wrap .i64 (1+n75)))) r76.2) else (aN.j2 F aw (aN.l61 F aw jB) kX kY fG gY gm iK gD (wrap .i64 (1+n75)) r76.2))) else ((Hp.ldI H35 .i64 gm iK).bind λn96=>(Hp.ldSl H35 gm (iK+1)).bind λs97=>(Hp.st H35 fG gY (.int .i64 n96)).bind λH98=>(Hp.st H98 fG (gY+1) (.sl s97)).bind λH99=>(Hp.ldI H99 .i64 fG gY).bind λn100=>(Hp.ldSl H99 fG (gY+1)).bind λs101=>some ((.agg [(.int .i64 n100),(.sl s101)]),H99)))) else ((Hp.ldI H35 .i64 gm iK).bind λn102=>(Hp.ldSl H35 gm (iK+1)).bind λs103=>(Hp.st H35 fG gY (.int .i64 n102)).bind λH104=>(Hp.st H104 fG (gY+1) (.sl s103)).bind λH105=>(Hp.ldI H105 .i64 fG gY).bind λn106=>(Hp.ldSl H105 fG (gY+1)).bind λs107=>some ((.agg [(.int .i64 n106),(.sl s107)]),H105)))
termination_by structural n=>n
def aN.j3 (aw:VL) (z_:Nat) (Aa:Nat) (kZ:Int) (pK:Nat) (IX:Nat) (pL:Nat) (IY:Nat) (H23:Hp):OA:=(aw z_ Aa (wrap .i64 (kZ+1)) H23).bind λr24=>((r24.1).asI .i64).bind λn25=>aN.l61 F aw F z_ Aa pK IX pL IY n25 r24.2
def aN.twX (aw:VL) (aa:Nat) (aF:Nat) (aC:Int) (H:Hp):OA:=(Hp.new H [.int .i64 0,.sl ⟨none,0,.ex 0⟩]).bind λH4=>(aw aa aF 3 H4).bind λr5=>((r5.1).asI .i64).bind λn6=>(Hp.new r5.2 [.int .i64 0,.sl ⟨none,0,.ex 0⟩]).bind λH7=>(Hp.st H7 r5.2.length 0 (.int .i64 (wrap .i64 (2+n6)))).bind λH8=>(Hp.st H8 r5.2.length (0+1) (.sl (⟨none,0,.ex 0⟩:Sl))).bind λH9=>(aw aa aF 8 H9).bind λr10=>((r10.1).asI .i64).bind λn11=>(bif (n11==0) then ((aw aa aF 6 r10.2).bind λr12=>((r12.1).asI .i64).bind λn13=>(Hp.st r12.2 r5.2.length 0 (.int .i64 (wrap .i64 (1+n13)))).bind λH14=>aN.j3 F aw aa aF aC H.length 0 r5.2.length 0 H14) else (aN.j3 F aw aa aF aC H.length 0 r5.2.length 0 r10.2))
def aN.tw:=aN.twX F (aD.tw F)
def aN.lh61 (aw:VL) (ks:VM) (n:Nat) (tm:Tm) (H:Hp):OA:=match ks,tm 0,tm 4,tm 5,tm 6 with
 | [],(.ptr kX kY),(.ptr fG gY),(.ptr gm iK),(.int .i64 gD)=>aN.l61 F aw n kX kY fG gY gm iK gD H
 | _,_,_,_,_=>none
def aN.lh (aw:VL) (p:Nat) (ks:VM) (n:Nat) (tm:Tm) (H:Hp):OA:=bif p.beq 61 then aN.lh61 F aw ks n tm H else (none)
def aN.cs (F:Nat) (aw:VL):Cs:=[(121,mk1 aw)]
theorem aN.loops (aw:VL):LO (bw (aN.cs F aw)) bk (aN.lh F aw) F Try.f120:=
 (af.rt (af.rt (af.rt (af.lt (af.rt (af.block (af.la (λn tm H r h=>by change aN.lh61 F aw [] n tm H=_ at h;unfold aN.lh61 at h;split at h;have e:cR tm [(0,_),(4,_),(5,_),(6,_)]:=⟨‹_›,‹_›,‹_›,‹_›,trivial⟩;obtain _ | k61:=n;cases h;exact ⟨_,rfl,by rw [<- cS e];exact Eq.trans (by kernel_rfl) h⟩;cases h) λk61=>af.no)))))))
theorem aN.eqX (aw:VL) (aa:Nat) (aF:Nat) (aC:Int) (H:Hp):EX (bw (aN.cs F aw)) bk (aN.lh F aw) F Try.f120 [(.ptr aa aF),(.int .i64 aC)] H=aN.twX F aw aa aF aC H:=by kernel_rfl
theorem aN.k:Ok Try.prog 120 (mk1 (aN.tw F)):=by
 intro args H v H' h
 unfold mk1 at h
 split at h
 ·exact okT (TB:=bk) Try.func120 (bf (aD.k F) cw) (aN.loops F (aD.tw F)) ((aN.eqX F (aD.tw F) _ _ _ H).trans h) (by kernel_rfl)
 ·cases h
def bG.l1918 (F:Nat) (dS:VL) (aw:VL) :Nat->Nat->Nat->Nat->Nat->Nat->Nat->Hp->OA
 | 0,_,_,_,_,_,_,_=>none
 | IZ+1,pM,pN,fJ,ia,eZ,fK,H51=>(Hp.ldSl H51 eZ (fK+1)).bind λs77=>(aw pM pN 2 H51).bind λr78=>((r78.1).asI .i64).bind λn79=>(bif (decide ((s77.n:Int)<(wrap .i64 (24+n79)))) then ((Hp.ldI r78.2 .i64 eZ fK).bind λn80=>(ifW (((((Hp.ldSl r78.2 eZ (fK+1)).bind λs81=>dx (.sl s77) r78.2 (.sl s81) r78.2)=some ())/\(((Hp.ldSl H51 eZ (fK+1)).bind λs82=>dx (.sl s77) H51 (.sl s82) H51)=some ())/\True)/\True) ((bif (decide (n80>1)) then ((Hp.ldSl r78.2 eZ (fK+1)).bind λs83=>(Hp.new r78.2 [(.int .i64 1)]).bind λH84=>(Sl.row H84 (⟨some (r78.2.length,0),1,.ex 1⟩:Sl) 1).bind λxs86=>(Hp.app H84 1 8 s83 (⟨some (r78.2.length,0),1,.ex 1⟩:Sl).n xs86).bind λa85=>(Hp.st a85.2 eZ (fK+1) (.sl a85.1)).bind λH87=>bG.l1918 F dS aw IZ pM pN fJ ia eZ fK H87) else ((Hp.ldI r78.2 .i64 eZ fK).bind λn88=>(Hp.ldSl r78.2 eZ (fK+1)).bind λs89=>(Hp.st r78.2 fJ ia (.int .i64 n88)).bind λH90=>(Hp.st H90 fJ (ia+1) (.sl s89)).bind λH91=>(Hp.ldI H91 .i64 fJ ia).bind λn92=>(Hp.ldSl H91 fJ (ia+1)).bind λs93=>some ((.agg [(.int .i64 n92),(.sl s93)]),H91)))))) else ((ifW (((((Hp.ldSl r78.2 eZ (fK+1)).bind λs94=>dx (.sl s77) r78.2 (.sl s94) r78.2)=some ())/\(((Hp.ldSl H51 eZ (fK+1)).bind λs95=>dx (.sl s77) H51 (.sl s95) H51)=some ())/\True)/\True) ((Hp.ldI r78.2 .i64 eZ fK).bind λn96=>(Hp.ldSl r78.2 eZ (fK+1)).bind λs97=>(Hp.st r78.2 fJ ia (.int .i64 n96)).bind λH98=>(Hp.st H98 fJ (ia+1) (.sl s97)).bind λH99=>(Hp.ldI H99 .i64 fJ ia).bind λn100=>(Hp.ldSl H99 fJ (ia+1)).bind λs101=>some ((.agg [(.int .i64 n100),(.sl s101)]),H99)))))
termination_by structural n=>n
def bG.twX (dS:VL) (aw:VL) (aa:Nat) (aF:Nat) (H:Hp):OA:=(Hp.new H [.int .i64 0,.sl ⟨none,0,.ex 0⟩]).bind λH3=>(dS aa aF 9 H3).bind λr4=>((r4.1).asAgg 2).bind λl5=>(l5[0]?).bind λv6=>((v6).asI .i64).bind λn7=>(l5[1]?).bind λv8=>((v8).asSl).bind λs9=>(Hp.new r4.2 [.int .i64 0,.sl ⟨none,0,.ex 0⟩]).bind λH10=>(Hp.st H10 r4.2.length 0 (.int .i64 n7)).bind λH11=>(Hp.st H11 r4.2.length (0+1) (.sl s9)).bind λH12=>(aw aa aF 16 H12).bind λr13=>((r13.1).asI .i64).bind λn14=>(bif (n14==0) then ((aw aa aF 9 r13.2).bind λr15=>((r15.1).asI .i64).bind λn16=>(Hp.st r15.2 r4.2.length 0 (.int .i64 (wrap .i64 (n16 - 1)))).bind λH17=>(Hp.ldI H17 .i64 r4.2.length 0).bind λn18=>(Hp.ldSl H17 r4.2.length (0+1)).bind λs19=>(Hp.st H17 H.length 0 (.int .i64 n18)).bind λH20=>(Hp.st H20 H.length (0+1) (.sl s19)).bind λH21=>(Hp.ldI H21 .i64 H.length 0).bind λn22=>(Hp.ldSl H21 H.length (0+1)).bind λs23=>some ((.agg [(.int .i64 n22),(.sl s23)]),H21)) else ((bif (n14==1) then ((Hp.ldSl r13.2 r4.2.length 1).bind λs24=>(aw aa aF 9 r13.2).bind λr25=>((r25.1).asI .i64).bind λn26=>(Hp.new r25.2 [(.int .i64 (wrap .i64 (n26 - 4)))]).bind λH27=>(Sl.row H27 (⟨some (r25.2.length,0),1,.ex 1⟩:Sl) 1).bind λxs29=>(Hp.app H27 1 8 s24 (⟨some (r25.2.length,0),1,.ex 1⟩:Sl).n xs29).bind λa28=>(Hp.st a28.2 r4.2.length 1 (.sl a28.1)).bind λH30=>(ifW (((((Hp.ldSl a28.2 r4.2.length 1).bind λs31=>dx (.sl s24) a28.2 (.sl s31) a28.2)=some ())/\(((Hp.ldSl H27 r4.2.length 1).bind λs32=>dx (.sl s24) H27 (.sl s32) H27)=some ())/\(((Hp.ldSl r25.2 r4.2.length 1).bind λs33=>dx (.sl s24) r25.2 (.sl s33) r25.2)=some ())/\(((Hp.ldSl r13.2 r4.2.length 1).bind λs34=>dx (.sl s24) r13.2 (.sl s34) r13.2)=some ())/\True)/\True) ((Hp.ldI H30 .i64 r4.2.length 0).bind λn35=>(Hp.ldSl H30 r4.2.length (0+1)).bind λs36=>(Hp.st H30 H.length 0 (.int .i64 n35)).bind λH37=>(Hp.st H37 H.length (0+1) (.sl s36)).bind λH38=>(Hp.ldI H38 .i64 H.length 0).bind λn39=>(Hp.ldSl H38 H.length (0+1)).bind λs40=>some ((.agg [(.int .i64 n39),(.sl s40)]),H38)))) else ((bif (n14==2) then (bG.l1918 F dS aw F aa aF H.length 0 r4.2.length 0 r13.2) else ((Hp.ldI r13.2 .i64 r4.2.length 0).bind λn102=>(Hp.ldSl r13.2 r4.2.length (0+1)).bind λs103=>(Hp.st r13.2 H.length 0 (.int .i64 n102)).bind λH104=>(Hp.st H104 H.length (0+1) (.sl s103)).bind λH105=>(Hp.ldI H105 .i64 H.length 0).bind λn106=>(Hp.ldSl H105 H.length (0+1)).bind λs107=>some ((.agg [(.int .i64 n106),(.sl s107)]),H105)))))))
def bG.tw:=bG.twX F (aN.tw F) (aD.tw F)
def bG.lh1918 (dS:VL) (aw:VL) (ks:VM) (n:Nat) (tm:Tm) (H:Hp):OA:=match ks,tm 0,tm 2,tm 3 with
 | [],(.ptr pM pN),(.ptr fJ ia),(.ptr eZ fK)=>bG.l1918 F dS aw n pM pN fJ ia eZ fK H
 | _,_,_,_=>none
def bG.lh (dS:VL) (aw:VL) (p:Nat) (ks:VM) (n:Nat) (tm:Tm) (H:Hp):OA:=bif p.beq 1918 then bG.lh1918 F dS aw ks n tm H else (none)
def bG.pn:Nat->List Nat:=cG [(6,[3,6,8,999,1001]),(8,[4,1001])]
def bG.tb:Nat->List (List Nat):=cG [(6,[[],[0],[],[2],[2,3],[2,3,4],[0,1,2,3,4,5],[0,1,2,3,4,5,6],[0,1,2,3,4,5,6,7]]),(8,[[],[0],[0,1],[],[3],[3,4],[0,1,2,3,4,5],[0,1,2,3,4,5,6],[0,1,2,3,4,5,6,7],[0,1,2,3,4,5,6,7,8],[0,1,2,3,4,5,6,7,8,9],[0,1,2,3,4,5,6,7,8,9,10]])]
def mk2 (g:VV) (args:VS) (H:Hp):OA:=match args with
 | [(.ptr aa aF)]=>g aa aF H
 | _=>none
theorem mk2_E (g:VV) (aa:Nat) (aF:Nat) (H:Hp):mk2 g [(.ptr aa aF)] H=g aa aF H:=rfl
def bG.cs (F:Nat) (dS:VL) (aw:VL):Cs:=[(120,mk1 dS),(121,mk1 aw)]
theorem bG.loops (dS:VL) (aw:VL):LO (bw (bG.cs F dS aw)) bG.pn (bG.lh F dS aw) F Try.f110:=
 (af.rt (af.rt (af.lt (af.rt (af.block (af.rt (af.cond af.no (af.rt (af.cond af.no (af.rt (af.cond (af.block (af.la (λn tm H r h=>by change bG.lh1918 F dS aw [] n tm H=_ at h;unfold bG.lh1918 at h;split at h;have e:cR tm [(0,_),(2,_),(3,_)]:=⟨‹_›,‹_›,‹_›,trivial⟩;obtain _ | k1918:=n;cases h;exact ⟨_,rfl,by rw [<- cS e];exact Eq.trans (by kernel_rfl) h⟩;cases h) λk1918=>af.no)) af.no)))))))))))
theorem bG.eqX (dS:VL) (aw:VL) (aa:Nat) (aF:Nat) (H:Hp):EX (bw (bG.cs F dS aw)) bG.pn (bG.lh F dS aw) F Try.f110 [(.ptr aa aF)] H=bG.twX F dS aw aa aF H:=by kernel_rfl
theorem bG.k:Ok Try.prog 110 (mk2 (bG.tw F)):=by
 intro args H v H' h
 unfold mk2 at h
 split at h
 ·exact okT (TB:=bG.tb) Try.func110 (bf (aN.k F) (bf (aD.k F) cw)) (bG.loops F (aN.tw F) (aD.tw F)) ((bG.eqX F (aN.tw F) (aD.tw F) _ _ H).trans h) (by kernel_rfl)
 ·cases h
def cp.twX (F:Nat) (aa:Int) (aF:Sl) (H:Hp):OA:=(Hp.new H [(.int .i64 aa),(.sl aF)]).bind λH3=>(Hp.new H3 [.int .i64 0,.sl ⟨none,0,.ex 0⟩]).bind λH4=>(Hp.ldI H4 .i64 H.length 0).bind λn5=>(Hp.new H4 []).bind λH6=>(Hp.ldSl H6 H.length 1).bind λs7=>(Sl.row H6 s7 1).bind λxs9=>(Hp.app H6 1 8 (⟨some (H4.length,0),0,.ex 0⟩:Sl) s7.n xs9).bind λa8=>(if aK H6 a8.2 then ((Hp.st a8.2 H3.length 0 (.int .i64 n5)).bind λH10=>(Hp.st H10 H3.length (0+1) (.sl a8.1)).bind λH11=>(Hp.ldI H11 .i64 H3.length 0).bind λn12=>(Hp.ldSl H11 H3.length (0+1)).bind λs13=>some ((.agg [(.int .i64 n12),(.sl s13)]),H11)) else none)
def cp.tw:=cp.twX F
def cp.pn:Nat->List Nat:=cG [(1,[7])]
def cp.tb:Nat->List (List Nat):=cG [(1,[[],[0],[],[],[3],[2,3,4],[0,1,2,3,4,5],[0,1,2,3,4,5,6]])]
def mk3 (g:VH) (args:VS) (H:Hp):OA:=match args with
 | [(.agg [(.int .i64 aa),(.sl aF)])]=>g aa aF H
 | _=>none
theorem mk3_E (g:VH) (aa:Int) (aF:Sl) (H:Hp):mk3 g [(.agg [(.int .i64 aa),(.sl aF)])] H=g aa aF H:=rfl
theorem cp.k:Ok Try.prog 167 (mk3 (cp.tw F)):=by
 intro args H v H' h
 unfold mk3 at h
 split at h
 ·exact okT (PN:=cp.pn) (LH:=lh0) (F:=F) (TB:=cp.tb) Try.func167 cw af.no (Eq.trans (by kernel_rfl) h) (by kernel_rfl)
 ·cases h
def aR.twX (F:Nat) (aa:Int) (H:Hp):OA:=some ((.int .i64 (if (wrap .i64 (0 - aa))>aa then (wrap .i64 (0 - aa)) else aa)),H)
def aR.tw:=aR.twX F
def mk4 (g:VF) (args:VS) (H:Hp):OA:=match args with
 | [(.int .i64 aa)]=>g aa H
 | _=>none
theorem mk4_E (g:VF) (aa:Int) (H:Hp):mk4 g [(.int .i64 aa)] H=g aa H:=rfl
theorem aR.k:Ok Try.prog 168 (mk4 (aR.tw F)):=by
 intro args H v H' h
 unfold mk4 at h
 split at h
 ·exact ok0 Try.func168 (Eq.trans (by kernel_rfl) h) (by kernel_rfl) (by kernel_rfl)
 ·cases h
def ac.j23 (F:Nat) (aQ:VH) (aw:VL) (aH:VF) (C29_:VN) (I_:Nat) (Ja:Nat) (pO:Nat) (Jb:Nat) (pP:Nat) (Jc:Nat) (pQ:Nat) (Jd:Nat) (k_:Int) (H664:Hp):OA:=C29_ I_ Ja pO Jb pP Jc pQ Jd (wrap .i64 (k_ - 1)) H664
def ac.j24 (F:Nat) (aQ:VH) (aw:VL) (aH:VF) (C29_:VN) (Je:Nat) (Jf:Nat) (pR:Nat) (Jg:Nat) (pS:Nat) (Jh:Nat) (pT:Nat) (Ji:Nat) (lc:Int) (H742:Hp):OA:=C29_ Je Jf pR Jg pS Jh pT Ji (wrap .i64 (lc - 1)) H742
def ac.j25 (aQ:VH) (aw:VL) (aH:VF) (C29_:VN) (Jj:Nat) (Jk:Nat) (pU:Nat) (Jl:Nat) (pV:Nat) (Jm:Nat) (pW:Nat) (Jn:Nat) (lg:Int) (H723:Hp):OA:=ac.j24 F aQ aw aH C29_ Jj Jk pU Jl pV Jm pW Jn lg H723
def ac.j26 (aQ:VH) (aw:VL) (aH:VF) (C29_:VN) (Jo:Nat) (Jp:Nat) (pX:Nat) (Jq:Nat) (pY:Nat) (Jr:Nat) (pZ:Nat) (Js:Nat) (li:Int) (H704:Hp):OA:=ac.j25 F aQ aw aH C29_ Jo Jp pX Jq pY Jr pZ Js li H704
def ac.j27 (F:Nat) (aQ:VH) (aw:VL) (aH:VF) (C29_:VN) (Jt:Nat) (Ju:Nat) (p_:Nat) (Jv:Nat) (qa:Nat) (Jw:Nat) (qb:Nat) (Jy:Nat) (lj:Int) (H834:Hp):OA:=C29_ Jt Ju p_ Jv qa Jw qb Jy (wrap .i64 (lj - 1)) H834
def ac.j28 (aQ:VH) (aw:VL) (aH:VF) (C29_:VN) (Jz:Nat) (JA:Nat) (qc:Nat) (JB:Nat) (qd:Nat) (JC:Nat) (qe:Nat) (JD:Nat) (ll:Int) (H814:Hp):OA:=ac.j27 F aQ aw aH C29_ Jz JA qc JB qd JC qe JD ll H814
def ac.j29 (aQ:VH) (aw:VL) (aH:VF) (C29_:VN) (JE:Nat) (JF:Nat) (qf:Nat) (JG:Nat) (qg:Nat) (JH:Nat) (qh:Nat) (JI:Nat) (lm:Int) (H794:Hp):OA:=ac.j28 F aQ aw aH C29_ JE JF qf JG qg JH qh JI lm H794
def ac.j30 (aQ:VH) (aw:VL) (aH:VF) (C29_:VN) (JJ:Nat) (JK:Nat) (qi:Nat) (JL:Nat) (qj:Nat) (JM:Nat) (qk:Nat) (JN:Nat) (ln:Int) (H774:Hp):OA:=ac.j29 F aQ aw aH C29_ JJ JK qi JL qj JM qk JN ln H774
def ac.j31 (aQ:VH) (aw:VL) (aH:VF) (C29_:VN) (JO:Nat) (JP:Nat) (ql:Nat) (JQ:Nat) (qm:Nat) (JR:Nat) (qn:Nat) (JS:Nat) (lq:Int) (H866:Hp):OA:=ac.j28 F aQ aw aH C29_ JO JP ql JQ qm JR qn JS lq H866
def ac.j32 (aQ:VH) (aw:VL) (aH:VF) (C29_:VN) (JT:Nat) (JU:Nat) (qo:Nat) (JV:Nat) (qp:Nat) (JW:Nat) (qq:Nat) (JX:Nat) (lr:Int) (H898:Hp):OA:=ac.j28 F aQ aw aH C29_ JT JU qo JV qp JW qq JX lr H898
def ac.j33 (aQ:VH) (aw:VL) (aH:VF) (C29_:VN) (JY:Nat) (JZ:Nat) (qs:Nat) (J_:Nat) (qt:Nat) (Ka:Nat) (qu:Nat) (Kb:Nat) (lu:Int) (H930:Hp):OA:=ac.j28 F aQ aw aH C29_ JY JZ qs J_ qt Ka qu Kb lu H930
def ac.j34 (F:Nat) (aQ:VH) (aw:VL) (aH:VF) (C29_:VN) (Kc:Nat) (Kd:Nat) (qv:Nat) (Ke:Nat) (qw:Nat) (Kf:Nat) (qx:Nat) (Kg:Nat) (lx:Int) (H962:Hp):OA:=C29_ Kc Kd qv Ke qw Kf qx Kg (wrap .i64 (lx - 1)) H962
def ac.j35 (aQ:VH) (aw:VL) (aH:VF) (C29_:VN) (Kh:Nat) (Ki:Nat) (qy:Nat) (Kj:Nat) (qz:Nat) (Kk:Nat) (qA:Nat) (Kl:Nat) (ly:Int) (H946:Hp):OA:=ac.j34 F aQ aw aH C29_ Kh Ki qy Kj qz Kk qA Kl ly H946
def ac.j36 (aQ:VH) (aw:VL) (aH:VF) (C29_:VN) (Km:Nat) (Ko:Nat) (qB:Nat) (Kp:Nat) (qC:Nat) (Kq:Nat) (qD:Nat) (Ks:Nat) (lz:Int) (H1021:Hp):OA:=ac.j24 F aQ aw aH C29_ Km Ko qB Kp qC Kq qD Ks lz H1021
def ac.j37 (aQ:VH) (aw:VL) (aH:VF) (C29_:VN) (Kt:Nat) (Ku:Nat) (qE:Nat) (Kv:Nat) (qF:Nat) (Kw:Nat) (qG:Nat) (Ky:Nat) (lA:Int) (H1002:Hp):OA:=ac.j36 F aQ aw aH C29_ Kt Ku qE Kv qF Kw qG Ky lA H1002
def ac.j38 (aQ:VH) (aw:VL) (aH:VF) (C29_:VN) (Kz:Nat) (KA:Nat) (qH:Nat) (KB:Nat) (qI:Nat) (KC:Nat) (qJ:Nat) (KD:Nat) (lC:Int) (H1093:Hp):OA:=ac.j27 F aQ aw aH C29_ Kz KA qH KB qI KC qJ KD lC H1093
def ac.j39 (aQ:VH) (aw:VL) (aH:VF) (C29_:VN) (KE:Nat) (KF:Nat) (qK:Nat) (KG:Nat) (qL:Nat) (KH:Nat) (qM:Nat) (KI:Nat) (lD:Int) (H1073:Hp):OA:=ac.j38 F aQ aw aH C29_ KE KF qK KG qL KH qM KI lD H1073
def ac.j40 (aQ:VH) (aw:VL) (aH:VF) (C29_:VN) (KJ:Nat) (KK:Nat) (qN:Nat) (KL:Nat) (qO:Nat) (KM:Nat) (qP:Nat) (KN:Nat) (lE:Int) (H1053:Hp):OA:=ac.j39 F aQ aw aH C29_ KJ KK qN KL qO KM qP KN lE H1053
def ac.j41 (aQ:VH) (aw:VL) (aH:VF) (C29_:VN) (KO:Nat) (KP:Nat) (qQ:Nat) (KQ:Nat) (qR:Nat) (KR:Nat) (qS:Nat) (KS:Nat) (lF:Int) (H1125:Hp):OA:=ac.j38 F aQ aw aH C29_ KO KP qQ KQ qR KR qS KS lF H1125
def ac.j42 (aQ:VH) (aw:VL) (aH:VF) (C29_:VN) (KT:Nat) (KU:Nat) (qT:Nat) (KV:Nat) (qU:Nat) (KW:Nat) (qV:Nat) (KX:Nat) (lG:Int) (H1157:Hp):OA:=ac.j38 F aQ aw aH C29_ KT KU qT KV qU KW qV KX lG H1157
def ac.j43 (aQ:VH) (aw:VL) (aH:VF) (C29_:VN) (KY:Nat) (KZ:Nat) (qW:Nat) (K_:Nat) (qX:Nat) (La:Nat) (qY:Nat) (Lb:Nat) (lH:Int) (H1189:Hp):OA:=ac.j38 F aQ aw aH C29_ KY KZ qW K_ qX La qY Lb lH H1189
def ac.j44 (aQ:VH) (aw:VL) (aH:VF) (C29_:VN) (Lc:Nat) (Ld:Nat) (qZ:Nat) (Le:Nat) (q_:Nat) (Lg:Nat) (rc:Nat) (Lh:Nat) (lJ:Int) (H1205:Hp):OA:=ac.j34 F aQ aw aH C29_ Lc Ld qZ Le q_ Lg rc Lh lJ H1205
def ac.l29 (F:Nat) (aQ:VH) (aw:VL) (aH:VF) :Nat->Nat->Nat->Nat->Nat->Nat->Nat->Nat->Nat->Int->Hp->OA
 | 0,_,_,_,_,_,_,_,_,_,_=>none
 | bB+1,dO,dP,dt,dU,cX,dk,bA,bC,bZ,H31=>(bif (decide (bZ>0)) then ((Hp.ldI H31 .i64 dt dU).bind λn625=>(bif (decide (n625>1)) then ((Hp.ldSl H31 bA (bC+1)).bind λs626=>(aw dO dP (wrap .i64 ((s626.n:Int)+1)) H31).bind λr627=>((r627.1).asI .i64).bind λn628=>(aw dO dP 3 r627.2).bind λr629=>((r629.1).asI .i64).bind λn630=>(bif (n630==0) then ((Hp.ldSl r629.2 bA (bC+1)).bind λs631=>(bif (decide ((wrap .i64 ((s631.n:Int)+2))<=24)) then ((Hp.ldI r629.2 .i64 dt dU).bind λn632=>(aw dO dP (wrap .i64 (n632 - 1)) r629.2).bind λr633=>((r633.1).asI .i64).bind λn634=>(Hp.new r633.2 []).bind λH635=>(Hp.ldSl H635 bA (bC+1)).bind λs636=>(Sl.cut s636 1 0 n628).bind λs637=>(Sl.row H635 s637 1).bind λxs639=>(Hp.app H635 1 8 (⟨some (r633.2.length,0),0,.ex 0⟩:Sl) s637.n xs639).bind λa638=>(Hp.new a638.2 [(.int .i64 (wrap .i64 (1+n634))),(.int .i64 (wrap .i64 (0 - (wrap .i64 (1+n634)))))]).bind λH640=>(Sl.row H640 (⟨some (a638.2.length,0),2,.ex 2⟩:Sl) 1).bind λxs642=>(Hp.app H640 1 8 a638.1 (⟨some (a638.2.length,0),2,.ex 2⟩:Sl).n xs642).bind λa641=>(Hp.ldSl a641.2 bA (bC+1)).bind λs643=>(Sl.cut s643 1 n628 (s643.n:Int)).bind λs644=>(Sl.row a641.2 s644 1).bind λxs646=>(Hp.app a641.2 1 8 a641.1 s644.n xs646).bind λa645=>(Hp.st a645.2 bA (bC+1) (.sl a645.1)).bind λH647=>ac.j23 F aQ aw aH (ac.l29 F aQ aw aH bB) dO dP dt dU cX dk bA bC bZ H647) else ((Hp.ldSl r629.2 bA (bC+1)).bind λs665=>(bif (decide ((wrap .i64 (n628+2))<(s665.n:Int))) then ((Hp.ldSl r629.2 bA (bC+1)).bind λs666=>(Sl.idx s666 n628 1).bind λp667=>(Hp.ldI r629.2 .i64 p667.1 p667.2).bind λn668=>(Hp.ldSl r629.2 bA (bC+1)).bind λs669=>(Sl.idx s669 (wrap .i64 (n628+1)) 1).bind λp670=>(Hp.ldI r629.2 .i64 p670.1 p670.2).bind λn671=>(Hp.ldSl r629.2 bA (bC+1)).bind λs672=>(Sl.idx s672 (wrap .i64 (n628+2)) 1).bind λp673=>(Hp.ldI r629.2 .i64 p673.1 p673.2).bind λn674=>(bif (n668==n674) then ((bif (decide (n668>0)) then ((bif (decide (n671>0)) then ((aH (wrap .i64 (n668 - n671)) r629.2).bind λr675=>((r675.1).asI .i64).bind λn676=>(bif (n676==1) then ((Hp.ldSl r675.2 bA (bC+1)).bind λs677=>(Sl.idx s677 n628 1).bind λp678=>(Hp.st r675.2 p678.1 p678.2 (.int .i64 n671)).bind λH679=>(Hp.ldSl H679 bA (bC+1)).bind λs680=>(Sl.idx s680 (wrap .i64 (n628+1)) 1).bind λp681=>(Hp.st H679 p681.1 p681.2 (.int .i64 n668)).bind λH682=>(Hp.ldSl H682 bA (bC+1)).bind λs683=>(Sl.idx s683 (wrap .i64 (n628+2)) 1).bind λp684=>(Hp.st H682 p684.1 p684.2 (.int .i64 n671)).bind λH685=>ac.j26 F aQ aw aH (ac.l29 F aQ aw aH bB) dO dP dt dU cX dk bA bC bZ H685) else ((aH n668 r675.2).bind λr743=>((r743.1).asI .i64).bind λn744=>(aH n671 r743.2).bind λr745=>((r745.1).asI .i64).bind λn746=>(aH (wrap .i64 (n744 - n746)) r745.2).bind λr747=>((r747.1).asI .i64).bind λn748=>(bif (decide (n748>1)) then ((Hp.ldSl r747.2 bA (bC+1)).bind λs749=>(Sl.idx s749 n628 1).bind λp750=>(Hp.st r747.2 p750.1 p750.2 (.int .i64 n671)).bind λH751=>(Hp.ldSl H751 bA (bC+1)).bind λs752=>(Sl.idx s752 (wrap .i64 (n628+1)) 1).bind λp753=>(Hp.st H751 p753.1 p753.2 (.int .i64 n668)).bind λH754=>ac.j30 F aQ aw aH (ac.l29 F aQ aw aH bB) dO dP dt dU cX dk bA bC bZ H754) else (ac.j30 F aQ aw aH (ac.l29 F aQ aw aH bB) dO dP dt dU cX dk bA bC bZ r747.2))))) else ((aH n668 r629.2).bind λr835=>((r835.1).asI .i64).bind λn836=>(aH n671 r835.2).bind λr837=>((r837.1).asI .i64).bind λn838=>(aH (wrap .i64 (n836 - n838)) r837.2).bind λr839=>((r839.1).asI .i64).bind λn840=>(bif (decide (n840>1)) then ((Hp.ldSl r839.2 bA (bC+1)).bind λs841=>(Sl.idx s841 n628 1).bind λp842=>(Hp.st r839.2 p842.1 p842.2 (.int .i64 n671)).bind λH843=>(Hp.ldSl H843 bA (bC+1)).bind λs844=>(Sl.idx s844 (wrap .i64 (n628+1)) 1).bind λp845=>(Hp.st H843 p845.1 p845.2 (.int .i64 n668)).bind λH846=>ac.j31 F aQ aw aH (ac.l29 F aQ aw aH bB) dO dP dt dU cX dk bA bC bZ H846) else (ac.j31 F aQ aw aH (ac.l29 F aQ aw aH bB) dO dP dt dU cX dk bA bC bZ r839.2))))) else ((aH n668 r629.2).bind λr867=>((r867.1).asI .i64).bind λn868=>(aH n671 r867.2).bind λr869=>((r869.1).asI .i64).bind λn870=>(aH (wrap .i64 (n868 - n870)) r869.2).bind λr871=>((r871.1).asI .i64).bind λn872=>(bif (decide (n872>1)) then ((Hp.ldSl r871.2 bA (bC+1)).bind λs873=>(Sl.idx s873 n628 1).bind λp874=>(Hp.st r871.2 p874.1 p874.2 (.int .i64 n671)).bind λH875=>(Hp.ldSl H875 bA (bC+1)).bind λs876=>(Sl.idx s876 (wrap .i64 (n628+1)) 1).bind λp877=>(Hp.st H875 p877.1 p877.2 (.int .i64 n668)).bind λH878=>ac.j32 F aQ aw aH (ac.l29 F aQ aw aH bB) dO dP dt dU cX dk bA bC bZ H878) else (ac.j32 F aQ aw aH (ac.l29 F aQ aw aH bB) dO dP dt dU cX dk bA bC bZ r871.2))))) else ((aH n668 r629.2).bind λr899=>((r899.1).asI .i64).bind λn900=>(aH n671 r899.2).bind λr901=>((r901.1).asI .i64).bind λn902=>(aH (wrap .i64 (n900 - n902)) r901.2).bind λr903=>((r903.1).asI .i64).bind λn904=>(bif (decide (n904>1)) then ((Hp.ldSl r903.2 bA (bC+1)).bind λs905=>(Sl.idx s905 n628 1).bind λp906=>(Hp.st r903.2 p906.1 p906.2 (.int .i64 n671)).bind λH907=>(Hp.ldSl H907 bA (bC+1)).bind λs908=>(Sl.idx s908 (wrap .i64 (n628+1)) 1).bind λp909=>(Hp.st H907 p909.1 p909.2 (.int .i64 n668)).bind λH910=>ac.j33 F aQ aw aH (ac.l29 F aQ aw aH bB) dO dP dt dU cX dk bA bC bZ H910) else (ac.j33 F aQ aw aH (ac.l29 F aQ aw aH bB) dO dP dt dU cX dk bA bC bZ r903.2))))) else (ac.j35 F aQ aw aH (ac.l29 F aQ aw aH bB) dO dP dt dU cX dk bA bC bZ r629.2))))) else ((Hp.ldSl r629.2 bA (bC+1)).bind λs963=>(bif (decide ((wrap .i64 (n628+2))<(s963.n:Int))) then ((Hp.ldSl r629.2 bA (bC+1)).bind λs964=>(Sl.idx s964 n628 1).bind λp965=>(Hp.ldI r629.2 .i64 p965.1 p965.2).bind λn966=>(Hp.ldSl r629.2 bA (bC+1)).bind λs967=>(Sl.idx s967 (wrap .i64 (n628+1)) 1).bind λp968=>(Hp.ldI r629.2 .i64 p968.1 p968.2).bind λn969=>(Hp.ldSl r629.2 bA (bC+1)).bind λs970=>(Sl.idx s970 (wrap .i64 (n628+2)) 1).bind λp971=>(Hp.ldI r629.2 .i64 p971.1 p971.2).bind λn972=>(bif (n966==n972) then ((bif (decide (n966>0)) then ((bif (decide (n969>0)) then ((aH (wrap .i64 (n966 - n969)) r629.2).bind λr973=>((r973.1).asI .i64).bind λn974=>(bif (n974==1) then ((Hp.ldSl r973.2 bA (bC+1)).bind λs975=>(Sl.idx s975 n628 1).bind λp976=>(Hp.st r973.2 p976.1 p976.2 (.int .i64 n969)).bind λH977=>(Hp.ldSl H977 bA (bC+1)).bind λs978=>(Sl.idx s978 (wrap .i64 (n628+1)) 1).bind λp979=>(Hp.st H977 p979.1 p979.2 (.int .i64 n966)).bind λH980=>(Hp.ldSl H980 bA (bC+1)).bind λs981=>(Sl.idx s981 (wrap .i64 (n628+2)) 1).bind λp982=>(Hp.st H980 p982.1 p982.2 (.int .i64 n969)).bind λH983=>ac.j37 F aQ aw aH (ac.l29 F aQ aw aH bB) dO dP dt dU cX dk bA bC bZ H983) else ((aH n966 r973.2).bind λr1022=>((r1022.1).asI .i64).bind λn1023=>(aH n969 r1022.2).bind λr1024=>((r1024.1).asI .i64).bind λn1025=>(aH (wrap .i64 (n1023 - n1025)) r1024.2).bind λr1026=>((r1026.1).asI .i64).bind λn1027=>(bif (decide (n1027>1)) then ((Hp.ldSl r1026.2 bA (bC+1)).bind λs1028=>(Sl.idx s1028 n628 1).bind λp1029=>(Hp.st r1026.2 p1029.1 p1029.2 (.int .i64 n969)).bind λH1030=>(Hp.ldSl H1030 bA (bC+1)).bind λs1031=>(Sl.idx s1031 (wrap .i64 (n628+1)) 1).bind λp1032=>(Hp.st H1030 p1032.1 p1032.2 (.int .i64 n966)).bind λH1033=>ac.j40 F aQ aw aH (ac.l29 F aQ aw aH bB) dO dP dt dU cX dk bA bC bZ H1033) else (ac.j40 F aQ aw aH (ac.l29 F aQ aw aH bB) dO dP dt dU cX dk bA bC bZ r1026.2))))) else ((aH n966 r629.2).bind λr1094=>((r1094.1).asI .i64).bind λn1095=>(aH n969 r1094.2).bind λr1096=>((r1096.1).asI .i64).bind λn1097=>(aH (wrap .i64 (n1095 - n1097)) r1096.2).bind λr1098=>((r1098.1).asI .i64).bind λn1099=>(bif (decide (n1099>1)) then ((Hp.ldSl r1098.2 bA (bC+1)).bind λs1100=>(Sl.idx s1100 n628 1).bind λp1101=>(Hp.st r1098.2 p1101.1 p1101.2 (.int .i64 n969)).bind λH1102=>(Hp.ldSl H1102 bA (bC+1)).bind λs1103=>(Sl.idx s1103 (wrap .i64 (n628+1)) 1).bind λp1104=>(Hp.st H1102 p1104.1 p1104.2 (.int .i64 n966)).bind λH1105=>ac.j41 F aQ aw aH (ac.l29 F aQ aw aH bB) dO dP dt dU cX dk bA bC bZ H1105) else (ac.j41 F aQ aw aH (ac.l29 F aQ aw aH bB) dO dP dt dU cX dk bA bC bZ r1098.2))))) else ((aH n966 r629.2).bind λr1126=>((r1126.1).asI .i64).bind λn1127=>(aH n969 r1126.2).bind λr1128=>((r1128.1).asI .i64).bind λn1129=>(aH (wrap .i64 (n1127 - n1129)) r1128.2).bind λr1130=>((r1130.1).asI .i64).bind λn1131=>(bif (decide (n1131>1)) then ((Hp.ldSl r1130.2 bA (bC+1)).bind λs1132=>(Sl.idx s1132 n628 1).bind λp1133=>(Hp.st r1130.2 p1133.1 p1133.2 (.int .i64 n969)).bind λH1134=>(Hp.ldSl H1134 bA (bC+1)).bind λs1135=>(Sl.idx s1135 (wrap .i64 (n628+1)) 1).bind λp1136=>(Hp.st H1134 p1136.1 p1136.2 (.int .i64 n966)).bind λH1137=>ac.j42 F aQ aw aH (ac.l29 F aQ aw aH bB) dO dP dt dU cX dk bA bC bZ H1137) else (ac.j42 F aQ aw aH (ac.l29 F aQ aw aH bB) dO dP dt dU cX dk bA bC bZ r1130.2))))) else ((aH n966 r629.2).bind λr1158=>((r1158.1).asI .i64).bind λn1159=>(aH n969 r1158.2).bind λr1160=>((r1160.1).asI .i64).bind λn1161=>(aH (wrap .i64 (n1159 - n1161)) r1160.2).bind λr1162=>((r1162.1).asI .i64).bind λn1163=>(bif (decide (n1163>1)) then ((Hp.ldSl r1162.2 bA (bC+1)).bind λs1164=>(Sl.idx s1164 n628 1).bind λp1165=>(Hp.st r1162.2 p1165.1 p1165.2 (.int .i64 n969)).bind λH1166=>(Hp.ldSl H1166 bA (bC+1)).bind λs1167=>(Sl.idx s1167 (wrap .i64 (n628+1)) 1).bind λp1168=>(Hp.st H1166 p1168.1 p1168.2 (.int .i64 n966)).bind λH1169=>ac.j43 F aQ aw aH (ac.l29 F aQ aw aH bB) dO dP dt dU cX dk bA bC bZ H1169) else (ac.j43 F aQ aw aH (ac.l29 F aQ aw aH bB) dO dP dt dU cX dk bA bC bZ r1162.2))))) else (ac.j44 F aQ aw aH (ac.l29 F aQ aw aH bB) dO dP dt dU cX dk bA bC bZ r629.2))))) else ((Hp.ldI H31 .i64 bA bC).bind λn1206=>(Hp.ldSl H31 bA (bC+1)).bind λs1207=>(Hp.st H31 cX dk (.int .i64 n1206)).bind λH1208=>(Hp.st H1208 cX (dk+1) (.sl s1207)).bind λH1209=>(Hp.ldI H1209 .i64 cX dk).bind λn1210=>(Hp.ldSl H1209 cX (dk+1)).bind λs1211=>some ((.agg [(.int .i64 n1210),(.sl s1211)]),H1209)))) else ((Hp.ldI H31 .i64 bA bC).bind λn1212=>(Hp.ldSl H31 bA (bC+1)).bind λs1213=>(Hp.st H31 cX dk (.int .i64 n1212)).bind λH1214=>(Hp.st H1214 cX (dk+1) (.sl s1213)).bind λH1215=>(Hp.ldI H1215 .i64 cX dk).bind λn1216=>(Hp.ldSl H1215 cX (dk+1)).bind λs1217=>some ((.agg [(.int .i64 n1216),(.sl s1217)]),H1215)))
termination_by structural n=>n
def ac.twX (aQ:VH) (aw:VL) (aH:VF) (aa:Nat) (aF:Nat) (aC:Int) (da:Sl) (H:Hp):OA:=(Hp.new H [(.int .i64 aC),(.sl da)]).bind λH5=>(Hp.new H5 [.int .i64 0,.sl ⟨none,0,.ex 0⟩]).bind λH6=>(Hp.ldI H6 .i64 H.length 0).bind λn7=>(Hp.ldSl H6 H.length (0+1)).bind λs8=>(aQ n7 s8 H6).bind λr9=>((r9.1).asAgg 2).bind λl10=>(l10[0]?).bind λv11=>((v11).asI .i64).bind λn12=>(l10[1]?).bind λv13=>((v13).asSl).bind λs14=>(Hp.new r9.2 [.int .i64 0,.sl ⟨none,0,.ex 0⟩]).bind λH15=>(Hp.st H15 r9.2.length 0 (.int .i64 n12)).bind λH16=>(Hp.st H16 r9.2.length (0+1) (.sl s14)).bind λH17=>(aw aa aF 6 H17).bind λr18=>((r18.1).asI .i64).bind λn19=>ac.l29 F aQ aw aH F aa aF H.length 0 H5.length 0 r9.2.length 0 n19 r18.2
def ac.tw:=ac.twX F (cp.tw F) (aD.tw F) (aR.tw F)
def ac.lh29 (aQ:VH) (aw:VL) (aH:VF) (ks:VM) (n:Nat) (tm:Tm) (H:Hp):OA:=match ks,tm 0,tm 3,tm 4,tm 5,tm 6 with
 | [],(.ptr dO dP),(.ptr dt dU),(.ptr cX dk),(.ptr bA bC),(.int .i64 bZ)=>ac.l29 F aQ aw aH n dO dP dt dU cX dk bA bC bZ H
 | _,_,_,_,_,_=>none
def ac.lh (aQ:VH) (aw:VL) (aH:VF) (p:Nat) (ks:VM) (n:Nat) (tm:Tm) (H:Hp):OA:=bif p.beq 29 then ac.lh29 F aQ aw aH ks n tm H else (none)
def mk5 (g:Wi) (args:VS) (H:Hp):OA:=match args with
 | [(.ptr aa aF),(.agg [(.int .i64 aC),(.sl da)])]=>g aa aF aC da H
 | _=>none
theorem mk5_E (g:Wi) (aa:Nat) (aF:Nat) (aC:Int) (da:Sl) (H:Hp):mk5 g [(.ptr aa aF),(.agg [(.int .i64 aC),(.sl da)])] H=g aa aF aC da H:=rfl
def ac.cs (F:Nat) (aQ:VH) (aw:VL) (aH:VF):Cs:=[(167,mk3 aQ),(121,mk1 aw),(168,mk4 aH)]
theorem ac.loops (aQ:VH) (aw:VL) (aH:VF):LO (bw (ac.cs F aQ aw aH)) bk (ac.lh F aQ aw aH) F Try.f122:=
 (af.rt (af.rt (af.lt (af.rt (af.block (af.la (λn tm H r h=>by change ac.lh29 F aQ aw aH [] n tm H=_ at h;unfold ac.lh29 at h;split at h;have e:cR tm [(0,_),(3,_),(4,_),(5,_),(6,_)]:=⟨‹_›,‹_›,‹_›,‹_›,‹_›,trivial⟩;obtain _ | k29:=n;cases h;exact ⟨_,rfl,by rw [<- cS e];exact Eq.trans (by kernel_rfl) h⟩;cases h) λk29=>af.no))))))
theorem ac.eqX (aQ:VH) (aw:VL) (aH:VF) (aa:Nat) (aF:Nat) (aC:Int) (da:Sl) (H:Hp):EX (bw (ac.cs F aQ aw aH)) bk (ac.lh F aQ aw aH) F Try.f122 [(.ptr aa aF),(.agg [(.int .i64 aC),(.sl da)])] H=ac.twX F aQ aw aH aa aF aC da H:=by kernel_rfl
theorem ac.k:Ok Try.prog 122 (mk5 (ac.tw F)):=by
 intro args H v H' h
 unfold mk5 at h
 split at h
 ·exact okT (TB:=bk) Try.func122 (bf (cp.k F) (bf (aD.k F) (bf (aR.k F) cw))) (ac.loops F (cp.tw F) (aD.tw F) (aR.tw F)) ((ac.eqX F (cp.tw F) (aD.tw F) (aR.tw F) _ _ _ _ H).trans h) (by kernel_rfl)
 ·cases h
def di.twX (F:Nat) (lK:VG) (dS:VL) (aw:VL) (lL:VV) (lM:Wi) (aa:Sl) (H:Hp):OA:=(Hp.new H [.int .i64 0,.sl ⟨none,0,.ex 0⟩]).bind λH2=>(Hp.new H2 [.int .i64 0,.sl ⟨none,0,.ex 0⟩]).bind λH3=>(lK aa H3).bind λr4=>((r4.1).asP).bind λp5=>(dS p5.1 p5.2 8 r4.2).bind λr6=>((r6.1).asAgg 2).bind λl7=>(l7[0]?).bind λv8=>((v8).asI .i64).bind λn9=>(l7[1]?).bind λv10=>((v10).asSl).bind λs11=>(Hp.new r6.2 [.int .i64 0,.sl ⟨none,0,.ex 0⟩]).bind λH12=>(Hp.st H12 r6.2.length 0 (.int .i64 n9)).bind λH13=>(Hp.st H13 r6.2.length (0+1) (.sl s11)).bind λH14=>(aw p5.1 p5.2 3 H14).bind λr15=>((r15.1).asI .i64).bind λn16=>(bif (n16==0) then ((Hp.ldI r15.2 .i64 r6.2.length 0).bind λn17=>(Hp.ldSl r15.2 r6.2.length (0+1)).bind λs18=>(lL p5.1 p5.2 r15.2).bind λr19=>((r19.1).asAgg 2).bind λl20=>(l20[0]?).bind λv21=>((v21).asI .i64).bind λn22=>(l20[1]?).bind λv23=>((v23).asSl).bind λs24=>(Hp.st r19.2 H.length 0 (.int .i64 n17)).bind λH25=>(Hp.st H25 H.length (0+1) (.sl s18)).bind λH26=>(Hp.st H26 H2.length 0 (.int .i64 n22)).bind λH27=>(Hp.st H27 H2.length (0+1) (.sl s24)).bind λH28=>(ifW (((((Hp.ldI H26 .i64 r6.2.length 0).bind λn29=>(Hp.ldSl H26 r6.2.length (0+1)).bind λs30=>dx (.agg [(.int .i64 n17),(.sl s18)]) H26 (.agg [(.int .i64 n29),(.sl s30)]) H26)=some ())/\(((Hp.ldI r19.2 .i64 r6.2.length 0).bind λn31=>(Hp.ldSl r19.2 r6.2.length (0+1)).bind λs32=>dx (.agg [(.int .i64 n17),(.sl s18)]) r19.2 (.agg [(.int .i64 n31),(.sl s32)]) r19.2)=some ())/\(((Hp.ldI r15.2 .i64 r6.2.length 0).bind λn33=>(Hp.ldSl r15.2 r6.2.length (0+1)).bind λs34=>dx (.agg [(.int .i64 n17),(.sl s18)]) r15.2 (.agg [(.int .i64 n33),(.sl s34)]) r15.2)=some ())/\True)/\True) ((Hp.ldI H28 .i64 H.length 0).bind λn35=>(Hp.ldSl H28 H.length (0+1)).bind λs36=>(Hp.ldI H28 .i64 H2.length 0).bind λn37=>(Hp.ldSl H28 H2.length (0+1)).bind λs38=>some ((.tup [(.agg [(.int .i64 n35),(.sl s36)]),(.agg [(.int .i64 n37),(.sl s38)])]),H28)))) else ((Hp.ldI r15.2 .i64 r6.2.length 0).bind λn39=>(Hp.ldSl r15.2 r6.2.length (0+1)).bind λs40=>(Hp.ldI r15.2 .i64 r6.2.length 0).bind λn41=>(Hp.ldSl r15.2 r6.2.length (0+1)).bind λs42=>(lM p5.1 p5.2 n41 s42 r15.2).bind λr43=>((r43.1).asAgg 2).bind λl44=>(l44[0]?).bind λv45=>((v45).asI .i64).bind λn46=>(l44[1]?).bind λv47=>((v47).asSl).bind λs48=>(Hp.st r43.2 H.length 0 (.int .i64 n39)).bind λH49=>(Hp.st H49 H.length (0+1) (.sl s40)).bind λH50=>(Hp.st H50 H2.length 0 (.int .i64 n46)).bind λH51=>(Hp.st H51 H2.length (0+1) (.sl s48)).bind λH52=>(ifW (((((Hp.ldI H50 .i64 r6.2.length 0).bind λn53=>(Hp.ldSl H50 r6.2.length (0+1)).bind λs54=>dx (.agg [(.int .i64 n39),(.sl s40)]) H50 (.agg [(.int .i64 n53),(.sl s54)]) H50)=some ())/\(((Hp.ldI r43.2 .i64 r6.2.length 0).bind λn55=>(Hp.ldSl r43.2 r6.2.length (0+1)).bind λs56=>dx (.agg [(.int .i64 n39),(.sl s40)]) r43.2 (.agg [(.int .i64 n55),(.sl s56)]) r43.2)=some ())/\(((Hp.ldI r15.2 .i64 r6.2.length 0).bind λn57=>(Hp.ldSl r15.2 r6.2.length (0+1)).bind λs58=>dx (.agg [(.int .i64 n39),(.sl s40)]) r15.2 (.agg [(.int .i64 n57),(.sl s58)]) r15.2)=some ())/\True)/\True) ((Hp.ldI H52 .i64 H.length 0).bind λn59=>(Hp.ldSl H52 H.length (0+1)).bind λs60=>(Hp.ldI H52 .i64 H2.length 0).bind λn61=>(Hp.ldSl H52 H2.length (0+1)).bind λs62=>some ((.tup [(.agg [(.int .i64 n59),(.sl s60)]),(.agg [(.int .i64 n61),(.sl s62)])]),H52)))))
def di.tw:=di.twX F (bR.tw F) (aN.tw F) (aD.tw F) (bG.tw F) (ac.tw F)
def di.pn:Nat->List Nat:=cG [(4,[2,3,4,999,1000]),(5,[3,4,5,999,1000])]
def di.tb:Nat->List (List Nat):=cG [(4,[[],[],[1],[0,1,2],[0,1,2,3]]),(5,[[],[],[],[1,2],[0,1,2,3],[0,1,2,3,4]])]
def di.cs (F:Nat) (lK:VG) (dS:VL) (aw:VL) (lL:VV) (lM:Wi):Cs:=[(102,mk0 lK),(120,mk1 dS),(121,mk1 aw),(110,mk2 lL),(122,mk5 lM)]
theorem di.eqX (lK:VG) (dS:VL) (aw:VL) (lL:VV) (lM:Wi) (aa:Sl) (H:Hp):EX (bw (di.cs F lK dS aw lL lM)) di.pn lh0 F Try.f53 [(.sl aa)] H=di.twX F lK dS aw lL lM aa H:=by kernel_rfl
theorem di.k:Ok Try.prog 53 (mk0 (di.tw F)):=by
 intro args H v H' h
 unfold mk0 at h
 split at h
 ·exact okT (TB:=di.tb) Try.func53 (bf (bR.k F) (bf (aN.k F) (bf (aD.k F) (bf (bG.k F) (bf (ac.k F) cw))))) af.no ((di.eqX F (bR.tw F) (aN.tw F) (aD.tw F) (bG.tw F) (ac.tw F) _ H).trans h) (by kernel_rfl)
 ·cases h
def dV.twX (F:Nat) (aa:Int) (av:Int) (fk:Int) (H:Hp):OA:=(bif (decide (av<=aa)) then (some ((.bool (decide (aa<=fk))),H)) else (some ((.bool false),H)))
def dV.tw:=dV.twX F
def mk6 (g:VT) (args:VS) (H:Hp):OA:=match args with
 | [(.int .i64 aa),(.int .i64 av),(.int .i64 fk)]=>g aa av fk H
 | _=>none
theorem mk6_E (g:VT) (aa:Int) (av:Int) (fk:Int) (H:Hp):mk6 g [(.int .i64 aa),(.int .i64 av),(.int .i64 fk)] H=g aa av fk H:=rfl
theorem dV.k:Ok Try.prog 112 (mk6 (dV.tw F)):=by
 intro args H v H' h
 unfold mk6 at h
 split at h
 ·exact ok0 Try.func112 (Eq.trans (by kernel_rfl) h) (by kernel_rfl) (by kernel_rfl)
 ·cases h
def dW.twX (F:Nat) (gE:VT) (aa:Int) (av:Int) (H:Hp):OA:=(bif (av != 0) then ((gE av (wrap .i64 (1 - aa)) (wrap .i64 (aa - 1)) H).bind λr3=>((r3.1).asB).bind λb4=>some ((.bool b4),r3.2)) else (some ((.bool false),H)))
def dW.tw:=dW.twX F (dV.tw F)
def mk7 (g:VW) (args:VS) (H:Hp):OA:=match args with
 | [(.int .i64 aa),(.int .i64 av)]=>g aa av H
 | _=>none
theorem mk7_E (g:VW) (aa:Int) (av:Int) (H:Hp):mk7 g [(.int .i64 aa),(.int .i64 av)] H=g aa av H:=rfl
def dW.cs (F:Nat) (gE:VT):Cs:=[(112,mk6 gE)]
theorem dW.eqX (gE:VT) (aa:Int) (av:Int) (H:Hp):EX (bw (dW.cs F gE)) bk lh0 F Try.f152 [(.int .i64 aa),(.int .i64 av)] H=dW.twX F gE aa av H:=by kernel_rfl
theorem dW.k:Ok Try.prog 152 (mk7 (dW.tw F)):=by
 intro args H v H' h
 unfold mk7 at h
 split at h
 ·exact okT (TB:=bk) Try.func152 (bf (dV.k F) cw) af.no ((dW.eqX F (dV.tw F) _ _ H).trans h) (by kernel_rfl)
 ·cases h
def dQ.twX (F:Nat) (lN:VW) (aa:Int) (av:Nat) (aC:Nat) (H:Hp):OA:=(Hp.ldI H .i64 av aC).bind λn4=>(lN n4 aa H).bind λr5=>((r5.1).asB).bind λb6=>some ((.bool (!b6)),r5.2)
def dQ.tw:=dQ.twX F (dW.tw F)
def mk8 (g:VX) (args:VS) (H:Hp):OA:=match args with
 | [(.int .i64 aa),(.ptr av aC)]=>g aa av aC H
 | _=>none
theorem mk8_E (g:VX) (aa:Int) (av:Nat) (aC:Nat) (H:Hp):mk8 g [(.int .i64 aa),(.ptr av aC)] H=g aa av aC H:=rfl
def dQ.cs (F:Nat) (lN:VW):Cs:=[(152,mk7 lN)]
theorem dQ.eqX (lN:VW) (aa:Int) (av:Nat) (aC:Nat) (H:Hp):EX (bw (dQ.cs F lN)) bk lh0 F Try.f151 [(.int .i64 aa),(.ptr av aC)] H=dQ.twX F lN aa av aC H:=by kernel_rfl
theorem dQ.k:Ok Try.prog 151 (mk8 (dQ.tw F)):=by
 intro args H v H' h
 unfold mk8 at h
 split at h
 ·exact okT (TB:=bk) Try.func151 (bf (dW.k F) cw) af.no ((dQ.eqX F (dW.tw F) _ _ _ H).trans h) (by kernel_rfl)
 ·cases h
def bS.l13 (F:Nat) (fm:VX) :Nat->Sl->Nat->Nat->Int->Int->Hp->OA
 | 0,_,_,_,_,_,_=>none
 | nq+1,fo,av,aC,ib,fL,H8=>(bif (decide (fL<ib)) then ((Sl.idx fo fL 1).bind λp13=>(Hp.ldI H8 .i64 p13.1 p13.2).bind λn14=>(fm n14 av aC H8).bind λr15=>((r15.1).asB).bind λb16=>(bif b16 then (some ((.int .i64 fL),r15.2)) else (bS.l13 F fm nq fo av aC ib (wrap .i64 (fL+1)) r15.2))) else (some ((.int .i64 (-1)),H8)))
termination_by structural n=>n
def bS.twX (fm:VX) (aa:Sl) (av:Nat) (aC:Nat) (H:Hp):OA:=bS.l13 F fm F aa av aC (aa.n:Int) 0 H
def bS.tw:=bS.twX F (dQ.tw F)
def bS.lh13 (fm:VX) (ks:VM) (n:Nat) (tm:Tm) (H:Hp):OA:=match ks,tm 0,tm 1,tm 7,tm 8 with
 | [],(.sl fo),(.fn 151 [(.ptr av aC)]),(.int .i64 ib),(.int .i64 fL)=>bS.l13 F fm n fo av aC ib fL H
 | _,_,_,_,_=>none
def bS.lh (fm:VX) (p:Nat) (ks:VM) (n:Nat) (tm:Tm) (H:Hp):OA:=bif p.beq 13 then bS.lh13 F fm ks n tm H else (none)
def mk9 (g:V_) (args:VS) (H:Hp):OA:=match args with
 | [(.sl aa),(.fn 151 [(.ptr av aC)])]=>g aa av aC H
 | _=>none
theorem mk9_E (g:V_) (aa:Sl) (av:Nat) (aC:Nat) (H:Hp):mk9 g [(.sl aa),(.fn 151 [(.ptr av aC)])] H=g aa av aC H:=rfl
def bS.cs (F:Nat) (fm:VX):Cs:=[(151,mk8 fm)]
theorem bS.loops (fm:VX):LO (bw (bS.cs F fm)) bk (bS.lh F fm) F Try.f184:=
 (af.rt (af.lt (af.rt (af.block (af.la (λn tm H r h=>by change bS.lh13 F fm [] n tm H=_ at h;unfold bS.lh13 at h;split at h;have e:cR tm [(0,_),(1,_),(7,_),(8,_)]:=⟨‹_›,‹_›,‹_›,‹_›,trivial⟩;obtain _ | k13:=n;cases h;exact ⟨_,rfl,by rw [<- cS e];exact Eq.trans (by kernel_rfl) h⟩;cases h) λk13=>af.no)))))
theorem bS.eqX (fm:VX) (aa:Sl) (av:Nat) (aC:Nat) (H:Hp):EX (bw (bS.cs F fm)) bk (bS.lh F fm) F Try.f184 [(.sl aa),(.fn 151 [(.ptr av aC)])] H=bS.twX F fm aa av aC H:=by kernel_rfl
theorem bS.k:Ok Try.prog 184 (mk9 (bS.tw F)):=by
 intro args H v H' h
 unfold mk9 at h
 split at h
 ·exact okT (TB:=bk) Try.func184 (bf (dQ.k F) cw) (bS.loops F (dQ.tw F)) ((bS.eqX F (dQ.tw F) _ _ _ H).trans h) (by kernel_rfl)
 ·cases h
def ee.twX (F:Nat) (lO:V_) (aa:Sl) (av:Nat) (aC:Nat) (H:Hp):OA:=(lO aa av aC H).bind λr4=>((r4.1).asI .i64).bind λn5=>some ((.bool (decide (n5>=0))),r4.2)
def ee.tw:=ee.twX F (bS.tw F)
def ee.cs (F:Nat) (lO:V_):Cs:=[(184,mk9 lO)]
theorem ee.eqX (lO:V_) (aa:Sl) (av:Nat) (aC:Nat) (H:Hp):EX (bw (ee.cs F lO)) bk lh0 F Try.f150 [(.sl aa),(.fn 151 [(.ptr av aC)])] H=ee.twX F lO aa av aC H:=by kernel_rfl
theorem ee.k:Ok Try.prog 150 (mk9 (ee.tw F)):=by
 intro args H v H' h
 unfold mk9 at h
 split at h
 ·exact okT (TB:=bk) Try.func150 (bf (bS.k F) cw) af.no ((ee.eqX F (bS.tw F) _ _ _ H).trans h) (by kernel_rfl)
 ·cases h
def b_.twX (F:Nat) (gE:VT) (lP:V_) (aa:Int) (aF:Sl) (H:Hp):OA:=(Hp.new H [(.int .i64 aa),(.sl aF)]).bind λH3=>(Hp.ldI H3 .i64 H.length 0).bind λn4=>(gE n4 1 6 H3).bind λr5=>((r5.1).asB).bind λb6=>(bif b6 then ((Hp.ldSl r5.2 H.length 1).bind λs7=>(bif (decide ((s7.n:Int)<=24)) then ((Hp.ldSl r5.2 H.length 1).bind λs8=>(lP s8 H.length 0 r5.2).bind λr9=>((r9.1).asB).bind λb10=>some ((.bool (!b10)),r9.2)) else (some ((.bool false),r5.2)))) else (some ((.bool false),r5.2)))
def b_.tw:=b_.twX F (dV.tw F) (ee.tw F)
def b_.cs (F:Nat) (gE:VT) (lP:V_):Cs:=[(112,mk6 gE),(150,mk9 lP)]
theorem b_.eqX (gE:VT) (lP:V_) (aa:Int) (aF:Sl) (H:Hp):EX (bw (b_.cs F gE lP)) bk lh0 F Try.f96 [(.agg [(.int .i64 aa),(.sl aF)])] H=b_.twX F gE lP aa aF H:=by kernel_rfl
theorem b_.k:Ok Try.prog 96 (mk3 (b_.tw F)):=by
 intro args H v H' h
 unfold mk3 at h
 split at h
 ·exact okT (TB:=bk) Try.func96 (bf (dV.k F) (bf (ee.k F) cw)) af.no ((b_.eqX F (dV.tw F) (ee.tw F) _ _ H).trans h) (by kernel_rfl)
 ·cases h
def bc.l29 (F:Nat) :Nat->Sl->Int->Int->Hp->OA
 | 0,_,_,_,_=>none
 | bB+1,cP,ic,fM,H7=>(bif (decide (fM<ic)) then ((Hp.new H7 [(.int .i64 fM)]).bind λH11=>(Sl.row H11 (⟨some (H7.length,0),1,.ex 1⟩:Sl) 1).bind λxs13=>(Hp.app H11 1 8 cP (⟨some (H7.length,0),1,.ex 1⟩:Sl).n xs13).bind λa12=>bc.l29 F bB a12.1 ic (wrap .i64 (fM+1)) a12.2) else (some ((.sl cP),H7)))
def bc.twX (aa:Int) (H:Hp):OA:=bc.l29 F F (⟨none,0,.ex 0⟩:Sl) aa 0 H
def bc.tw:=bc.twX F
def bc.lh29 (ks:VM) (n:Nat) (tm:Tm) (H:Hp):OA:=match ks,tm 3,tm 5,tm 6 with
 | [],(.sl cP),(.int .i64 ic),(.int .i64 fM)=>bc.l29 F n cP ic fM H
 | _,_,_,_=>none
def bc.lh (p:Nat) (ks:VM) (n:Nat) (tm:Tm) (H:Hp):OA:=bif p.beq 29 then bc.lh29 F ks n tm H else (none)
theorem bc.loops:LO (bw []) bk (bc.lh F) F Try.f125:=
 (af.rt (af.rt (af.lt (af.rt (af.block (af.la (λn tm H r h=>by change bc.lh29 F [] n tm H=_ at h;unfold bc.lh29 at h;split at h;have e:cR tm [(3,_),(5,_),(6,_)]:=⟨‹_›,‹_›,‹_›,trivial⟩;obtain _ | k29:=n;cases h;exact ⟨_,rfl,by rw [<- cS e];exact Eq.trans (by kernel_rfl) h⟩;cases h) λk29=>af.no))))))
theorem bc.k:Ok Try.prog 125 (mk4 (bc.tw F)):=by
 intro args H v H' h
 unfold mk4 at h
 split at h
 ·exact okT (PN:=bk) (LH:=(bc.lh F)) (F:=F) (TB:=bk) Try.func125 cw (bc.loops F) (Eq.trans (by kernel_rfl) h) (by kernel_rfl)
 ·cases h
def db.twX (F:Nat) (aa:Sl) (H:Hp):OA:=some ((.int .i64 (aa.n:Int)),H)
def db.tw:=db.twX F
theorem db.k:Ok Try.prog 113 (mk0 (db.tw F)):=by
 intro args H v H' h
 unfold mk0 at h
 split at h
 ·exact ok0 Try.func113 (Eq.trans (by kernel_rfl) h) (by kernel_rfl) (by kernel_rfl)
 ·cases h
def bx.l61 (F:Nat) (bT:VG) :Nat->Int->Sl->Sl->Int->Int->Hp->OA
 | 0,_,_,_,_,_,_=>none
 | jB+1,ef,dX,rh,ig,fN,H12=>(bif (decide (fN<ig)) then ((Sl.idx rh fN 1).bind λp17=>(Hp.ldI H12 .i64 p17.1 p17.2).bind λn18=>(Sl.idx dX (wrap .i64 (ef - fN)) 1).bind λp19=>(Hp.st H12 p19.1 p19.2 (.int .i64 (wrap .i64 (ef - n18)))).bind λH20=>bx.l61 F bT jB ef dX rh ig (wrap .i64 (fN+1)) H20) else (some ((.sl dX),H12)))
def bx.twX (bT:VG) (aa:Sl) (H:Hp):OA:=(bT aa H).bind λr2=>((r2.1).asI .i64).bind λn3=>(Hp.mk r2.2 [.int .i64 0] 8 (aa.n:Int) (aa.n:Int)).bind λm4=>bx.l61 F bT F (wrap .i64 (n3 - 1)) m4.1 aa (aa.n:Int) 0 m4.2
def bx.tw:=bx.twX F (db.tw F)
def bx.lh61 (bT:VG) (ks:VM) (n:Nat) (tm:Tm) (H:Hp):OA:=match ks,tm 3,tm 4,tm 13,tm 14,tm 15 with
 | [],(.int .i64 ef),(.sl dX),(.sl rh),(.int .i64 ig),(.int .i64 fN)=>bx.l61 F bT n ef dX rh ig fN H
 | _,_,_,_,_,_=>none
def bx.lh (bT:VG) (p:Nat) (ks:VM) (n:Nat) (tm:Tm) (H:Hp):OA:=bif p.beq 61 then bx.lh61 F bT ks n tm H else (none)
def bx.cs (F:Nat) (bT:VG):Cs:=[(113,mk0 bT)]
theorem bx.loops (bT:VG):LO (bw (bx.cs F bT)) bk (bx.lh F bT) F Try.f185:=
 (af.rt (af.rt (af.rt (af.lt (af.rt (af.block (af.la (λn tm H r h=>by change bx.lh61 F bT [] n tm H=_ at h;unfold bx.lh61 at h;split at h;have e:cR tm [(3,_),(4,_),(13,_),(14,_),(15,_)]:=⟨‹_›,‹_›,‹_›,‹_›,‹_›,trivial⟩;obtain _ | k61:=n;cases h;exact ⟨_,rfl,by rw [<- cS e];exact Eq.trans (by kernel_rfl) h⟩;cases h) λk61=>af.no)))))))
theorem bx.eqX (bT:VG) (aa:Sl) (H:Hp):EX (bw (bx.cs F bT)) bk (bx.lh F bT) F Try.f185 [(.sl aa)] H=bx.twX F bT aa H:=by kernel_rfl
theorem bx.k:Ok Try.prog 185 (mk0 (bx.tw F)):=by
 intro args H v H' h
 unfold mk0 at h
 split at h
 ·exact okT (TB:=bk) Try.func185 (bf (db.k F) cw) (bx.loops F (db.tw F)) ((bx.eqX F (db.tw F) _ H).trans h) (by kernel_rfl)
 ·cases h
def ch.l3 (F:Nat) :Nat->Sl->Int->Int->Hp->OA
 | 0,_,_,_,_=>none
 | Li+1,gZ,fO,cP,H5=>(bif (decide (fO<cP)) then ((Sl.idx gZ cP 1).bind λp14=>(Hp.ldI H5 .i64 p14.1 p14.2).bind λn15=>(Sl.idx gZ fO 1).bind λp16=>(Hp.ldI H5 .i64 p16.1 p16.2).bind λn17=>(Sl.idx gZ fO 1).bind λp18=>(Hp.st H5 p18.1 p18.2 (.int .i64 n15)).bind λH19=>(Sl.idx gZ cP 1).bind λp20=>(Hp.st H19 p20.1 p20.2 (.int .i64 n17)).bind λH21=>ch.l3 F Li gZ (wrap .i64 (fO+1)) (wrap .i64 (cP - 1)) H21) else (some ((.tup []),H5)))
def ch.twX (aa:Sl) (H:Hp):OA:=ch.l3 F F aa 0 (wrap .i64 ((aa.n:Int) - 1)) H
def ch.tw:=ch.twX F
def ch.lh3 (ks:VM) (n:Nat) (tm:Tm) (H:Hp):OA:=match ks,tm 0,tm 2,tm 3 with
 | [],(.sl gZ),(.int .i64 fO),(.int .i64 cP)=>ch.l3 F n gZ fO cP H
 | _,_,_,_=>none
def ch.lh (p:Nat) (ks:VM) (n:Nat) (tm:Tm) (H:Hp):OA:=bif p.beq 3 then ch.lh3 F ks n tm H else (none)
def ch.pn:Nat->List Nat:=cG [(3,[13,15])]
def ch.tb:Nat->List (List Nat):=cG [(3,[[],[],[],[],[],[],[4,5],[4,5,6],[],[],[8,9],[8,9,10],[0,1,4,5,6,7,8,9,10,11],[0,1,4,5,6,7,8,9,10,11,12],[0,1,2,3,4,5,6,7,8,9,10,11,12,13],[0,1,2,3,4,5,6,7,8,9,10,11,12,13,14]])]
theorem ch.loops:LO (bw []) ch.pn (ch.lh F) F Try.f210:=
 (af.rt (af.block (af.la (λn tm H r h=>by change ch.lh3 F [] n tm H=_ at h;unfold ch.lh3 at h;split at h;have e:cR tm [(0,_),(2,_),(3,_)]:=⟨‹_›,‹_›,‹_›,trivial⟩;obtain _ | k3:=n;cases h;exact ⟨_,rfl,by rw [<- cS e];exact Eq.trans (by kernel_rfl) h⟩;cases h) λk3=>af.no)))
theorem ch.k:Ok Try.prog 210 (mk0 (ch.tw F)):=by
 intro args H v H' h
 unfold mk0 at h
 split at h
 ·exact okT (PN:=ch.pn) (LH:=(ch.lh F)) (F:=F) (TB:=ch.tb) Try.func210 cw (ch.loops F) (Eq.trans (by kernel_rfl) h) (by kernel_rfl)
 ·cases h
def cy.twX (F:Nat) (aO:VF) (lQ:VG) (aa:Int) (H:Hp):OA:=(aO aa H).bind λr2=>((r2.1).asSl).bind λs3=>(lQ s3 r2.2).bind λr4=>some ((.sl s3),r4.2)
def cy.tw:=cy.twX F (bc.tw F) (ch.tw F)
def cy.cs (F:Nat) (aO:VF) (lQ:VG):Cs:=[(125,mk4 aO),(210,mk0 lQ)]
theorem cy.eqX (aO:VF) (lQ:VG) (aa:Int) (H:Hp):EX (bw (cy.cs F aO lQ)) bk lh0 F Try.f186 [(.int .i64 aa)] H=cy.twX F aO lQ aa H:=by kernel_rfl
theorem cy.k:Ok Try.prog 186 (mk4 (cy.tw F)):=by
 intro args H v H' h
 unfold mk4 at h
 split at h
 ·exact okT (TB:=bk) Try.func186 (bf (bc.k F) (bf (ch.k F) cw)) af.no ((cy.eqX F (bc.tw F) (ch.tw F) _ H).trans h) (by kernel_rfl)
 ·cases h
def a_.l29 (F:Nat) :Nat->Sl->Sl->Int->Int->Hp->OA
 | 0,_,_,_,_,_=>none
 | bB+1,cn,ri,ii,fP,H9=>(bif (decide (fP<ii)) then ((Sl.idx ri fP 1).bind λp14=>(Hp.ldI H9 .i64 p14.1 p14.2).bind λn15=>(Sl.idx cn n15 1).bind λp16=>(Hp.st H9 p16.1 p16.2 (.int .i64 fP)).bind λH17=>a_.l29 F bB cn ri ii (wrap .i64 (fP+1)) H17) else (some ((.sl cn),H9)))
def a_.twX (aa:Sl) (H:Hp):OA:=(Hp.mk H [.int .i64 0] 8 (aa.n:Int) (aa.n:Int)).bind λm2=>a_.l29 F F m2.1 aa (aa.n:Int) 0 m2.2
def a_.tw:=a_.twX F
def a_.lh29 (ks:VM) (n:Nat) (tm:Tm) (H:Hp):OA:=match ks,tm 3,tm 9,tm 10,tm 11 with
 | [],(.sl cn),(.sl ri),(.int .i64 ii),(.int .i64 fP)=>a_.l29 F n cn ri ii fP H
 | _,_,_,_,_=>none
def a_.lh (p:Nat) (ks:VM) (n:Nat) (tm:Tm) (H:Hp):OA:=bif p.beq 29 then a_.lh29 F ks n tm H else (none)
theorem a_.loops:LO (bw []) bk (a_.lh F) F Try.f126:=
 (af.rt (af.rt (af.lt (af.rt (af.block (af.la (λn tm H r h=>by change a_.lh29 F [] n tm H=_ at h;unfold a_.lh29 at h;split at h;have e:cR tm [(3,_),(9,_),(10,_),(11,_)]:=⟨‹_›,‹_›,‹_›,‹_›,trivial⟩;obtain _ | k29:=n;cases h;exact ⟨_,rfl,by rw [<- cS e];exact Eq.trans (by kernel_rfl) h⟩;cases h) λk29=>af.no))))))
theorem a_.k:Ok Try.prog 126 (mk0 (a_.tw F)):=by
 intro args H v H' h
 unfold mk0 at h
 split at h
 ·exact okT (PN:=bk) (LH:=(a_.lh F)) (F:=F) (TB:=bk) Try.func126 cw (a_.loops F) (Eq.trans (by kernel_rfl) h) (by kernel_rfl)
 ·cases h
def cE.twX (F:Nat) (aa:Int) (H:Hp):OA:=(bif (decide (aa<0)) then (some ((.int .i64 (wrap .i64 (0 - aa))),H)) else (some ((.int .i64 aa),H)))
def cE.tw:=cE.twX F
theorem cE.k:Ok Try.prog 87 (mk4 (cE.tw F)):=by
 intro args H v H' h
 unfold mk4 at h
 split at h
 ·exact ok0 Try.func87 (Eq.trans (by kernel_rfl) h) (by kernel_rfl) (by kernel_rfl)
 ·cases h
def bP.twX (F:Nat) (aa:Sl) (av:Int) (H:Hp):OA:=(Sl.idx aa av 1).bind λp3=>(Hp.ldI H .i64 p3.1 p3.2).bind λn4=>(Sl.idx aa (wrap .i64 (av - 1)) 1).bind λp5=>(Hp.ldI H .i64 p5.1 p5.2).bind λn6=>(Sl.idx aa (wrap .i64 (av - 1)) 1).bind λp7=>(Hp.st H p7.1 p7.2 (.int .i64 n4)).bind λH8=>(Sl.idx aa av 1).bind λp9=>(Hp.st H8 p9.1 p9.2 (.int .i64 n6)).bind λH10=>some ((.tup []),H10)
def bP.tw:=bP.twX F
def bP.pn:Nat->List Nat:=cG [(0,[15,17])]
def bP.tb:Nat->List (List Nat):=cG [(0,[[],[],[1],[],[],[],[],[5,6],[5,6,7],[],[],[10],[9,10,11],[9,10,11,12],[0,1,2,5,6,7,8,9,10,11,12,13],[0,1,2,5,6,7,8,9,10,11,12,13,14],[0,1,2,3,4,5,6,7,8,9,10,11,12,13,14,15],[0,1,2,3,4,5,6,7,8,9,10,11,12,13,14,15,16]])]
def mk10 (g:VK) (args:VS) (H:Hp):OA:=match args with
 | [(.sl aa),(.int .i64 av)]=>g aa av H
 | _=>none
theorem mk10_E (g:VK) (aa:Sl) (av:Int) (H:Hp):mk10 g [(.sl aa),(.int .i64 av)] H=g aa av H:=rfl
theorem bP.k:Ok Try.prog 117 (mk10 (bP.tw F)):=by
 intro args H v H' h
 unfold mk10 at h
 split at h
 ·exact okT (PN:=bP.pn) (LH:=lh0) (F:=F) (TB:=bP.tb) Try.func117 cw af.no (Eq.trans (by kernel_rfl) h) (by kernel_rfl)
 ·cases h
def cz.j1 (F:Nat) (aO:VF) (eg:VG) (bh:VF) (aV:VG) (cB:VF) (ba:VK) (Ab:Nat) (Ac:Nat) (Lj:Int) (Lk:Sl) (H50:Hp):OA:=(aV Lk H50).bind λr51=>((r51.1).asSl).bind λs52=>(cB Lj r51.2).bind λr53=>((r53.1).asI .i64).bind λn54=>(ba s52 n54 r53.2).bind λr55=>(Hp.ldSl r55.2 Ab (Ac+2)).bind λs56=>(aV s52 r55.2).bind λr57=>((r57.1).asSl).bind λs58=>(if aK r55.2 r57.2 then ((Hp.new r57.2 [(.sl s58)]).bind λH59=>(Sl.row H59 (⟨some (r57.2.length,0),1,.ex 1⟩:Sl) 1).bind λxs61=>(Hp.app H59 1 24 s56 (⟨some (r57.2.length,0),1,.ex 1⟩:Sl).n xs61).bind λa60=>(Hp.st a60.2 Ab (Ac+2) (.sl a60.1)).bind λH62=>some ((.tup []),H62)) else none)
def cz.j2 (aO:VF) (eg:VG) (bh:VF) (aV:VG) (cB:VF) (ba:VK) (rj:Nat) (lR:Nat) (uP:Int) (H33:Hp):OA:=(Hp.ldI H33 .i64 rj (lR+1)).bind λn34=>(Hp.st H33 rj (lR+1) (.int .i64 (wrap .i64 (n34 - 1)))).bind λH35=>(Hp.ldI H35 .i64 rj lR).bind λn36=>(bh n36 H35).bind λr37=>((r37.1).asSl).bind λs38=>(aV s38 r37.2).bind λr39=>((r39.1).asSl).bind λs40=>cz.j1 F aO eg bh aV cB ba rj lR uP s40 r39.2
def cz.l105 (F:Nat) (aO:VF) (eg:VG) (bh:VF) (aV:VG) (cB:VF) (ba:VK) :Nat->Nat->Nat->Int->Sl->Int->Int->Hp->OA
 | 0,_,_,_,_,_,_,_=>none
 | Ll+1,nr,ns,eF,rk,rl,lT,H16=>(bif (decide (lT<rl)) then ((Sl.idx rk lT 1).bind λp63=>(Hp.ldSl H16 p63.1 p63.2).bind λs64=>(Hp.ldSl H16 nr (ns+2)).bind λs65=>(eg s64 H16).bind λr66=>((r66.1).asSl).bind λs67=>(if aK H16 r66.2 then ((Sl.idx s65 lT 1).bind λp68=>(Hp.st r66.2 p68.1 p68.2 (.sl s67)).bind λH69=>cz.l105 F aO eg bh aV cB ba Ll nr ns eF rk rl (wrap .i64 (lT+1)) H69) else none)) else (cz.j2 F aO eg bh aV cB ba nr ns eF H16))
termination_by structural n=>n
def cz.j3 (F:Nat) (aO:VF) (eg:VG) (bh:VF) (aV:VG) (cB:VF) (ba:VK) (Ad:Nat) (Ae:Nat) (Lm:Int) (Ln:Sl) (H75:Hp):OA:=(aV Ln H75).bind λr76=>((r76.1).asSl).bind λs77=>(cB Lm r76.2).bind λr78=>((r78.1).asI .i64).bind λn79=>(ba s77 n79 r78.2).bind λr80=>(Hp.ldSl r80.2 Ad (Ae+2)).bind λs81=>(aV s77 r80.2).bind λr82=>((r82.1).asSl).bind λs83=>(if aK r80.2 r82.2 then ((Hp.new r82.2 [(.sl s83)]).bind λH84=>(Sl.row H84 (⟨some (r82.2.length,0),1,.ex 1⟩:Sl) 1).bind λxs86=>(Hp.app H84 1 24 s81 (⟨some (r82.2.length,0),1,.ex 1⟩:Sl).n xs86).bind λa85=>(Hp.st a85.2 Ad (Ae+2) (.sl a85.1)).bind λH87=>some ((.tup []),H87)) else none)
def cz.twX (aO:VF) (eg:VG) (bh:VF) (aV:VG) (cB:VF) (ba:VK) (aa:Nat) (aF:Nat) (aC:Int) (H:Hp):OA:=(Hp.ldI H .i64 aa aF).bind λn4=>(aO n4 H).bind λr5=>((r5.1).asSl).bind λs6=>(bif (decide (aC<0)) then ((Hp.ldSl r5.2 aa (aF+2)).bind λs7=>cz.l105 F aO eg bh aV cB ba F aa aF aC s7 (s7.n:Int) 0 r5.2) else (cz.j3 F aO eg bh aV cB ba aa aF aC s6 r5.2))
def cz.tw:=cz.twX F (bc.tw F) (bx.tw F) (cy.tw F) (a_.tw F) (cE.tw F) (bP.tw F)
def cz.lh105 (aO:VF) (eg:VG) (bh:VF) (aV:VG) (cB:VF) (ba:VK) (ks:VM) (n:Nat) (tm:Tm) (H:Hp):OA:=match ks,tm 0,tm 1,tm 18,tm 19,tm 20 with
 | [],(.ptr nr ns),(.int .i64 eF),(.sl rk),(.int .i64 rl),(.int .i64 lT)=>cz.l105 F aO eg bh aV cB ba n nr ns eF rk rl lT H
 | _,_,_,_,_,_=>none
def cz.lh (aO:VF) (eg:VG) (bh:VF) (aV:VG) (cB:VF) (ba:VK) (p:Nat) (ks:VM) (n:Nat) (tm:Tm) (H:Hp):OA:=bif p.beq 105 then cz.lh105 F aO eg bh aV cB ba ks n tm H else (none)
def cz.pn:Nat->List Nat:=cG [(5,[8]),(11,[8,11])]
def cz.tb:Nat->List (List Nat):=cG [(5,[[],[0],[0,1],[0,1,2],[],[],[5],[0,1,2,3,4,5,6],[0,1,2,3,4,5,6,7]]),(11,[[],[],[1],[1,2],[1,2,3],[],[5],[5,6],[1,2,3,4,5,6,7],[0,1,2,3,4,5,6,7,8],[0,1,2,3,4,5,6,7,8,9],[0,1,2,3,4,5,6,7,8,9,10]])]
def cz.cs (F:Nat) (aO:VF) (eg:VG) (bh:VF) (aV:VG) (cB:VF) (ba:VK):Cs:=[(125,mk4 aO),(185,mk0 eg),(186,mk4 bh),(126,mk0 aV),(87,mk4 cB),(117,mk10 ba)]
theorem cz.loops (aO:VF) (eg:VG) (bh:VF) (aV:VG) (cB:VF) (ba:VK):LO (bw (cz.cs F aO eg bh aV cB ba)) cz.pn (cz.lh F aO eg bh aV cB ba) F Try.f153:=
 (af.rt (af.lt (af.rt (af.cond (af.lt (af.rt (af.block (af.la (λn tm H r h=>by change cz.lh105 F aO eg bh aV cB ba [] n tm H=_ at h;unfold cz.lh105 at h;split at h;have e:cR tm [(0,_),(1,_),(18,_),(19,_),(20,_)]:=⟨‹_›,‹_›,‹_›,‹_›,‹_›,trivial⟩;obtain _ | k105:=n;cases h;exact ⟨_,rfl,by rw [<- cS e];exact Eq.trans (by kernel_rfl) h⟩;cases h) λk105=>af.no)))) af.no))))
theorem cz.eqX (aO:VF) (eg:VG) (bh:VF) (aV:VG) (cB:VF) (ba:VK) (aa:Nat) (aF:Nat) (aC:Int) (H:Hp):EX (bw (cz.cs F aO eg bh aV cB ba)) cz.pn (cz.lh F aO eg bh aV cB ba) F Try.f153 [(.ptr aa aF),(.int .i64 aC)] H=cz.twX F aO eg bh aV cB ba aa aF aC H:=by kernel_rfl
theorem cz.k:Ok Try.prog 153 (mk1 (cz.tw F)):=by
 intro args H v H' h
 unfold mk1 at h
 split at h
 ·exact okT (TB:=cz.tb) Try.func153 (bf (bc.k F) (bf (bx.k F) (bf (cy.k F) (bf (a_.k F) (bf (cE.k F) (bf (bP.k F) cw)))))) (cz.loops F (bc.tw F) (bx.tw F) (cy.tw F) (a_.tw F) (cE.tw F) (bP.tw F)) ((cz.eqX F (bc.tw F) (bx.tw F) (cy.tw F) (a_.tw F) (cE.tw F) (bP.tw F) _ _ _ H).trans h) (by kernel_rfl)
 ·cases h
def aB.j6 (F:Nat) (aV:VG) (bT:VG) (ba:VK) (C29_:Wc) (Lo:Sl) (Lr:Sl) (lU:Bool) (lV:Bool) (H148:Hp):OA:=C29_ Lo Lr lU lV H148
def aB.j7 (aV:VG) (bT:VG) (ba:VK) (C29_:Wc) (Lu:Sl) (Lv:Sl) (lW:Bool) (lX:Bool) (H138:Hp):OA:=aB.j6 F aV bT ba C29_ Lu Lv lW lX H138
def aB.j8 (F:Nat) (aV:VG) (bT:VG) (ba:VK) (C943_:Wp) (Lw:Sl) (Lx:Sl) (lY:Bool) (lZ:Bool) (uQ:Sl) (l_:Int) (H174:Hp):OA:=C943_ Lw Lx lY lZ uQ (wrap .i64 (l_+1)) H174
def aB.l943 (F:Nat) (aV:VG) (bT:VG) (ba:VK) (C29_:Wc):Nat->Sl->Sl->Bool->Bool->Sl->Int->Hp->OA
 | 0,_,_,_,_,_,_,_=>none
 | uR+1,jC,i_,gF,gG,ja,dy,H102=>(bT jC H102).bind λr149=>((r149.1).asI .i64).bind λn150=>(bif (decide (dy<n150)) then ((Sl.idx i_ (wrap .i64 (dy - 1)) 1).bind λp151=>(Hp.ldI r149.2 .i64 p151.1 p151.2).bind λn152=>(Sl.idx i_ dy 1).bind λp153=>(Hp.ldI r149.2 .i64 p153.1 p153.2).bind λn154=>(bif (decide (n152>n154)) then ((Sl.idx ja (wrap .i64 (dy - 1)) 1).bind λp155=>(Hp.ldI r149.2 .i64 p155.1 p155.2).bind λn156=>(Sl.idx ja dy 1).bind λp157=>(Hp.ldI r149.2 .i64 p157.1 p157.2).bind λn158=>(bif (decide (n156<n158)) then ((ba i_ dy r149.2).bind λr159=>(ba ja dy r159.2).bind λr160=>(aV ja r160.2).bind λr161=>((r161.1).asSl).bind λs162=>(Hp.cpy r161.2 1 jC s162).bind λc163=>aB.j8 F aV bT ba (aB.l943 F aV bT ba C29_ uR) jC i_ true true ja dy c163.2) else (aB.j8 F aV bT ba (aB.l943 F aV bT ba C29_ uR) jC i_ gF gG ja dy r149.2))) else (aB.l943 F aV bT ba C29_ uR jC i_ gF gG ja (wrap .i64 (dy+1)) r149.2))) else (aB.j7 F aV bT ba C29_ jC i_ gF gG r149.2))
def aB.l29 (F:Nat) (aV:VG) (bT:VG) (ba:VK) :Nat->Sl->Sl->Bool->Bool->Hp->OA
 | 0,_,_,_,_,_=>none
 | bB+1,bz,ev,ij,jb,H8=>(bif jb then ((aV bz H8).bind λr92=>((r92.1).asSl).bind λs93=>aB.l943 F aV bT ba (aB.l29 F aV bT ba bB) F bz ev ij false s93 1 r92.2) else (some ((.bool ij),H8)))
def aB.twX (aV:VG) (bT:VG) (ba:VK) (aa:Sl) (av:Sl) (H:Hp):OA:=aB.l29 F aV bT ba F aa av false true H
def aB.tw:=aB.twX F (a_.tw F) (db.tw F) (bP.tw F)
def aB.lh29 (aV:VG) (bT:VG) (ba:VK) (ks:VM) (n:Nat) (tm:Tm) (H:Hp):OA:=match ks,tm 0,tm 1,tm 5,tm 6 with
 | [],(.sl bz),(.sl ev),(.bool ij),(.bool jb)=>aB.l29 F aV bT ba n bz ev ij jb H
 | _,_,_,_,_=>none
def aB.lh943 (aV:VG) (bT:VG) (ba:VK) (ks:VM) (n:Nat) (tm:Tm) (H:Hp):OA:=match ks,tm 0,tm 1,tm 5,tm 6,tm 7,tm 8 with
 | [bB],(.sl jC),(.sl i_),(.bool gF),(.bool gG),(.sl ja),(.int .i64 dy)=>aB.l943 F aV bT ba (aB.l29 F aV bT ba bB) n jC i_ gF gG ja dy H
 | _,_,_,_,_,_,_=>none
def aB.lh (aV:VG) (bT:VG) (ba:VK) (p:Nat) (ks:VM) (n:Nat) (tm:Tm) (H:Hp):OA:=bif p.beq 943 then aB.lh943 F aV bT ba ks n tm H else (bif p.beq 29 then aB.lh29 F aV bT ba ks n tm H else (none))
def aB.tb:Nat->List (List Nat):=cG [(9,[[],[],[1],[0,1,2],[0,1,2,3],[],[],[5,6],[5,6,7],[0,1,2,3,4,5,6,7,8],[0,1,2,3,4,5,6,7,8,9],[0,1,2,3,4,5,6,7,8,9,10],[0,1,2,3,4,5,6,7,8,9,10],[0,1,2,3,4,5,6,7,8,9,10,12],[0,1,2,3,4,5,6,7,8,9,10,11,12,13],[0,1,2,3,4,5,6,7,8,9,10,11,12,13,14],[0,1,2,3,4,5,6,7,8,9,10],[0,1,2,3,4,5,6,7,8,9,10],[0,1,2,3,4,5,6,7,8,9,10,16,17],[0,1,2,3,4,5,6,7,8,9,10,16,17,18],[0,1,2,3,4,5,6,7,8,9,10,11,12,13,14,15,16,17,18,19],[0,1,2,3,4,5,6,7,8,9,10,11,12,13,14,15,16,17,18,19,20]])]
def mk11 (g:VI) (args:VS) (H:Hp):OA:=match args with
 | [(.sl aa),(.sl av)]=>g aa av H
 | _=>none
theorem mk11_E (g:VI) (aa:Sl) (av:Sl) (H:Hp):mk11 g [(.sl aa),(.sl av)] H=g aa av H:=rfl
def aB.cs (F:Nat) (aV:VG) (bT:VG) (ba:VK):Cs:=[(126,mk0 aV),(113,mk0 bT),(117,mk10 ba)]
theorem aB.loops (aV:VG) (bT:VG) (ba:VK):LO (bw (aB.cs F aV bT ba)) bk (aB.lh F aV bT ba) F Try.f187:=
 (af.rt (af.rt (af.lt (af.rt (af.block (af.la (λn tm H r h=>by change aB.lh29 F aV bT ba [] n tm H=_ at h;unfold aB.lh29 at h;split at h;have e:cR tm [(0,_),(1,_),(5,_),(6,_)]:=⟨‹_›,‹_›,‹_›,‹_›,trivial⟩;obtain _ | k29:=n;cases h;exact ⟨_,rfl,by rw [<- cS e];exact Eq.trans (by kernel_rfl) h⟩;cases h) λk29=>(af.rt (af.block (af.rt (af.rt (af.rt (af.block (af.la (λn tm H r h=>by change aB.lh943 F aV bT ba [k29] n tm H=_ at h;unfold aB.lh943 at h;split at h;have e:cR tm [(0,_),(1,_),(5,_),(6,_),(7,_),(8,_)]:=⟨‹_›,‹_›,‹_›,‹_›,‹_›,‹_›,trivial⟩;cases (show [k29]=_ from ‹_›);obtain _ | k943:=n;cases h;exact ⟨_,rfl,by rw [<- cS e];exact Eq.trans (by kernel_rfl) h⟩;cases h) λk943=>af.no)))))))))))))
theorem aB.eqX (aV:VG) (bT:VG) (ba:VK) (aa:Sl) (av:Sl) (H:Hp):EX (bw (aB.cs F aV bT ba)) bk (aB.lh F aV bT ba) F Try.f187 [(.sl aa),(.sl av)] H=aB.twX F aV bT ba aa av H:=by kernel_rfl
theorem aB.k:Ok Try.prog 187 (mk11 (aB.tw F)):=by
 intro args H v H' h
 unfold mk11 at h
 split at h
 ·exact okT (TB:=aB.tb) Try.func187 (bf (a_.k F) (bf (db.k F) (bf (bP.k F) cw))) (aB.loops F (a_.tw F) (db.tw F) (bP.tw F)) ((aB.eqX F (a_.tw F) (db.tw F) (bP.tw F) _ _ H).trans h) (by kernel_rfl)
 ·cases h
def bv.l29 (F:Nat) :Nat->Sl->Sl->Int->Int->Hp->OA
 | 0,_,_,_,_,_=>none
 | bB+1,bz,ev,ik,fQ,H9=>(bif (decide (fQ<ik)) then ((Sl.idx bz fQ 1).bind λp14=>(Hp.ldI H9 .i64 p14.1 p14.2).bind λn15=>(Sl.idx ev fQ 1).bind λp16=>(Hp.ldI H9 .i64 p16.1 p16.2).bind λn17=>(bif (n15 != n17) then (some ((.bool false),H9)) else (bv.l29 F bB bz ev ik (wrap .i64 (fQ+1)) H9))) else (some ((.bool true),H9)))
def bv.twX (aa:Sl) (av:Sl) (H:Hp):OA:=(bif ((aa.n:Int) != (av.n:Int)) then (some ((.bool false),H)) else (bv.l29 F F aa av (aa.n:Int) 0 H))
def bv.tw:=bv.twX F
def bv.lh29 (ks:VM) (n:Nat) (tm:Tm) (H:Hp):OA:=match ks,tm 0,tm 1,tm 12,tm 13 with
 | [],(.sl bz),(.sl ev),(.int .i64 ik),(.int .i64 fQ)=>bv.l29 F n bz ev ik fQ H
 | _,_,_,_,_=>none
def bv.lh (p:Nat) (ks:VM) (n:Nat) (tm:Tm) (H:Hp):OA:=bif p.beq 29 then bv.lh29 F ks n tm H else (none)
def bv.tb:Nat->List (List Nat):=cG [(6,[[],[],[0,1],[0,1,2],[],[],[4,5],[4,5,6],[0,1,2,3,4,5,6,7]])]
theorem bv.loops:LO (bw []) bk (bv.lh F) F Try.f100:=
 (af.rt (af.rt (af.lt (af.rt (af.block (af.la (λn tm H r h=>by change bv.lh29 F [] n tm H=_ at h;unfold bv.lh29 at h;split at h;have e:cR tm [(0,_),(1,_),(12,_),(13,_)]:=⟨‹_›,‹_›,‹_›,‹_›,trivial⟩;obtain _ | k29:=n;cases h;exact ⟨_,rfl,by rw [<- cS e];exact Eq.trans (by kernel_rfl) h⟩;cases h) λk29=>af.no))))))
theorem bv.k:Ok Try.prog 100 (mk11 (bv.tw F)):=by
 intro args H v H' h
 unfold mk11 at h
 split at h
 ·exact okT (PN:=bk) (LH:=(bv.lh F)) (F:=F) (TB:=bv.tb) Try.func100 cw (bv.loops F) (Eq.trans (by kernel_rfl) h) (by kernel_rfl)
 ·cases h
def bj.j6 (F:Nat) (ci:VI) (aO:VF) (bh:VF) (bq:VI) (C125_:Wq) (Ly:Nat) (Lz:Nat) (LA:Sl) (LB:Sl) (uQ:Nat) (LC:Nat) (LD:Sl) (LE:Int) (LF:Int) (H178:Hp):OA:=C125_ Ly Lz LA LB uQ LC LD LE (wrap .i64 (LF+1)) H178
def bj.j7 (F:Nat) (ci:VI) (aO:VF) (bh:VF) (bq:VI) (C125_:Wq) (LG:Nat) (LI:Nat) (LJ:Sl) (LL:Sl) (LM:Nat) (LN:Nat) (LP:Sl) (LQ:Int) (LR:Int) (H218:Hp):OA:=C125_ LG LI LJ LL LM LN LP LQ (wrap .i64 (LR+1)) H218
def bj.j8 (ci:VI) (aO:VF) (bh:VF) (bq:VI) (C125_:Wq) (LS:Nat) (LT:Nat) (LU:Sl) (LV:Sl) (LW:Nat) (LX:Nat) (LY:Sl) (LZ:Int) (L_:Int) (H200:Hp):OA:=bj.j7 F ci aO bh bq C125_ LS LT LU LV LW LX LY LZ L_ H200
def bj.l125 (F:Nat) (ci:VI) (aO:VF) (bh:VF) (bq:VI) :Nat->Nat->Nat->Sl->Sl->Nat->Nat->Sl->Int->Int->Hp->OA
 | 0,_,_,_,_,_,_,_,_,_,_=>none
 | iL+1,jc,jd,ma,mb,il,im,mc,md,kn,H85=>(bif (decide (kn<md)) then ((Sl.idx mc kn 1).bind λp158=>(Hp.ldSl H85 p158.1 p158.2).bind λs159=>(bq s159 ma H85).bind λr160=>((r160.1).asB).bind λb161=>(bif b161 then (bj.j6 F ci aO bh bq (bj.l125 F ci aO bh bq iL) jc jd ma mb il im mc md kn r160.2) else ((bq s159 mb r160.2).bind λr179=>((r179.1).asB).bind λb180=>(bif b180 then ((Hp.ldI r179.2 .i64 il im).bind λn181=>(Hp.st r179.2 il im (.int .i64 (wrap .i64 (n181+1)))).bind λH182=>bj.j8 F ci aO bh bq (bj.l125 F ci aO bh bq iL) jc jd ma mb il im mc md kn H182) else ((Hp.ldSl r179.2 il (im+1)).bind λs219=>(Hp.new r179.2 [(.sl s159)]).bind λH220=>(Sl.row H220 (⟨some (r179.2.length,0),1,.ex 1⟩:Sl) 1).bind λxs222=>(Hp.app H220 1 24 s219 (⟨some (r179.2.length,0),1,.ex 1⟩:Sl).n xs222).bind λa221=>(Hp.st a221.2 il (im+1) (.sl a221.1)).bind λH223=>bj.j8 F ci aO bh bq (bj.l125 F ci aO bh bq iL) jc jd ma mb il im mc md kn H223))))) else ((Hp.ldI H85 .i64 il im).bind λn224=>(Hp.ldSl H85 il (im+1)).bind λs225=>(Hp.st H85 jc jd (.int .i64 n224)).bind λH226=>(Hp.st H226 jc (jd+1) (.sl s225)).bind λH227=>(Hp.ldI H227 .i64 jc jd).bind λn228=>(Hp.ldSl H227 jc (jd+1)).bind λs229=>some ((.agg [(.int .i64 n228),(.sl s229)]),H227)))
termination_by structural n=>n
def bj.j9 (ci:VI) (aO:VF) (bh:VF) (bq:VI) (rm:Nat) (rn:Nat) (Ma:Nat) (Mb:Nat) (H60:Hp):OA:=(Hp.ldI H60 .i64 rm rn).bind λn61=>(aO n61 H60).bind λr62=>((r62.1).asSl).bind λs63=>(if aK H60 r62.2 then ((Hp.ldI r62.2 .i64 rm rn).bind λn64=>(bh n64 r62.2).bind λr65=>((r65.1).asSl).bind λs66=>(Hp.ldI r65.2 .i64 rm (rn+1)).bind λn67=>(Hp.new r65.2 [.int .i64 0,.sl ⟨none,0,.ex 0⟩]).bind λH68=>(Hp.st H68 r65.2.length 0 (.int .i64 n67)).bind λH69=>(Hp.st H69 r65.2.length (0+1) (.sl (⟨none,0,.ex 0⟩:Sl))).bind λH70=>(Hp.ldSl H70 rm (rn+2)).bind λs71=>bj.l125 F ci aO bh bq F Ma Mb s63 s66 r65.2.length 0 s71 (s71.n:Int) 0 H70) else none)
def bj.j10 (F:Nat) (ci:VI) (aO:VF) (bh:VF) (bq:VI) (C13_:Wr) (Mc:Nat) (Md:Nat) (Me:Nat) (Mf:Nat) (Mg:Bool) (H264:Hp):OA:=C13_ Mc Md Me Mf Mg H264
def bj.j11 (ci:VI) (aO:VF) (bh:VF) (bq:VI) (C13_:Wr) (Mh:Nat) (Mi:Nat) (Mj:Nat) (Mk:Nat) (Ml:Bool) (H255:Hp):OA:=bj.j10 F ci aO bh bq C13_ Mh Mi Mj Mk Ml H255
def bj.l215 (F:Nat) (ci:VI) (aO:VF) (bh:VF) (bq:VI) (C13_:Wr):Nat->Nat->Nat->Nat->Nat->Bool->Int->Hp->OA
 | 0,_,_,_,_,_,_,_=>none
 | Af+1,jD,jE,nu,nv,rp,ko,H237=>(Hp.ldSl H237 jD (jE+2)).bind λs265=>(bif (decide (ko<(s265.n:Int))) then ((Hp.ldSl H237 jD (jE+2)).bind λs266=>(Sl.idx s266 (wrap .i64 (ko - 1)) 1).bind λp267=>(Hp.ldSl H237 p267.1 p267.2).bind λs268=>(Hp.ldSl H237 jD (jE+2)).bind λs269=>(Sl.idx s269 ko 1).bind λp270=>(Hp.ldSl H237 p270.1 p270.2).bind λs271=>(ci s268 s271 H237).bind λr272=>((r272.1).asB).bind λb273=>(bif b273 then (bj.l215 F ci aO bh bq C13_ Af jD jE nu nv true (wrap .i64 (ko+1)) r272.2) else (bj.l215 F ci aO bh bq C13_ Af jD jE nu nv rp (wrap .i64 (ko+1)) r272.2))) else (bj.j11 F ci aO bh bq C13_ jD jE nu nv rp H237))
termination_by structural n=>n
def bj.l13 (F:Nat) (ci:VI) (aO:VF) (bh:VF) (bq:VI) :Nat->Nat->Nat->Nat->Nat->Bool->Hp->OA
 | 0,_,_,_,_,_,_=>none
 | nq+1,fo,g_,rq,ru,uS,H9=>(bif uS then (bj.l215 F ci aO bh bq (bj.l13 F ci aO bh bq nq) F fo g_ rq ru false 1 H9) else (bj.j9 F ci aO bh bq fo g_ rq ru H9))
termination_by structural n=>n
def bj.twX (ci:VI) (aO:VF) (bh:VF) (bq:VI) (aa:Nat) (aF:Nat) (H:Hp):OA:=(Hp.new H [.int .i64 0,.sl ⟨none,0,.ex 0⟩]).bind λH3=>bj.l13 F ci aO bh bq F aa aF H.length 0 true H3
def bj.tw:=bj.twX F (aB.tw F) (bc.tw F) (cy.tw F) (bv.tw F)
def bj.lh13 (ci:VI) (aO:VF) (bh:VF) (bq:VI) (ks:VM) (n:Nat) (tm:Tm) (H:Hp):OA:=match ks,tm 0,tm 2,tm 3 with
 | [],(.ptr fo g_),(.ptr rq ru),(.bool uS)=>bj.l13 F ci aO bh bq n fo g_ rq ru uS H
 | _,_,_,_=>none
def bj.lh125 (ci:VI) (aO:VF) (bh:VF) (bq:VI) (ks:VM) (n:Nat) (tm:Tm) (H:Hp):OA:=match ks,tm 2,tm 5,tm 6,tm 7,tm 57,tm 58,tm 59 with
 | [],(.ptr jc jd),(.sl ma),(.sl mb),(.ptr il im),(.sl mc),(.int .i64 md),(.int .i64 kn)=>bj.l125 F ci aO bh bq n jc jd ma mb il im mc md kn H
 | _,_,_,_,_,_,_,_=>none
def bj.lh215 (ci:VI) (aO:VF) (bh:VF) (bq:VI) (ks:VM) (n:Nat) (tm:Tm) (H:Hp):OA:=match ks,tm 0,tm 2,tm 3,tm 4 with
 | [nq],(.ptr jD jE),(.ptr nu nv),(.bool rp),(.int .i64 ko)=>bj.l215 F ci aO bh bq (bj.l13 F ci aO bh bq nq) n jD jE nu nv rp ko H
 | _,_,_,_,_=>none
def bj.lh (ci:VI) (aO:VF) (bh:VF) (bq:VI) (p:Nat) (ks:VM) (n:Nat) (tm:Tm) (H:Hp):OA:=bif p.beq 215 then bj.lh215 F ci aO bh bq ks n tm H else (bif p.beq 125 then bj.lh125 F ci aO bh bq ks n tm H else (bif p.beq 13 then bj.lh13 F ci aO bh bq ks n tm H else (none)))
def bj.pn:Nat->List Nat:=cG [(7,[15]),(8,[9])]
def bj.tb:Nat->List (List Nat):=cG [(7,[[],[0],[0,1],[0,1,2],[],[4],[0,1,2,3,4,5],[0,1,2,3,4,5,6],[],[8],[8,9],[8,9,10],[],[8,9,10,11,12],[8,9,10,11,12,13],[0,1,2,3,4,5,6,7,8,9,10,11,12,13,14],[0,1,2,3,4,5,6,7,8,9,10,11,12,13,14,15],[0,1,2,3,4,5,6,7,8,9,10,11,12,13,14,15,16],[0,1,2,3,4,5,6,7,8,9,10,11,12,13,14,15,16,17],[0,1,2,3,4,5,6,7,8,9,10,11,12,13,14,15,16,17,18]]),(8,[[],[0],[0,1],[0,1,2],[0,1,2,3],[],[5],[5,6],[5,6,7],[0,1,2,3,4,5,6,7,8],[0,1,2,3,4,5,6,7,8,9],[0,1,2,3,4,5,6,7,8,9,10]])]
def bj.cs (F:Nat) (ci:VI) (aO:VF) (bh:VF) (bq:VI):Cs:=[(187,mk11 ci),(125,mk4 aO),(186,mk4 bh),(100,mk11 bq)]
theorem bj.loops (ci:VI) (aO:VF) (bh:VF) (bq:VI):LO (bw (bj.cs F ci aO bh bq)) bj.pn (bj.lh F ci aO bh bq) F Try.f154:=
 (af.rt (af.seq (af.rt (af.block (af.la (λn tm H r h=>by change bj.lh13 F ci aO bh bq [] n tm H=_ at h;unfold bj.lh13 at h;split at h;have e:cR tm [(0,_),(2,_),(3,_)]:=⟨‹_›,‹_›,‹_›,trivial⟩;obtain _ | k13:=n;cases h;exact ⟨_,rfl,by rw [<- cS e];exact Eq.trans (by kernel_rfl) h⟩;cases h) λk13=>(af.rt (af.block (af.rt (af.rt (af.block (af.la (λn tm H r h=>by change bj.lh215 F ci aO bh bq [k13] n tm H=_ at h;unfold bj.lh215 at h;split at h;have e:cR tm [(0,_),(2,_),(3,_),(4,_)]:=⟨‹_›,‹_›,‹_›,‹_›,trivial⟩;cases (show [k13]=_ from ‹_›);obtain _ | k215:=n;cases h;exact ⟨_,rfl,by rw [<- cS e];exact Eq.trans (by kernel_rfl) h⟩;cases h) λk215=>af.no))))))))) (af.rt (af.rt (af.lt (af.rt (af.block (af.la (λn tm H r h=>by change bj.lh125 F ci aO bh bq [] n tm H=_ at h;unfold bj.lh125 at h;split at h;have e:cR tm [(2,_),(5,_),(6,_),(7,_),(57,_),(58,_),(59,_)]:=⟨‹_›,‹_›,‹_›,‹_›,‹_›,‹_›,‹_›,trivial⟩;obtain _ | k125:=n;cases h;exact ⟨_,rfl,by rw [<- cS e];exact Eq.trans (by kernel_rfl) h⟩;cases h) λk125=>af.no))))))))
theorem bj.eqX (ci:VI) (aO:VF) (bh:VF) (bq:VI) (aa:Nat) (aF:Nat) (H:Hp):EX (bw (bj.cs F ci aO bh bq)) bj.pn (bj.lh F ci aO bh bq) F Try.f154 [(.ptr aa aF)] H=bj.twX F ci aO bh bq aa aF H:=by kernel_rfl
theorem bj.k:Ok Try.prog 154 (mk2 (bj.tw F)):=by
 intro args H v H' h
 unfold mk2 at h
 split at h
 ·exact okT (TB:=bj.tb) Try.func154 (bf (aB.k F) (bf (bc.k F) (bf (cy.k F) (bf (bv.k F) cw)))) (bj.loops F (aB.tw F) (bc.tw F) (cy.tw F) (bv.tw F)) ((bj.eqX F (aB.tw F) (bc.tw F) (cy.tw F) (bv.tw F) _ _ H).trans h) (by kernel_rfl)
 ·cases h
def bU.l29 (F:Nat) (fp:VL) (fq:VV) :Nat->Nat->Nat->Nat->Nat->Sl->Int->Int->Hp->OA
 | 0,_,_,_,_,_,_,_,_=>none
 | bB+1,gH,kp,fb,nw,rx,ry,ny,H19=>(bif (decide (ny<ry)) then ((Sl.idx rx ny 1).bind λp33=>(Hp.ldI H19 .i64 p33.1 p33.2).bind λn34=>(fp fb nw n34 H19).bind λr35=>bU.l29 F fp fq bB gH kp fb nw rx ry (wrap .i64 (ny+1)) r35.2) else ((fq fb nw H19).bind λr36=>((r36.1).asAgg 2).bind λl37=>(l37[0]?).bind λv38=>((v38).asI .i64).bind λn39=>(l37[1]?).bind λv40=>((v40).asSl).bind λs41=>(Hp.st r36.2 gH kp (.int .i64 n39)).bind λH42=>(Hp.st H42 gH (kp+1) (.sl s41)).bind λH43=>(Hp.ldI H43 .i64 gH kp).bind λn44=>(Hp.ldSl H43 gH (kp+1)).bind λs45=>some ((.agg [(.int .i64 n44),(.sl s45)]),H43)))
termination_by structural n=>n
def bU.twX (fp:VL) (fq:VV) (aa:Int) (aF:Sl) (H:Hp):OA:=(Hp.new H [(.int .i64 aa),(.sl aF)]).bind λH3=>(Hp.new H3 [.int .i64 0,.sl ⟨none,0,.ex 0⟩]).bind λH4=>(Hp.ldI H4 .i64 H.length 0).bind λn5=>(Hp.new H4 [(.int .i64 n5),(.int .i64 0),(.sl (⟨none,0,.ex 0⟩:Sl))]).bind λH6=>(Hp.ldSl H6 H.length 1).bind λs7=>bU.l29 F fp fq F H3.length 0 H4.length 0 s7 (s7.n:Int) 0 H6
def bU.tw:=bU.twX F (cz.tw F) (bj.tw F)
def bU.lh29 (fp:VL) (fq:VV) (ks:VM) (n:Nat) (tm:Tm) (H:Hp):OA:=match ks,tm 2,tm 3,tm 11,tm 12,tm 13 with
 | [],(.ptr gH kp),(.ptr fb nw),(.sl rx),(.int .i64 ry),(.int .i64 ny)=>bU.l29 F fp fq n gH kp fb nw rx ry ny H
 | _,_,_,_,_,_=>none
def bU.lh (fp:VL) (fq:VV) (p:Nat) (ks:VM) (n:Nat) (tm:Tm) (H:Hp):OA:=bif p.beq 29 then bU.lh29 F fp fq ks n tm H else (none)
def bU.cs (F:Nat) (fp:VL) (fq:VV):Cs:=[(153,mk1 fp),(154,mk2 fq)]
theorem bU.loops (fp:VL) (fq:VV):LO (bw (bU.cs F fp fq)) bk (bU.lh F fp fq) F Try.f97:=
 (af.rt (af.rt (af.lt (af.rt (af.block (af.la (λn tm H r h=>by change bU.lh29 F fp fq [] n tm H=_ at h;unfold bU.lh29 at h;split at h;have e:cR tm [(2,_),(3,_),(11,_),(12,_),(13,_)]:=⟨‹_›,‹_›,‹_›,‹_›,‹_›,trivial⟩;obtain _ | k29:=n;cases h;exact ⟨_,rfl,by rw [<- cS e];exact Eq.trans (by kernel_rfl) h⟩;cases h) λk29=>af.no))))))
theorem bU.eqX (fp:VL) (fq:VV) (aa:Int) (aF:Sl) (H:Hp):EX (bw (bU.cs F fp fq)) bk (bU.lh F fp fq) F Try.f97 [(.agg [(.int .i64 aa),(.sl aF)])] H=bU.twX F fp fq aa aF H:=by kernel_rfl
theorem bU.k:Ok Try.prog 97 (mk3 (bU.tw F)):=by
 intro args H v H' h
 unfold mk3 at h
 split at h
 ·exact okT (TB:=bk) Try.func97 (bf (cz.k F) (bf (bj.k F) cw)) (bU.loops F (cz.tw F) (bj.tw F)) ((bU.eqX F (cz.tw F) (bj.tw F) _ _ H).trans h) (by kernel_rfl)
 ·cases h
def bH.l29 (F:Nat) (bq:VI) :Nat->Sl->Sl->Int->Int->Hp->OA
 | 0,_,_,_,_,_=>none
 | bB+1,ev,rz,io,fR,H10=>(bif (decide (fR<io)) then ((Sl.idx rz fR 1).bind λp17=>(Hp.ldSl H10 p17.1 p17.2).bind λs18=>(Sl.idx ev fR 1).bind λp19=>(Hp.ldSl H10 p19.1 p19.2).bind λs20=>(bq s18 s20 H10).bind λr21=>((r21.1).asB).bind λb22=>(bif (!b22) then (some ((.bool false),r21.2)) else (bH.l29 F bq bB ev rz io (wrap .i64 (fR+1)) r21.2))) else (some ((.bool true),H10)))
def bH.twX (bq:VI) (aa:Sl) (av:Sl) (H:Hp):OA:=(bif ((aa.n:Int) != (av.n:Int)) then (some ((.bool false),H)) else (bH.l29 F bq F av aa (aa.n:Int) 0 H))
def bH.tw:=bH.twX F (bv.tw F)
def bH.lh29 (bq:VI) (ks:VM) (n:Nat) (tm:Tm) (H:Hp):OA:=match ks,tm 1,tm 2,tm 15,tm 16,tm 17 with
 | [],(.sl ev),(.fn 100 []),(.sl rz),(.int .i64 io),(.int .i64 fR)=>bH.l29 F bq n ev rz io fR H
 | _,_,_,_,_,_=>none
def bH.lh (bq:VI) (p:Nat) (ks:VM) (n:Nat) (tm:Tm) (H:Hp):OA:=bif p.beq 29 then bH.lh29 F bq ks n tm H else (none)
def mk12 (g:VI) (args:VS) (H:Hp):OA:=match args with
 | [(.sl aa),(.sl av),(.fn 100 [])]=>g aa av H
 | _=>none
theorem mk12_E (g:VI) (aa:Sl) (av:Sl) (H:Hp):mk12 g [(.sl aa),(.sl av),(.fn 100 [])] H=g aa av H:=rfl
def bH.cs (F:Nat) (bq:VI):Cs:=[(100,mk11 bq)]
theorem bH.loops (bq:VI):LO (bw (bH.cs F bq)) bk (bH.lh F bq) F Try.f99:=
 (af.rt (af.rt (af.lt (af.rt (af.block (af.la (λn tm H r h=>by change bH.lh29 F bq [] n tm H=_ at h;unfold bH.lh29 at h;split at h;have e:cR tm [(1,_),(2,_),(15,_),(16,_),(17,_)]:=⟨‹_›,‹_›,‹_›,‹_›,‹_›,trivial⟩;obtain _ | k29:=n;cases h;exact ⟨_,rfl,by rw [<- cS e];exact Eq.trans (by kernel_rfl) h⟩;cases h) λk29=>af.no))))))
theorem bH.eqX (bq:VI) (aa:Sl) (av:Sl) (H:Hp):EX (bw (bH.cs F bq)) bk (bH.lh F bq) F Try.f99 [(.sl aa),(.sl av),(.fn 100 [])] H=bH.twX F bq aa av H:=by kernel_rfl
theorem bH.k:Ok Try.prog 99 (mk12 (bH.tw F)):=by
 intro args H v H' h
 unfold mk12 at h
 split at h
 ·exact okT (TB:=bk) Try.func99 (bf (bv.k F) cw) (bH.loops F (bv.tw F)) ((bH.eqX F (bv.tw F) _ _ H).trans h) (by kernel_rfl)
 ·cases h
def cF.twX (F:Nat) (cl:VH) (gn:VH) (mf:VI) (aa:Int) (aF:Sl) (aC:Int) (da:Sl) (H:Hp):OA:=(Hp.new H [(.int .i64 aa),(.sl aF)]).bind λH5=>(Hp.new H5 [(.int .i64 aC),(.sl da)]).bind λH6=>(Hp.ldI H6 .i64 H.length 0).bind λn7=>(Hp.ldSl H6 H.length (0+1)).bind λs8=>(cl n7 s8 H6).bind λr9=>((r9.1).asB).bind λb10=>(bif (!b10) then (some ((.bool false),r9.2)) else ((Hp.ldI r9.2 .i64 H5.length 0).bind λn11=>(Hp.ldSl r9.2 H5.length (0+1)).bind λs12=>(cl n11 s12 r9.2).bind λr13=>((r13.1).asB).bind λb14=>(bif (!b14) then (some ((.bool false),r13.2)) else ((Hp.ldI r13.2 .i64 H.length 0).bind λn15=>(Hp.ldI r13.2 .i64 H5.length 0).bind λn16=>(bif (n15 != n16) then (some ((.bool false),r13.2)) else ((Hp.ldI r13.2 .i64 H.length 0).bind λn17=>(Hp.ldSl r13.2 H.length (0+1)).bind λs18=>(gn n17 s18 r13.2).bind λr19=>((r19.1).asAgg 2).bind λl20=>(l20[0]?).bind λv21=>((v21).asI .i64).bind λn22=>(l20[1]?).bind λv23=>((v23).asSl).bind λs24=>(if aK r13.2 r19.2 then ((Hp.ldI r19.2 .i64 H5.length 0).bind λn25=>(Hp.ldSl r19.2 H5.length (0+1)).bind λs26=>(gn n25 s26 r19.2).bind λr27=>((r27.1).asAgg 2).bind λl28=>(l28[0]?).bind λv29=>((v29).asI .i64).bind λn30=>(l28[1]?).bind λv31=>((v31).asSl).bind λs32=>(if aK r19.2 r27.2 then ((Hp.new r27.2 [.int .i64 0,.sl ⟨none,0,.ex 0⟩]).bind λH33=>(Hp.new H33 [.int .i64 0,.sl ⟨none,0,.ex 0⟩]).bind λH34=>(Hp.st H34 r27.2.length 0 (.int .i64 n22)).bind λH35=>(Hp.st H35 r27.2.length (0+1) (.sl s24)).bind λH36=>(Hp.st H36 H33.length 0 (.int .i64 n30)).bind λH37=>(Hp.st H37 H33.length (0+1) (.sl s32)).bind λH38=>(Hp.ldI H38 .i64 r27.2.length 0).bind λn39=>(Hp.ldI H38 .i64 H33.length 0).bind λn40=>(bif (n39==n40) then ((Hp.ldSl H38 r27.2.length 1).bind λs41=>(Hp.ldSl H38 H33.length 1).bind λs42=>(mf s41 s42 H38).bind λr43=>((r43.1).asB).bind λb44=>some ((.bool b44),r43.2)) else (some ((.bool false),H38)))) else none)) else none)))))))
def cF.tw:=cF.twX F (b_.tw F) (bU.tw F) (bH.tw F)
def cF.pn:Nat->List Nat:=cG [(3,[6,7])]
def cF.tb:Nat->List (List Nat):=cG [(3,[[],[0],[],[0,1,2],[],[],[0,1,2,3,4,5],[0,1,2,3,4,5,6]])]
def mk13 (g:VQ) (args:VS) (H:Hp):OA:=match args with
 | [(.agg [(.int .i64 aa),(.sl aF)]),(.agg [(.int .i64 aC),(.sl da)])]=>g aa aF aC da H
 | _=>none
theorem mk13_E (g:VQ) (aa:Int) (aF:Sl) (aC:Int) (da:Sl) (H:Hp):mk13 g [(.agg [(.int .i64 aa),(.sl aF)]),(.agg [(.int .i64 aC),(.sl da)])] H=g aa aF aC da H:=rfl
def cF.cs (F:Nat) (cl:VH) (gn:VH) (mf:VI):Cs:=[(96,mk3 cl),(97,mk3 gn),(99,mk12 mf)]
theorem cF.eqX (cl:VH) (gn:VH) (mf:VI) (aa:Int) (aF:Sl) (aC:Int) (da:Sl) (H:Hp):EX (bw (cF.cs F cl gn mf)) cF.pn lh0 F Try.f42 [(.agg [(.int .i64 aa),(.sl aF)]),(.agg [(.int .i64 aC),(.sl da)])] H=cF.twX F cl gn mf aa aF aC da H:=by kernel_rfl
theorem cF.k:Ok Try.prog 42 (mk13 (cF.tw F)):=by
 intro args H v H' h
 unfold mk13 at h
 split at h
 ·exact okT (TB:=cF.tb) Try.func42 (bf (b_.k F) (bf (bU.k F) (bf (bH.k F) cw))) af.no ((cF.eqX F (b_.tw F) (bU.tw F) (bH.tw F) _ _ _ _ H).trans h) (by kernel_rfl)
 ·cases h
def dz.twX (F:Nat) (aa:Int) (av:Int) (fk:Int) (H:Hp):OA:=(bif (decide (aa>=av)) then (some ((.bool (decide (aa<=fk))),H)) else (some ((.bool false),H)))
def dz.tw:=dz.twX F
theorem dz.k:Ok Try.prog 106 (mk6 (dz.tw F)):=by
 intro args H v H' h
 unfold mk6 at h
 split at h
 ·exact ok0 Try.func106 (Eq.trans (by kernel_rfl) h) (by kernel_rfl) (by kernel_rfl)
 ·cases h
def dA.twX (F:Nat) (dY:VT) (aa:Int) (av:Int) (H:Hp):OA:=(bif (aa != 0) then ((dY aa (wrap .i64 (1 - av)) (wrap .i64 (av - 1)) H).bind λr3=>((r3.1).asB).bind λb4=>some ((.bool b4),r3.2)) else (some ((.bool false),H)))
def dA.tw:=dA.twX F (dz.tw F)
def dA.cs (F:Nat) (dY:VT):Cs:=[(106,mk6 dY)]
theorem dA.eqX (dY:VT) (aa:Int) (av:Int) (H:Hp):EX (bw (dA.cs F dY)) bk lh0 F Try.f111 [(.int .i64 aa),(.int .i64 av)] H=dA.twX F dY aa av H:=by kernel_rfl
theorem dA.k:Ok Try.prog 111 (mk7 (dA.tw F)):=by
 intro args H v H' h
 unfold mk7 at h
 split at h
 ·exact okT (TB:=bk) Try.func111 (bf (dz.k F) cw) af.no ((dA.eqX F (dz.tw F) _ _ H).trans h) (by kernel_rfl)
 ·cases h
def bo.l29 (F:Nat) (dY:VT) (ft:VW) :Nat->Nat->Nat->Int->Hp->OA
 | 0,_,_,_,_=>none
 | bB+1,eF,mg,fb,H15=>(Hp.ldSl H15 eF (mg+1)).bind λs23=>(bif (decide (fb<(s23.n:Int))) then ((Hp.ldSl H15 eF (mg+1)).bind λs24=>(Sl.idx s24 fb 1).bind λp25=>(Hp.ldI H15 .i64 p25.1 p25.2).bind λn26=>(Hp.ldI H15 .i64 eF mg).bind λn27=>(ft n26 n27 H15).bind λr28=>((r28.1).asB).bind λb29=>(bif (!b29) then (some ((.bool false),r28.2)) else (bo.l29 F dY ft bB eF mg (wrap .i64 (fb+1)) r28.2))) else (some ((.bool true),H15)))
termination_by structural n=>n
def bo.twX (dY:VT) (ft:VW) (aa:Int) (aF:Sl) (H:Hp):OA:=(Hp.new H [(.int .i64 aa),(.sl aF)]).bind λH3=>(Hp.ldI H3 .i64 H.length 0).bind λn4=>(dY n4 1 6 H3).bind λr5=>((r5.1).asB).bind λb6=>(bif (!b6) then (some ((.bool false),r5.2)) else ((Hp.ldSl r5.2 H.length 1).bind λs7=>(bif (decide ((s7.n:Int)>24)) then (some ((.bool false),r5.2)) else (bo.l29 F dY ft F H.length 0 0 r5.2))))
def bo.tw:=bo.twX F (dz.tw F) (dA.tw F)
def bo.lh29 (dY:VT) (ft:VW) (ks:VM) (n:Nat) (tm:Tm) (H:Hp):OA:=match ks,tm 1,tm 3 with
 | [],(.ptr eF mg),(.int .i64 fb)=>bo.l29 F dY ft n eF mg fb H
 | _,_,_=>none
def bo.lh (dY:VT) (ft:VW) (p:Nat) (ks:VM) (n:Nat) (tm:Tm) (H:Hp):OA:=bif p.beq 29 then bo.lh29 F dY ft ks n tm H else (none)
def bo.pn:Nat->List Nat:=cG [(6,[7])]
def bo.tb:Nat->List (List Nat):=cG [(6,[[],[0],[],[0,1,2],[0,1,2,3],[],[5],[0,1,2,3,4,5,6],[0,1,2,3,4,5,6,7]])]
def bo.cs (F:Nat) (dY:VT) (ft:VW):Cs:=[(106,mk6 dY),(111,mk7 ft)]
theorem bo.loops (dY:VT) (ft:VW):LO (bw (bo.cs F dY ft)) bo.pn (bo.lh F dY ft) F Try.f49:=
 (af.rt (af.rt (af.lt (af.rt (af.block (af.la (λn tm H r h=>by change bo.lh29 F dY ft [] n tm H=_ at h;unfold bo.lh29 at h;split at h;have e:cR tm [(1,_),(3,_)]:=⟨‹_›,‹_›,trivial⟩;obtain _ | k29:=n;cases h;exact ⟨_,rfl,by rw [<- cS e];exact Eq.trans (by kernel_rfl) h⟩;cases h) λk29=>af.no))))))
theorem bo.eqX (dY:VT) (ft:VW) (aa:Int) (aF:Sl) (H:Hp):EX (bw (bo.cs F dY ft)) bo.pn (bo.lh F dY ft) F Try.f49 [(.agg [(.int .i64 aa),(.sl aF)])] H=bo.twX F dY ft aa aF H:=by kernel_rfl
theorem bo.k:Ok Try.prog 49 (mk3 (bo.tw F)):=by
 intro args H v H' h
 unfold mk3 at h
 split at h
 ·exact okT (TB:=bo.tb) Try.func49 (bf (dz.k F) (bf (dA.k F) cw)) (bo.loops F (dz.tw F) (dA.tw F)) ((bo.eqX F (dz.tw F) (dA.tw F) _ _ H).trans h) (by kernel_rfl)
 ·cases h
def bD.l29 (F:Nat) :Nat->Int->Sl->Int->Hp->OA
 | 0,_,_,_,_=>none
 | bB+1,bz,cn,bu,H7=>(bif (decide (bu<bz)) then ((Hp.new H7 [(.int .i64 bu)]).bind λH11=>(Sl.row H11 (⟨some (H7.length,0),1,.ex 1⟩:Sl) 1).bind λxs13=>(Hp.app H11 1 8 cn (⟨some (H7.length,0),1,.ex 1⟩:Sl).n xs13).bind λa12=>bD.l29 F bB bz a12.1 (wrap .i64 (bu+1)) a12.2) else (some ((.sl cn),H7)))
def bD.twX (aa:Int) (H:Hp):OA:=(Hp.new H []).bind λH2=>bD.l29 F F aa (⟨some (H.length,0),0,.ex 0⟩:Sl) 0 H2
def bD.tw:=bD.twX F
def bD.lh29 (ks:VM) (n:Nat) (tm:Tm) (H:Hp):OA:=match ks,tm 0,tm 3,tm 4 with
 | [],(.int .i64 bz),(.sl cn),(.int .i64 bu)=>bD.l29 F n bz cn bu H
 | _,_,_,_=>none
def bD.lh (p:Nat) (ks:VM) (n:Nat) (tm:Tm) (H:Hp):OA:=bif p.beq 29 then bD.lh29 F ks n tm H else (none)
theorem bD.loops:LO (bw []) bk (bD.lh F) F Try.f145:=
 (af.rt (af.rt (af.lt (af.rt (af.block (af.la (λn tm H r h=>by change bD.lh29 F [] n tm H=_ at h;unfold bD.lh29 at h;split at h;have e:cR tm [(0,_),(3,_),(4,_)]:=⟨‹_›,‹_›,‹_›,trivial⟩;obtain _ | k29:=n;cases h;exact ⟨_,rfl,by rw [<- cS e];exact Eq.trans (by kernel_rfl) h⟩;cases h) λk29=>af.no))))))
theorem bD.k:Ok Try.prog 145 (mk4 (bD.tw F)):=by
 intro args H v H' h
 unfold mk4 at h
 split at h
 ·exact okT (PN:=bk) (LH:=(bD.lh F)) (F:=F) (TB:=bk) Try.func145 cw (bD.loops F) (Eq.trans (by kernel_rfl) h) (by kernel_rfl)
 ·cases h
def aI.j4 (F:Nat) (C29_:Wa) (Mm:Sl) (mh:Int) (Mn:Sl) (mi:Int) (H65:Hp):OA:=C29_ Mm mh Mn (wrap .i64 (mi+1)) H65
def aI.j5 (F:Nat) (C29_:Wa) (uN:Sl) (mj:Int) (Mo:Sl) (ml:Int) (H88:Hp):OA:=C29_ uN mj Mo (wrap .i64 (ml+1)) H88
def aI.j6 (C29_:Wa) (Mp:Sl) (mm:Int) (Mq:Sl) (mn:Int) (H78:Hp):OA:=aI.j5 F C29_ Mp mm Mq mn H78
def aI.l29 (F:Nat) :Nat->Sl->Int->Sl->Int->Hp->OA
 | 0,_,_,_,_,_=>none
 | bB+1,fo,dZ,bV,fc,H9=>(bif (decide (fc<(fo.n:Int))) then ((Sl.idx fo fc 1).bind λp52=>(Hp.ldI H9 .i64 p52.1 p52.2).bind λn53=>(bif (n53==(wrap .i64 (dZ - 1))) then ((Hp.new H9 [(.int .i64 dZ)]).bind λH54=>(Sl.row H54 (⟨some (H9.length,0),1,.ex 1⟩:Sl) 1).bind λxs56=>(Hp.app H54 1 8 bV (⟨some (H9.length,0),1,.ex 1⟩:Sl).n xs56).bind λa55=>aI.j4 F (aI.l29 F bB) fo dZ a55.1 fc a55.2) else ((bif (n53==dZ) then ((Hp.new H9 [(.int .i64 (wrap .i64 (dZ - 1)))]).bind λH66=>(Sl.row H66 (⟨some (H9.length,0),1,.ex 1⟩:Sl) 1).bind λxs68=>(Hp.app H66 1 8 bV (⟨some (H9.length,0),1,.ex 1⟩:Sl).n xs68).bind λa67=>aI.j6 F (aI.l29 F bB) fo dZ a67.1 fc a67.2) else ((Sl.idx fo fc 1).bind λp89=>(Hp.ldI H9 .i64 p89.1 p89.2).bind λn90=>(Hp.new H9 [(.int .i64 n90)]).bind λH91=>(Sl.row H91 (⟨some (H9.length,0),1,.ex 1⟩:Sl) 1).bind λxs93=>(Hp.app H91 1 8 bV (⟨some (H9.length,0),1,.ex 1⟩:Sl).n xs93).bind λa92=>aI.j6 F (aI.l29 F bB) fo dZ a92.1 fc a92.2))))) else (some ((.sl bV),H9)))
def aI.twX (aa:Sl) (av:Int) (H:Hp):OA:=(Hp.new H []).bind λH3=>aI.l29 F F aa av (⟨some (H.length,0),0,.ex 0⟩:Sl) 0 H3
def aI.tw:=aI.twX F
def aI.lh29 (ks:VM) (n:Nat) (tm:Tm) (H:Hp):OA:=match ks,tm 0,tm 1,tm 5,tm 6 with
 | [],(.sl fo),(.int .i64 dZ),(.sl bV),(.int .i64 fc)=>aI.l29 F n fo dZ bV fc H
 | _,_,_,_,_=>none
def aI.lh (p:Nat) (ks:VM) (n:Nat) (tm:Tm) (H:Hp):OA:=bif p.beq 29 then aI.lh29 F ks n tm H else (none)
theorem aI.loops:LO (bw []) bk (aI.lh F) F Try.f144:=
 (af.rt (af.rt (af.lt (af.rt (af.block (af.la (λn tm H r h=>by change aI.lh29 F [] n tm H=_ at h;unfold aI.lh29 at h;split at h;have e:cR tm [(0,_),(1,_),(5,_),(6,_)]:=⟨‹_›,‹_›,‹_›,‹_›,trivial⟩;obtain _ | k29:=n;cases h;exact ⟨_,rfl,by rw [<- cS e];exact Eq.trans (by kernel_rfl) h⟩;cases h) λk29=>af.no))))))
theorem aI.k:Ok Try.prog 144 (mk10 (aI.tw F)):=by
 intro args H v H' h
 unfold mk10 at h
 split at h
 ·exact okT (PN:=bk) (LH:=(aI.lh F)) (F:=F) (TB:=bk) Try.func144 cw (aI.loops F) (Eq.trans (by kernel_rfl) h) (by kernel_rfl)
 ·cases h
def bI.l61 (F:Nat) :Nat->Sl->Int->Sl->Int->Hp->OA
 | 0,_,_,_,_,_=>none
 | jB+1,bz,cn,bu,bV,H8=>(bif (decide (bV<cn)) then ((Sl.idx bz (wrap .i64 ((wrap .i64 (cn - 1)) - bV)) 1).bind λp14=>(Hp.ldI H8 .i64 p14.1 p14.2).bind λn15=>(Hp.new H8 [(.int .i64 (wrap .i64 ((wrap .i64 (cn - 1)) - n15)))]).bind λH16=>(Sl.row H16 (⟨some (H8.length,0),1,.ex 1⟩:Sl) 1).bind λxs18=>(Hp.app H16 1 8 bu (⟨some (H8.length,0),1,.ex 1⟩:Sl).n xs18).bind λa17=>bI.l61 F jB bz cn a17.1 (wrap .i64 (bV+1)) a17.2) else (some ((.sl bu),H8)))
def bI.twX (aa:Sl) (H:Hp):OA:=(Hp.new H []).bind λH2=>bI.l61 F F aa (aa.n:Int) (⟨some (H.length,0),0,.ex 0⟩:Sl) 0 H2
def bI.tw:=bI.twX F
def bI.lh61 (ks:VM) (n:Nat) (tm:Tm) (H:Hp):OA:=match ks,tm 0,tm 3,tm 4,tm 5 with
 | [],(.sl bz),(.int .i64 cn),(.sl bu),(.int .i64 bV)=>bI.l61 F n bz cn bu bV H
 | _,_,_,_,_=>none
def bI.lh (p:Nat) (ks:VM) (n:Nat) (tm:Tm) (H:Hp):OA:=bif p.beq 61 then bI.lh61 F ks n tm H else (none)
theorem bI.loops:LO (bw []) bk (bI.lh F) F Try.f146:=
 (af.rt (af.rt (af.rt (af.lt (af.rt (af.block (af.la (λn tm H r h=>by change bI.lh61 F [] n tm H=_ at h;unfold bI.lh61 at h;split at h;have e:cR tm [(0,_),(3,_),(4,_),(5,_)]:=⟨‹_›,‹_›,‹_›,‹_›,trivial⟩;obtain _ | k61:=n;cases h;exact ⟨_,rfl,by rw [<- cS e];exact Eq.trans (by kernel_rfl) h⟩;cases h) λk61=>af.no)))))))
theorem bI.k:Ok Try.prog 146 (mk0 (bI.tw F)):=by
 intro args H v H' h
 unfold mk0 at h
 split at h
 ·exact okT (PN:=bk) (LH:=(bI.lh F)) (F:=F) (TB:=bk) Try.func146 cw (bI.loops F) (Eq.trans (by kernel_rfl) h) (by kernel_rfl)
 ·cases h
def bE.l29 (F:Nat) :Nat->Int->Sl->Int->Hp->OA
 | 0,_,_,_,_=>none
 | bB+1,bz,cn,bu,H7=>(bif (decide (bu<bz)) then ((Hp.new H7 [(.int .i64 (wrap .i64 ((wrap .i64 (bz - 1)) - bu)))]).bind λH11=>(Sl.row H11 (⟨some (H7.length,0),1,.ex 1⟩:Sl) 1).bind λxs13=>(Hp.app H11 1 8 cn (⟨some (H7.length,0),1,.ex 1⟩:Sl).n xs13).bind λa12=>bE.l29 F bB bz a12.1 (wrap .i64 (bu+1)) a12.2) else (some ((.sl cn),H7)))
def bE.twX (aa:Int) (H:Hp):OA:=(Hp.new H []).bind λH2=>bE.l29 F F aa (⟨some (H.length,0),0,.ex 0⟩:Sl) 0 H2
def bE.tw:=bE.twX F
def bE.lh29 (ks:VM) (n:Nat) (tm:Tm) (H:Hp):OA:=match ks,tm 0,tm 3,tm 4 with
 | [],(.int .i64 bz),(.sl cn),(.int .i64 bu)=>bE.l29 F n bz cn bu H
 | _,_,_,_=>none
def bE.lh (p:Nat) (ks:VM) (n:Nat) (tm:Tm) (H:Hp):OA:=bif p.beq 29 then bE.lh29 F ks n tm H else (none)
theorem bE.loops:LO (bw []) bk (bE.lh F) F Try.f147:=
 (af.rt (af.rt (af.lt (af.rt (af.block (af.la (λn tm H r h=>by change bE.lh29 F [] n tm H=_ at h;unfold bE.lh29 at h;split at h;have e:cR tm [(0,_),(3,_),(4,_)]:=⟨‹_›,‹_›,‹_›,trivial⟩;obtain _ | k29:=n;cases h;exact ⟨_,rfl,by rw [<- cS e];exact Eq.trans (by kernel_rfl) h⟩;cases h) λk29=>af.no))))))
theorem bE.k:Ok Try.prog 147 (mk4 (bE.tw F)):=by
 intro args H v H' h
 unfold mk4 at h
 split at h
 ·exact okT (PN:=bk) (LH:=(bE.lh F)) (F:=F) (TB:=bk) Try.func147 cw (bE.loops F) (Eq.trans (by kernel_rfl) h) (by kernel_rfl)
 ·cases h
def bW.l29 (F:Nat) :Nat->Sl->Sl->Int->Hp->OA
 | 0,_,_,_,_=>none
 | bB+1,bz,cn,bu,H7=>(bif (decide (bu<(bz.n:Int))) then ((Sl.idx bz bu 1).bind λp12=>(Hp.ldI H7 .i64 p12.1 p12.2).bind λn13=>(Sl.idx cn n13 1).bind λp14=>(Hp.st H7 p14.1 p14.2 (.int .i64 bu)).bind λH15=>bW.l29 F bB bz cn (wrap .i64 (bu+1)) H15) else (some ((.sl cn),H7)))
def bW.twX (aa:Sl) (H:Hp):OA:=(Hp.mk H [.int .i64 0] 8 (aa.n:Int) (aa.n:Int)).bind λm2=>bW.l29 F F aa m2.1 0 m2.2
def bW.tw:=bW.twX F
def bW.lh29 (ks:VM) (n:Nat) (tm:Tm) (H:Hp):OA:=match ks,tm 0,tm 3,tm 4 with
 | [],(.sl bz),(.sl cn),(.int .i64 bu)=>bW.l29 F n bz cn bu H
 | _,_,_,_=>none
def bW.lh (p:Nat) (ks:VM) (n:Nat) (tm:Tm) (H:Hp):OA:=bif p.beq 29 then bW.lh29 F ks n tm H else (none)
theorem bW.loops:LO (bw []) bk (bW.lh F) F Try.f208:=
 (af.rt (af.rt (af.lt (af.rt (af.block (af.la (λn tm H r h=>by change bW.lh29 F [] n tm H=_ at h;unfold bW.lh29 at h;split at h;have e:cR tm [(0,_),(3,_),(4,_)]:=⟨‹_›,‹_›,‹_›,trivial⟩;obtain _ | k29:=n;cases h;exact ⟨_,rfl,by rw [<- cS e];exact Eq.trans (by kernel_rfl) h⟩;cases h) λk29=>af.no))))))
theorem bW.k:Ok Try.prog 208 (mk0 (bW.tw F)):=by
 intro args H v H' h
 unfold mk0 at h
 split at h
 ·exact okT (PN:=bk) (LH:=(bW.lh F)) (F:=F) (TB:=bk) Try.func208 cw (bW.loops F) (Eq.trans (by kernel_rfl) h) (by kernel_rfl)
 ·cases h
def ew.twX (F:Nat) (aa:Sl) (av:Int) (H:Hp):OA:=(Hp.new H []).bind λH3=>(Sl.row H3 aa 1).bind λxs5=>(Hp.app H3 1 8 (⟨some (H.length,0),0,.ex 0⟩:Sl) aa.n xs5).bind λa4=>(Sl.idx aa av 1).bind λp6=>(Hp.ldI a4.2 .i64 p6.1 p6.2).bind λn7=>(Sl.idx a4.1 (wrap .i64 (av - 1)) 1).bind λp8=>(Hp.st a4.2 p8.1 p8.2 (.int .i64 n7)).bind λH9=>(Sl.idx aa (wrap .i64 (av - 1)) 1).bind λp10=>(Hp.ldI H9 .i64 p10.1 p10.2).bind λn11=>(Sl.idx a4.1 av 1).bind λp12=>(Hp.st H9 p12.1 p12.2 (.int .i64 n11)).bind λH13=>some ((.sl a4.1),H13)
def ew.tw:=ew.twX F
theorem ew.k:Ok Try.prog 209 (mk10 (ew.tw F)):=by
 intro args H v H' h
 unfold mk10 at h
 split at h
 ·exact ok0 Try.func209 (Eq.trans (by kernel_rfl) h) (by kernel_rfl) (by kernel_rfl)
 ·cases h
def bg.j1 (F:Nat) (eP:VG) (bi:VK) (eQ:VK) (lR:Sl) (uP:Sl) (H33:Hp):OA:=some ((.tup [(.sl lR),(.sl uP),(.bool false)]),H33)
def bg.l29 (F:Nat) (eP:VG) (bi:VK) (eQ:VK) :Nat->Sl->Sl->Sl->Int->Hp->OA
 | 0,_,_,_,_,_=>none
 | bB+1,g_,jF,mo,d_,H12=>(bif (decide (d_<(g_.n:Int))) then ((Sl.idx jF (wrap .i64 (d_ - 1)) 1).bind λp34=>(Hp.ldI H12 .i64 p34.1 p34.2).bind λn35=>(Sl.idx jF d_ 1).bind λp36=>(Hp.ldI H12 .i64 p36.1 p36.2).bind λn37=>(bif (decide (n35>n37)) then ((Sl.idx mo (wrap .i64 (d_ - 1)) 1).bind λp38=>(Hp.ldI H12 .i64 p38.1 p38.2).bind λn39=>(Sl.idx mo d_ 1).bind λp40=>(Hp.ldI H12 .i64 p40.1 p40.2).bind λn41=>(bif (decide (n39<n41)) then ((bi g_ d_ H12).bind λr42=>((r42.1).asSl).bind λs43=>(eQ jF d_ r42.2).bind λr44=>((r44.1).asSl).bind λs45=>some ((.tup [(.sl s43),(.sl s45),(.bool true)]),r44.2)) else (bg.l29 F eP bi eQ bB g_ jF mo (wrap .i64 (d_+1)) H12))) else (bg.l29 F eP bi eQ bB g_ jF mo (wrap .i64 (d_+1)) H12))) else (bg.j1 F eP bi eQ g_ jF H12))
def bg.twX (eP:VG) (bi:VK) (eQ:VK) (aa:Sl) (av:Sl) (H:Hp):OA:=(eP aa H).bind λr3=>((r3.1).asSl).bind λs4=>bg.l29 F eP bi eQ F aa av s4 1 r3.2
def bg.tw:=bg.twX F (bW.tw F) (aI.tw F) (ew.tw F)
def bg.lh29 (eP:VG) (bi:VK) (eQ:VK) (ks:VM) (n:Nat) (tm:Tm) (H:Hp):OA:=match ks,tm 0,tm 1,tm 7,tm 8 with
 | [],(.sl g_),(.sl jF),(.sl mo),(.int .i64 d_)=>bg.l29 F eP bi eQ n g_ jF mo d_ H
 | _,_,_,_,_=>none
def bg.lh (eP:VG) (bi:VK) (eQ:VK) (p:Nat) (ks:VM) (n:Nat) (tm:Tm) (H:Hp):OA:=bif p.beq 29 then bg.lh29 F eP bi eQ ks n tm H else (none)
def bg.tb:Nat->List (List Nat):=cG [(5,[[],[],[1],[0,1,2],[0,1,2,3],[],[],[5,6],[5,6,7],[0,1,2,3,4,5,6,7,8],[0,1,2,3,4,5,6,7,8,9],[0,1,2,3,4,5,6,7,8,9,10],[0,1,2,3,4,5,6,7,8,9,10],[0,1,2,3,4,5,6,7,8,9,10,12],[0,1,2,3,4,5,6,7,8,9,10,11,12,13],[0,1,2,3,4,5,6,7,8,9,10,11,12,13,14],[0,1,2,3,4,5,6,7,8,9,10],[0,1,2,3,4,5,6,7,8,9,10],[0,1,2,3,4,5,6,7,8,9,10,16,17],[0,1,2,3,4,5,6,7,8,9,10,16,17,18],[0,1,2,3,4,5,6,7,8,9,10,11,12,13,14,15,16,17,18,19],[0,1,2,3,4,5,6,7,8,9,10,11,12,13,14,15,16,17,18,19,20]])]
def bg.cs (F:Nat) (eP:VG) (bi:VK) (eQ:VK):Cs:=[(208,mk0 eP),(144,mk10 bi),(209,mk10 eQ)]
theorem bg.loops (eP:VG) (bi:VK) (eQ:VK):LO (bw (bg.cs F eP bi eQ)) bk (bg.lh F eP bi eQ) F Try.f183:=
 (af.rt (af.rt (af.lt (af.rt (af.block (af.la (λn tm H r h=>by change bg.lh29 F eP bi eQ [] n tm H=_ at h;unfold bg.lh29 at h;split at h;have e:cR tm [(0,_),(1,_),(7,_),(8,_)]:=⟨‹_›,‹_›,‹_›,‹_›,trivial⟩;obtain _ | k29:=n;cases h;exact ⟨_,rfl,by rw [<- cS e];exact Eq.trans (by kernel_rfl) h⟩;cases h) λk29=>af.no))))))
theorem bg.eqX (eP:VG) (bi:VK) (eQ:VK) (aa:Sl) (av:Sl) (H:Hp):EX (bw (bg.cs F eP bi eQ)) bk (bg.lh F eP bi eQ) F Try.f183 [(.sl aa),(.sl av)] H=bg.twX F eP bi eQ aa av H:=by kernel_rfl
theorem bg.k:Ok Try.prog 183 (mk11 (bg.tw F)):=by
 intro args H v H' h
 unfold mk11 at h
 split at h
 ·exact okT (TB:=bg.tb) Try.func183 (bf (bW.k F) (bf (aI.k F) (bf (ew.k F) cw))) (bg.loops F (bW.tw F) (aI.tw F) (ew.tw F)) ((bg.eqX F (bW.tw F) (aI.tw F) (ew.tw F) _ _ H).trans h) (by kernel_rfl)
 ·cases h
def aT.j2 (F:Nat) (eG:VI) (C29_:VK) (Mr:Sl) (mq:Int) (H61:Hp):OA:=C29_ Mr (wrap .i64 (mq+1)) H61
def aT.l29 (F:Nat) (eG:VI) :Nat->Sl->Int->Hp->OA
 | 0,_,_,_=>none
 | bB+1,ef,dX,H9=>(bif (decide ((wrap .i64 (dX+1))<(ef.n:Int))) then ((Sl.idx ef dX 1).bind λp36=>(Hp.ldSl H9 p36.1 p36.2).bind λs37=>(Sl.idx ef (wrap .i64 (dX+1)) 1).bind λp38=>(Hp.ldSl H9 p38.1 p38.2).bind λs39=>(eG s37 s39 H9).bind λr40=>((r40.1).asTup 3).bind λl41=>(l41[0]?).bind λv42=>((v42).asSl).bind λs43=>(l41[1]?).bind λv44=>((v44).asSl).bind λs45=>(l41[2]?).bind λv46=>((v46).asB).bind λb47=>(bif b47 then ((Sl.idx ef dX 1).bind λp48=>(Hp.st r40.2 p48.1 p48.2 (.sl s43)).bind λH49=>(Sl.idx ef (wrap .i64 (dX+1)) 1).bind λp50=>(Hp.st H49 p50.1 p50.2 (.sl s45)).bind λH51=>aT.j2 F eG (aT.l29 F eG bB) ef (-1) H51) else (aT.j2 F eG (aT.l29 F eG bB) ef dX r40.2))) else (some ((.sl ef),H9)))
def aT.twX (eG:VI) (aa:Sl) (H:Hp):OA:=(Hp.new H []).bind λH2=>(Sl.row H2 aa 1).bind λxs4=>(Hp.app H2 1 24 (⟨some (H.length,0),0,.ex 0⟩:Sl) aa.n xs4).bind λa3=>aT.l29 F eG F a3.1 0 a3.2
def aT.tw:=aT.twX F (bg.tw F)
def aT.lh29 (eG:VI) (ks:VM) (n:Nat) (tm:Tm) (H:Hp):OA:=match ks,tm 3,tm 4 with
 | [],(.sl ef),(.int .i64 dX)=>aT.l29 F eG n ef dX H
 | _,_,_=>none
def aT.lh (eG:VI) (p:Nat) (ks:VM) (n:Nat) (tm:Tm) (H:Hp):OA:=bif p.beq 29 then aT.lh29 F eG ks n tm H else (none)
def aT.pn:Nat->List Nat:=cG [(5,[9])]
def aT.tb:Nat->List (List Nat):=cG [(5,[[],[],[0,1],[0,1,2],[],[],[5],[4,5,6],[4,5,6,7],[0,1,2,3,4,5,6,7,8],[0,1,2,3,4,5,6,7,8,9],[0,1,2,3,4,5,6,7,8,9,10],[0,1,2,3,4,5,6,7,8,9,10],[0,1,2,3,4,5,6,7,8,9,10],[0,1,2,3,4,5,6,7,8,9,10,11],[0,1,2,3,4,5,6,7,8,9,10,11,12,14],[0,1,2,3,4,5,6,7,8,9,10,11,12,13,14,15]])]
def aT.cs (F:Nat) (eG:VI):Cs:=[(183,mk11 eG)]
theorem aT.loops (eG:VI):LO (bw (aT.cs F eG)) aT.pn (aT.lh F eG) F Try.f148:=
 (af.rt (af.rt (af.lt (af.rt (af.block (af.la (λn tm H r h=>by change aT.lh29 F eG [] n tm H=_ at h;unfold aT.lh29 at h;split at h;have e:cR tm [(3,_),(4,_)]:=⟨‹_›,‹_›,trivial⟩;obtain _ | k29:=n;cases h;exact ⟨_,rfl,by rw [<- cS e];exact Eq.trans (by kernel_rfl) h⟩;cases h) λk29=>af.no))))))
theorem aT.eqX (eG:VI) (aa:Sl) (H:Hp):EX (bw (aT.cs F eG)) aT.pn (aT.lh F eG) F Try.f148 [(.sl aa)] H=aT.twX F eG aa H:=by kernel_rfl
theorem aT.k:Ok Try.prog 148 (mk0 (aT.tw F)):=by
 intro args H v H' h
 unfold mk0 at h
 split at h
 ·exact okT (TB:=aT.tb) Try.func148 (bf (bg.k F) cw) (aT.loops F (bg.tw F)) ((aT.eqX F (bg.tw F) _ H).trans h) (by kernel_rfl)
 ·cases h
def bl.l29 (F:Nat) :Nat->Sl->Sl->Int->Hp->OA
 | 0,_,_,_,_=>none
 | bB+1,bz,ev,bV,H8=>(bif (decide (bV<(bz.n:Int))) then ((Sl.idx bz bV 1).bind λp13=>(Hp.ldI H8 .i64 p13.1 p13.2).bind λn14=>(Sl.idx ev bV 1).bind λp15=>(Hp.ldI H8 .i64 p15.1 p15.2).bind λn16=>(bif (n14 != n16) then (some ((.bool false),H8)) else (bl.l29 F bB bz ev (wrap .i64 (bV+1)) H8))) else (some ((.bool true),H8)))
def bl.twX (aa:Sl) (av:Sl) (H:Hp):OA:=(bif ((aa.n:Int) != (av.n:Int)) then (some ((.bool false),H)) else (bl.l29 F F aa av 0 H))
def bl.tw:=bl.twX F
def bl.lh29 (ks:VM) (n:Nat) (tm:Tm) (H:Hp):OA:=match ks,tm 0,tm 1,tm 5 with
 | [],(.sl bz),(.sl ev),(.int .i64 bV)=>bl.l29 F n bz ev bV H
 | _,_,_,_=>none
def bl.lh (p:Nat) (ks:VM) (n:Nat) (tm:Tm) (H:Hp):OA:=bif p.beq 29 then bl.lh29 F ks n tm H else (none)
def bl.tb:Nat->List (List Nat):=cG [(6,[[],[],[0,1],[0,1,2],[],[],[4,5],[4,5,6],[0,1,2,3,4,5,6,7]])]
theorem bl.loops:LO (bw []) bk (bl.lh F) F Try.f149:=
 (af.rt (af.rt (af.lt (af.rt (af.block (af.la (λn tm H r h=>by change bl.lh29 F [] n tm H=_ at h;unfold bl.lh29 at h;split at h;have e:cR tm [(0,_),(1,_),(5,_)]:=⟨‹_›,‹_›,‹_›,trivial⟩;obtain _ | k29:=n;cases h;exact ⟨_,rfl,by rw [<- cS e];exact Eq.trans (by kernel_rfl) h⟩;cases h) λk29=>af.no))))))
theorem bl.k:Ok Try.prog 149 (mk11 (bl.tw F)):=by
 intro args H v H' h
 unfold mk11 at h
 split at h
 ·exact okT (PN:=bk) (LH:=(bl.lh F)) (F:=F) (TB:=bl.tb) Try.func149 cw (bl.loops F) (Eq.trans (by kernel_rfl) h) (by kernel_rfl)
 ·cases h
def ah.j7 (F:Nat) (bX:VF) (bi:VK) (ce:VG) (bY:VF) (cf:VG) (bm:VI) (C1021_:We) (rA:Nat) (Ms:Nat) (mr:Int) (Mt:Sl) (rB:Nat) (Mu:Nat) (mu:Int) (H243:Hp):OA:=C1021_ rA Ms mr Mt rB Mu (wrap .i64 (mu+1)) H243
def ah.j8 (F:Nat) (bX:VF) (bi:VK) (ce:VG) (bY:VF) (cf:VG) (bm:VI) (C1021_:We) (rC:Nat) (Mv:Nat) (mv:Int) (Mw:Sl) (rD:Nat) (Mx:Nat) (mw:Int) (H287:Hp):OA:=C1021_ rC Mv mv Mw rD Mx (wrap .i64 (mw+1)) H287
def ah.j9 (bX:VF) (bi:VK) (ce:VG) (bY:VF) (cf:VG) (bm:VI) (C1021_:We) (rE:Nat) (My:Nat) (mz:Int) (Mz:Sl) (rF:Nat) (MA:Nat) (mA:Int) (H269:Hp):OA:=ah.j8 F bX bi ce bY cf bm C1021_ rE My mz Mz rF MA mA H269
def ah.l1021 (F:Nat) (bX:VF) (bi:VK) (ce:VG) (bY:VF) (cf:VG) (bm:VI) :Nat->Nat->Nat->Int->Sl->Nat->Nat->Int->Hp->OA
 | 0,_,_,_,_,_,_,_,_=>none
 | uT+1,gI,je,fz,jf,fS,ip,eR,H140=>(bif (decide (eR<(jf.n:Int))) then ((Sl.idx jf eR 1).bind λp221=>(Hp.ldSl H140 p221.1 p221.2).bind λs222=>(bX fz H140).bind λr223=>((r223.1).asSl).bind λs224=>(if aK H140 r223.2 then ((bm s222 s224 r223.2).bind λr225=>((r225.1).asB).bind λb226=>(bif b226 then (ah.j7 F bX bi ce bY cf bm (ah.l1021 F bX bi ce bY cf bm uT) gI je fz jf fS ip eR r225.2) else ((Sl.idx jf eR 1).bind λp244=>(Hp.ldSl r225.2 p244.1 p244.2).bind λs245=>(bY fz r225.2).bind λr246=>((r246.1).asSl).bind λs247=>(if aK r225.2 r246.2 then ((bm s245 s247 r246.2).bind λr248=>((r248.1).asB).bind λb249=>(bif b249 then ((Hp.ldI r248.2 .i64 fS ip).bind λn250=>(Hp.st r248.2 fS ip (.int .i64 (wrap .i64 (n250+1)))).bind λH251=>ah.j9 F bX bi ce bY cf bm (ah.l1021 F bX bi ce bY cf bm uT) gI je fz jf fS ip eR H251) else ((Hp.ldSl r248.2 fS (ip+1)).bind λs288=>(Sl.idx jf eR 1).bind λp289=>(Hp.ldSl r248.2 p289.1 p289.2).bind λs290=>(Hp.new r248.2 [(.sl s290)]).bind λH291=>(Sl.row H291 (⟨some (r248.2.length,0),1,.ex 1⟩:Sl) 1).bind λxs293=>(Hp.app H291 1 24 s288 (⟨some (r248.2.length,0),1,.ex 1⟩:Sl).n xs293).bind λa292=>(Hp.st a292.2 fS (ip+1) (.sl a292.1)).bind λH294=>ah.j9 F bX bi ce bY cf bm (ah.l1021 F bX bi ce bY cf bm uT) gI je fz jf fS ip eR H294))) else none)))) else none)) else ((Hp.ldI H140 .i64 fS ip).bind λn295=>(Hp.ldSl H140 fS (ip+1)).bind λs296=>(Hp.st H140 gI je (.int .i64 n295)).bind λH297=>(Hp.st H297 gI (je+1) (.sl s296)).bind λH298=>(Hp.ldI H298 .i64 gI je).bind λn299=>(Hp.ldSl H298 gI (je+1)).bind λs300=>some ((.agg [(.int .i64 n299),(.sl s300)]),H298)))
termination_by structural n=>n
def ah.j10 (bX:VF) (bi:VK) (ce:VG) (bY:VF) (cf:VG) (bm:VI) (rG:Nat) (MB:Nat) (mB:Int) (mC:Int) (MC:Sl) (H120:Hp):OA:=(cf MC H120).bind λr121=>((r121.1).asSl).bind λs122=>(Hp.new r121.2 [.int .i64 0,.sl ⟨none,0,.ex 0⟩]).bind λH123=>(Hp.st H123 r121.2.length 0 (.int .i64 mC)).bind λH124=>(Hp.st H124 r121.2.length (0+1) (.sl (⟨none,0,.ex 0⟩:Sl))).bind λH125=>ah.l1021 F bX bi ce bY cf bm F rG MB mB s122 r121.2.length 0 0 H125
def ah.j11 (F:Nat) (bX:VF) (bi:VK) (ce:VG) (bY:VF) (cf:VG) (bm:VI) (C125_:VY) (rH:Nat) (MD:Nat) (rI:Nat) (ME:Nat) (mD:Int) (mE:Int) (MF:Sl) (mF:Int) (H325:Hp):OA:=C125_ rH MD rI ME mD mE MF (wrap .i64 (mF+1)) H325
def ah.j12 (F:Nat) (bX:VF) (bi:VK) (ce:VG) (bY:VF) (cf:VG) (bm:VI) (C125_:VY) (rJ:Nat) (MG:Nat) (rK:Nat) (MH:Nat) (mG:Int) (mH:Int) (MI:Sl) (mI:Int) (H385:Hp):OA:=C125_ rJ MG rK MH mG mH MI (wrap .i64 (mI+1)) H385
def ah.j13 (bX:VF) (bi:VK) (ce:VG) (bY:VF) (cf:VG) (bm:VI) (C125_:VY) (rL:Nat) (MJ:Nat) (rM:Nat) (MK:Nat) (jG:Int) (mJ:Int) (ML:Sl) (mK:Int) (mL:Int) (H362:Hp):OA:=(bY jG H362).bind λr363=>((r363.1).asSl).bind λs364=>(bi s364 (wrap .i64 (0 - mL)) r363.2).bind λr365=>((r365.1).asSl).bind λs366=>(Hp.new r365.2 [(.sl s366)]).bind λH367=>(Sl.row H367 (⟨some (r365.2.length,0),1,.ex 1⟩:Sl) 1).bind λxs369=>(Hp.app H367 1 24 ML (⟨some (r365.2.length,0),1,.ex 1⟩:Sl).n xs369).bind λa368=>ah.j12 F bX bi ce bY cf bm C125_ rL MJ rM MK jG mJ a368.1 mK a368.2
def ah.l32093 (F:Nat) (bX:VF) (bi:VK) (ce:VG) (bY:VF) (cf:VG) (bm:VI) (C125_:VY):Nat->Nat->Nat->Nat->Nat->Int->Int->Sl->Int->Int->Int->Hp->OA
 | 0,_,_,_,_,_,_,_,_,_,_,_=>none
 | MM+1,jH,rN,jI,rO,iq,ir,kq,iu,iw,fT,H340=>(bif (decide (fT<(kq.n:Int))) then ((Sl.idx kq fT 1).bind λp386=>(Hp.ldSl H340 p386.1 p386.2).bind λs387=>(ce s387 H340).bind λr388=>((r388.1).asSl).bind λs389=>(Sl.idx kq fT 1).bind λp390=>(Hp.st r388.2 p390.1 p390.2 (.sl s389)).bind λH391=>ah.l32093 F bX bi ce bY cf bm C125_ MM jH rN jI rO iq ir kq iu iw (wrap .i64 (fT+1)) H391) else (ah.j13 F bX bi ce bY cf bm C125_ jH rN jI rO iq ir kq iu iw H340))
termination_by structural n=>n
def ah.l125 (F:Nat) (bX:VF) (bi:VK) (ce:VG) (bY:VF) (cf:VG) (bm:VI) :Nat->Nat->Nat->Nat->Nat->Int->Int->Sl->Int->Hp->OA
 | 0,_,_,_,_,_,_,_,_,_=>none
 | iL+1,iM,eF,jg,gH,fU,gJ,nz,fV,H17=>(Hp.ldSl H17 iM (eF+1)).bind λs301=>(bif (decide (fV<(s301.n:Int))) then ((Hp.ldSl H17 iM (eF+1)).bind λs302=>(Sl.idx s302 fV 1).bind λp303=>(Hp.ldI H17 .i64 p303.1 p303.2).bind λn304=>(bif (decide (n304>0)) then ((bX fU H17).bind λr305=>((r305.1).asSl).bind λs306=>(bi s306 n304 r305.2).bind λr307=>((r307.1).asSl).bind λs308=>(Hp.new r307.2 [(.sl s308)]).bind λH309=>(Sl.row H309 (⟨some (r307.2.length,0),1,.ex 1⟩:Sl) 1).bind λxs311=>(Hp.app H309 1 24 nz (⟨some (r307.2.length,0),1,.ex 1⟩:Sl).n xs311).bind λa310=>ah.j11 F bX bi ce bY cf bm (ah.l125 F bX bi ce bY cf bm iL) iM eF jg gH fU gJ a310.1 fV a310.2) else (ah.l32093 F bX bi ce bY cf bm (ah.l125 F bX bi ce bY cf bm iL) F iM eF jg gH fU (wrap .i64 (gJ - 1)) nz fV n304 0 H17))) else (ah.j10 F bX bi ce bY cf bm jg gH fU gJ nz H17))
termination_by structural n=>n
def ah.twX (bX:VF) (bi:VK) (ce:VG) (bY:VF) (cf:VG) (bm:VI) (aa:Int) (aF:Sl) (H:Hp):OA:=(Hp.new H [(.int .i64 aa),(.sl aF)]).bind λH3=>(Hp.new H3 [.int .i64 0,.sl ⟨none,0,.ex 0⟩]).bind λH4=>(Hp.ldI H4 .i64 H.length 0).bind λn5=>(Hp.new H4 []).bind λH6=>ah.l125 F bX bi ce bY cf bm F H.length 0 H3.length 0 n5 0 (⟨some (H4.length,0),0,.ex 0⟩:Sl) 0 H6
def ah.tw:=ah.twX F (bD.tw F) (aI.tw F) (bI.tw F) (bE.tw F) (aT.tw F) (bl.tw F)
def ah.lh125 (bX:VF) (bi:VK) (ce:VG) (bY:VF) (cf:VG) (bm:VI) (ks:VM) (n:Nat) (tm:Tm) (H:Hp):OA:=match ks,tm 1,tm 2,tm 3,tm 4,tm 5,tm 6 with
 | [],(.ptr iM eF),(.ptr jg gH),(.int .i64 fU),(.int .i64 gJ),(.sl nz),(.int .i64 fV)=>ah.l125 F bX bi ce bY cf bm n iM eF jg gH fU gJ nz fV H
 | _,_,_,_,_,_,_=>none
def ah.lh1021 (bX:VF) (bi:VK) (ce:VG) (bY:VF) (cf:VG) (bm:VI) (ks:VM) (n:Nat) (tm:Tm) (H:Hp):OA:=match ks,tm 2,tm 3,tm 5,tm 9,tm 10 with
 | [],(.ptr gI je),(.int .i64 fz),(.sl jf),(.ptr fS ip),(.int .i64 eR)=>ah.l1021 F bX bi ce bY cf bm n gI je fz jf fS ip eR H
 | _,_,_,_,_,_=>none
def ah.lh32093 (bX:VF) (bi:VK) (ce:VG) (bY:VF) (cf:VG) (bm:VI) (ks:VM) (n:Nat) (tm:Tm) (H:Hp):OA:=match ks,tm 1,tm 2,tm 3,tm 4,tm 5,tm 6,tm 7,tm 8 with
 | [iL],(.ptr jH rN),(.ptr jI rO),(.int .i64 iq),(.int .i64 ir),(.sl kq),(.int .i64 iu),(.int .i64 iw),(.int .i64 fT)=>ah.l32093 F bX bi ce bY cf bm (ah.l125 F bX bi ce bY cf bm iL) n jH rN jI rO iq ir kq iu iw fT H
 | _,_,_,_,_,_,_,_,_=>none
def ah.lh (bX:VF) (bi:VK) (ce:VG) (bY:VF) (cf:VG) (bm:VI) (p:Nat) (ks:VM) (n:Nat) (tm:Tm) (H:Hp):OA:=bif p.beq 32093 then ah.lh32093 F bX bi ce bY cf bm ks n tm H else (bif p.beq 1021 then ah.lh1021 F bX bi ce bY cf bm ks n tm H else (bif p.beq 125 then ah.lh125 F bX bi ce bY cf bm ks n tm H else (none)))
def ah.pn:Nat->List Nat:=cG [(21,[7,9]),(22,[6]),(23,[6])]
def ah.tb:Nat->List (List Nat):=cG [(21,[[],[0],[],[],[2,3],[2,3,4],[2,3,4,5],[0,1,2,3,4,5,6],[0,1,2,3,4,5,6,7],[0,1,2,3,4,5,6,7,8]]),(22,[[],[],[0,1],[0,1,2],[],[4],[0,1,2,3,4,5],[0,1,2,3,4,5,6]]),(23,[[],[],[0,1],[0,1,2],[],[4],[0,1,2,3,4,5],[0,1,2,3,4,5,6]])]
def ah.cs (F:Nat) (bX:VF) (bi:VK) (ce:VG) (bY:VF) (cf:VG) (bm:VI):Cs:=[(145,mk4 bX),(144,mk10 bi),(146,mk0 ce),(147,mk4 bY),(148,mk0 cf),(149,mk11 bm)]
theorem ah.loops (bX:VF) (bi:VK) (ce:VG) (bY:VF) (cf:VG) (bm:VI):LO (bw (ah.cs F bX bi ce bY cf bm)) ah.pn (ah.lh F bX bi ce bY cf bm) F Try.f94:=
 (af.rt (af.rt (af.rt (af.rt (af.seq (af.rt (af.block (af.la (λn tm H r h=>by change ah.lh125 F bX bi ce bY cf bm [] n tm H=_ at h;unfold ah.lh125 at h;split at h;have e:cR tm [(1,_),(2,_),(3,_),(4,_),(5,_),(6,_)]:=⟨‹_›,‹_›,‹_›,‹_›,‹_›,‹_›,trivial⟩;obtain _ | k125:=n;cases h;exact ⟨_,rfl,by rw [<- cS e];exact Eq.trans (by kernel_rfl) h⟩;cases h) λk125=>(af.rt (af.lt (af.block (af.rt (af.rt (af.rt (af.lt (af.rt (af.block (af.la (λn tm H r h=>by change ah.lh32093 F bX bi ce bY cf bm [k125] n tm H=_ at h;unfold ah.lh32093 at h;split at h;have e:cR tm [(1,_),(2,_),(3,_),(4,_),(5,_),(6,_),(7,_),(8,_)]:=⟨‹_›,‹_›,‹_›,‹_›,‹_›,‹_›,‹_›,‹_›,trivial⟩;cases (show [k125]=_ from ‹_›);obtain _ | k32093:=n;cases h;exact ⟨_,rfl,by rw [<- cS e];exact Eq.trans (by kernel_rfl) h⟩;cases h) λk32093=>af.no))))))))))))) (af.rt (af.rt (af.lt (af.rt (af.block (af.la (λn tm H r h=>by change ah.lh1021 F bX bi ce bY cf bm [] n tm H=_ at h;unfold ah.lh1021 at h;split at h;have e:cR tm [(2,_),(3,_),(5,_),(9,_),(10,_)]:=⟨‹_›,‹_›,‹_›,‹_›,‹_›,trivial⟩;obtain _ | k1021:=n;cases h;exact ⟨_,rfl,by rw [<- cS e];exact Eq.trans (by kernel_rfl) h⟩;cases h) λk1021=>af.no)))))))))))
theorem ah.eqX (bX:VF) (bi:VK) (ce:VG) (bY:VF) (cf:VG) (bm:VI) (aa:Int) (aF:Sl) (H:Hp):EX (bw (ah.cs F bX bi ce bY cf bm)) ah.pn (ah.lh F bX bi ce bY cf bm) F Try.f94 [(.agg [(.int .i64 aa),(.sl aF)])] H=ah.twX F bX bi ce bY cf bm aa aF H:=by kernel_rfl
theorem ah.k:Ok Try.prog 94 (mk3 (ah.tw F)):=by
 intro args H v H' h
 unfold mk3 at h
 split at h
 ·exact okT (TB:=ah.tb) Try.func94 (bf (bD.k F) (bf (aI.k F) (bf (bI.k F) (bf (bE.k F) (bf (aT.k F) (bf (bl.k F) cw)))))) (ah.loops F (bD.tw F) (aI.tw F) (bI.tw F) (bE.tw F) (aT.tw F) (bl.tw F)) ((ah.eqX F (bD.tw F) (aI.tw F) (bI.tw F) (bE.tw F) (aT.tw F) (bl.tw F) _ _ H).trans h) (by kernel_rfl)
 ·cases h
def bF.l29 (F:Nat) (bm:VI) :Nat->Nat->Nat->Nat->Nat->Int->Hp->OA
 | 0,_,_,_,_,_,_=>none
 | bB+1,jh,nA,jJ,iN,fW,H22=>(Hp.ldSl H22 jh (nA+1)).bind λs32=>(bif (decide (fW<(s32.n:Int))) then ((Hp.ldSl H22 jh (nA+1)).bind λs33=>(Sl.idx s33 fW 1).bind λp34=>(Hp.ldSl H22 p34.1 p34.2).bind λs35=>(Hp.ldSl H22 jJ (iN+1)).bind λs36=>(Sl.idx s36 fW 1).bind λp37=>(Hp.ldSl H22 p37.1 p37.2).bind λs38=>(bm s35 s38 H22).bind λr39=>((r39.1).asB).bind λb40=>(bif (!b40) then (some ((.bool false),r39.2)) else (bF.l29 F bm bB jh nA jJ iN (wrap .i64 (fW+1)) r39.2))) else (some ((.bool true),H22)))
termination_by structural n=>n
def bF.twX (bm:VI) (aa:Int) (aF:Sl) (aC:Int) (da:Sl) (H:Hp):OA:=(Hp.new H [(.int .i64 aa),(.sl aF)]).bind λH5=>(Hp.new H5 [(.int .i64 aC),(.sl da)]).bind λH6=>(Hp.ldI H6 .i64 H.length 0).bind λn7=>(Hp.ldI H6 .i64 H5.length 0).bind λn8=>(bif (n7 != n8) then (some ((.bool false),H6)) else ((Hp.ldSl H6 H.length 1).bind λs9=>(Hp.ldSl H6 H5.length 1).bind λs10=>(bif ((s9.n:Int) != (s10.n:Int)) then (some ((.bool false),H6)) else (bF.l29 F bm F H.length 0 H5.length 0 0 H6))))
def bF.tw:=bF.twX F (bl.tw F)
def bF.lh29 (bm:VI) (ks:VM) (n:Nat) (tm:Tm) (H:Hp):OA:=match ks,tm 2,tm 3,tm 5 with
 | [],(.ptr jh nA),(.ptr jJ iN),(.int .i64 fW)=>bF.l29 F bm n jh nA jJ iN fW H
 | _,_,_,_=>none
def bF.lh (bm:VI) (p:Nat) (ks:VM) (n:Nat) (tm:Tm) (H:Hp):OA:=bif p.beq 29 then bF.lh29 F bm ks n tm H else (none)
def bF.pn:Nat->List Nat:=cG [(6,[10])]
def bF.tb:Nat->List (List Nat):=cG [(6,[[],[0],[],[0,1,2],[0,1,2,3],[],[5],[],[5,6,7],[5,6,7,8],[0,1,2,3,4,5,6,7,8,9],[0,1,2,3,4,5,6,7,8,9,10]])]
def bF.cs (F:Nat) (bm:VI):Cs:=[(149,mk11 bm)]
theorem bF.loops (bm:VI):LO (bw (bF.cs F bm)) bF.pn (bF.lh F bm) F Try.f98:=
 (af.rt (af.rt (af.lt (af.rt (af.block (af.la (λn tm H r h=>by change bF.lh29 F bm [] n tm H=_ at h;unfold bF.lh29 at h;split at h;have e:cR tm [(2,_),(3,_),(5,_)]:=⟨‹_›,‹_›,‹_›,trivial⟩;obtain _ | k29:=n;cases h;exact ⟨_,rfl,by rw [<- cS e];exact Eq.trans (by kernel_rfl) h⟩;cases h) λk29=>af.no))))))
theorem bF.eqX (bm:VI) (aa:Int) (aF:Sl) (aC:Int) (da:Sl) (H:Hp):EX (bw (bF.cs F bm)) bF.pn (bF.lh F bm) F Try.f98 [(.agg [(.int .i64 aa),(.sl aF)]),(.agg [(.int .i64 aC),(.sl da)])] H=bF.twX F bm aa aF aC da H:=by kernel_rfl
theorem bF.k:Ok Try.prog 98 (mk13 (bF.tw F)):=by
 intro args H v H' h
 unfold mk13 at h
 split at h
 ·exact okT (TB:=bF.tb) Try.func98 (bf (bl.k F) cw) (bF.loops F (bl.tw F)) ((bF.eqX F (bl.tw F) _ _ _ _ H).trans h) (by kernel_rfl)
 ·cases h
def cQ.twX (F:Nat) (dq:VH) (kr:VH) (mM:VQ) (aa:Int) (aF:Sl) (aC:Int) (da:Sl) (H:Hp):OA:=(Hp.new H [(.int .i64 aa),(.sl aF)]).bind λH5=>(Hp.new H5 [(.int .i64 aC),(.sl da)]).bind λH6=>(Hp.ldI H6 .i64 H.length 0).bind λn7=>(Hp.ldSl H6 H.length (0+1)).bind λs8=>(dq n7 s8 H6).bind λr9=>((r9.1).asB).bind λb10=>(bif b10 then ((Hp.ldI r9.2 .i64 H5.length 0).bind λn11=>(Hp.ldSl r9.2 H5.length (0+1)).bind λs12=>(dq n11 s12 r9.2).bind λr13=>((r13.1).asB).bind λb14=>(bif b14 then ((Hp.ldI r13.2 .i64 H.length 0).bind λn15=>(Hp.ldI r13.2 .i64 H5.length 0).bind λn16=>(bif (n15==n16) then ((Hp.ldI r13.2 .i64 H.length 0).bind λn17=>(Hp.ldSl r13.2 H.length (0+1)).bind λs18=>(kr n17 s18 r13.2).bind λr19=>((r19.1).asAgg 2).bind λl20=>(l20[0]?).bind λv21=>((v21).asI .i64).bind λn22=>(l20[1]?).bind λv23=>((v23).asSl).bind λs24=>(if aK r13.2 r19.2 then ((Hp.ldI r19.2 .i64 H5.length 0).bind λn25=>(Hp.ldSl r19.2 H5.length (0+1)).bind λs26=>(kr n25 s26 r19.2).bind λr27=>((r27.1).asAgg 2).bind λl28=>(l28[0]?).bind λv29=>((v29).asI .i64).bind λn30=>(l28[1]?).bind λv31=>((v31).asSl).bind λs32=>(mM n22 s24 n30 s32 r27.2).bind λr33=>((r33.1).asB).bind λb34=>some ((.bool b34),r33.2)) else none)) else (some ((.bool false),r13.2)))) else (some ((.bool false),r13.2)))) else (some ((.bool false),r9.2)))
def cQ.tw:=cQ.twX F (bo.tw F) (ah.tw F) (bF.tw F)
def cQ.pn:Nat->List Nat:=cG [(1,[1,4,17,18])]
def cQ.tb:Nat->List (List Nat):=cG [(1,[[],[0],[0,1],[0,1,2],[0,1,2,3],[0,1,2,3,4],[0,1,2,3,4,5],[0,1,2,3,4,5,6],[0,1,2,3,4,5,6,7],[0,1,2,3,4,5,6],[0,1,2,3,4,5,6,9],[0,1,2,3,4,5,6,7,8,9,10],[0,1,2,3,4,5,6,7,8,9,10,11],[0,1,2,3,4,5,6,7,8,9,10,11,12],[0,1,2,3,4,5,6,7,8,9,10,11,12,13],[0,1,2,3,4,5,6,7,8,9,10,11,12,13,14],[0,1,2,3,4,5,6,7,8,9,10,11,12,13],[0,1,2,3,4,5,6,7,8,9,10,11,12,13,14,15,16],[0,1,2,3,4,5,6,7,8,9,10,11,12,13,14,15,16,17],[0,1,2,3,4,5,6,7,8,9,10,11,12,13,14,15,16,17,18],[0,1,2,3,4,5,6,7,8,9,10,11,12,13,14,15,16,17,18,19]])]
def cQ.cs (F:Nat) (dq:VH) (kr:VH) (mM:VQ):Cs:=[(49,mk3 dq),(94,mk3 kr),(98,mk13 mM)]
theorem cQ.eqX (dq:VH) (kr:VH) (mM:VQ) (aa:Int) (aF:Sl) (aC:Int) (da:Sl) (H:Hp):EX (bw (cQ.cs F dq kr mM)) cQ.pn lh0 F Try.f41 [(.agg [(.int .i64 aa),(.sl aF)]),(.agg [(.int .i64 aC),(.sl da)])] H=cQ.twX F dq kr mM aa aF aC da H:=by kernel_rfl
theorem cQ.k:Ok Try.prog 41 (mk13 (cQ.tw F)):=by
 intro args H v H' h
 unfold mk13 at h
 split at h
 ·exact okT (TB:=cQ.tb) Try.func41 (bf (bo.k F) (bf (ah.k F) (bf (bF.k F) cw))) af.no ((cQ.eqX F (bo.tw F) (ah.tw F) (bF.tw F) _ _ _ _ H).trans h) (by kernel_rfl)
 ·cases h
theorem nm_infoI:(Try.prog.info? 2).map (λi=>(i.zero,i.size,i.bytes))=some (some (.int .i64 0),1,8):=by kernel_rfl
def iv_upto (l:VE) (k:Nat):List (Int×Int):=(List.range k).map λj=>((((l.length - 1 - j:Nat)):Int),rdi l (l.length - 1 - j))
theorem iv_upto_succ (l:VE) (k:Nat):iv_upto l (k+1)=iv_upto l k++[((((l.length - 1 - k:Nat)):Int),rdi l (l.length - 1 - k))]:=by simp [iv_upto,List.range_succ]
theorem iv_upto_length (l:VE) (k:Nat):(iv_upto l k).length=k:=by simp [iv_upto]
def iv_neg (ps:List (Int×Int)):List Int:=ps.map λx=>wrap64 (-x.2)
section
attribute [local go_sem] Oper.semAt_some
theorem iv_back1 (F:Fence) (n:Nat) (hf:F.fn 199) (hro:F.round=none) (hn:1<=n) (l Bs n₀:Nat) (A:Wk) (c:Nat) (zs:VE) (hlen:zs.length<=1000000)
  (J Jx:List (Int×Int)->World->Prop)
  (hY:∀ pre x W,J pre W->pre.length<zs.length->YieldAt F (n - 1) Try.prog l #[.int .i64 x.1,.int .i64 x.2] W λe W'=>
   (e=.returned (.bool true)/\J (pre++[x]) W'/\(Below n₀ W W'/\(∀ v,Boxed W Bs 47 v->Boxed W' Bs 47 v)))\/(e=.returned (.bool false)/\Jx (pre++[x]) W'))
  (W:World) (hBs:Boxed W Bs 47 (.slice A zs.length c)) (hc:∀ j:Nat,j<zs.length->∃ ad,A=some ad/\ad.block<n₀/\W.cell? (ad.add j)=some (.int .i64 (rdi zs j))) (h0:J [] W) :
  CallsIn F n Try.prog 199 #[.func (.yield l) #[] #[],.pointer (some ⟨Bs,0,none⟩)] W λe W'=>(∃ v,e=.returned v) /\
   ((∃ ys,ys=iv_upto zs zs.length/\J ys W')\/(∃ pre,True/\Jx pre W')):=by
 refine callsIn_of_wp Try.func199 rfl hf ?_ hro
 simp only [Try.ntmps199,List.size_toArray,List.length_cons,List.length_nil,Nat.reduceAdd,Nat.reduceSub,Array.replicate_succ,Array.replicate_zero,List.push_toArray,List.append_toArray,List.nil_append,List.cons_append]
 have hcB:=hBs.cell
 gi_wp2
 gi_loopw [3] (λi wr=>∃ k:Nat,k<=zs.length/\i=.int .i64 ((zs.length:Int) - 1 - k)/\J (iv_upto zs k) wr/\Below n₀ W wr/\Boxed wr Bs 47 (.slice A zs.length c))
  (λi _=>(intOf i+1).toNat)
 case atStart=>exact ⟨0,Nat.zero_le _,by simp [IntKind.wrap,wrap64] <;> omega,h0,Below.refl _ _,hBs⟩
 case round=>
  obtain ⟨k,hk,rfl,hJs,hnx,hbx⟩:=hrel
  by_cases hlt:k<zs.length
  ·obtain ⟨ad,rfl,had,hcell⟩:=hc (zs.length - 1 - k) (by omega)
   have hcw:wr.cell? (ad.add (zs.length - 1 - k))=some (.int .i64 (rdi zs (zs.length - 1 - k))):=(hnx.cell (by rw [zr];exact had)).trans hcell
   have hbc:=hbx.cell
   obtain ⟨fn,tmps,assign,body,hy,hR⟩:=hY _ ((((zs.length - 1 - k:Nat)):Int),rdi zs (zs.length - 1 - k)) wr hJs (by rw [iv_upto_length];exact hlt)
   dsimp only at hy
   have hge:((zs.length:Int) - 1 - k)>=0:=by omega
   obtain ⟨m,hm⟩:∃ m:Nat,m=zs.length - 1 - k:=⟨_,rfl⟩
   have hmi:((zs.length:Int) - 1 - k)=(m:Int):=by omega
   rw [hmi]
   rw [<- hm] at hcw hy hR
   have hml:(m:Int)<(zs.length:Int):=by omega
   have hm':=Aside0.mk hm
   have hmi':=Aside0.mk hmi
   clear hm hmi hge hcell hcB
   have hmg:(0:Int)<=(m:Int):=by omega
   gi_wp2
   refine hR.mono ?_
   rintro e W3 (⟨rfl,hJ3,hk3,hk4⟩ | ⟨rfl,hJx3⟩)
   ·gi_wp2
    go_roundw
    case rel=>exact ⟨k+1,by omega,by have h1_:=hm'.out;have h2_:=hmi'.out;congr 1;push_cast;omega,by rw [iv_upto_succ,<-hm'.out];exact hJ3,hnx.trans hk3,hk4 _ hbx⟩
    case measure=>simp [intOf];try omega
   ·gi_wp2
    refine bodyPost_ret (results_none rfl _ _ _) rfl ?_
    exact ⟨⟨_,rfl⟩,.inr ⟨_,trivial,hJx3⟩⟩
  ·obtain rfl:k=zs.length:=by omega
   gi_wp2
   go_end0
   exact ⟨⟨_,rfl⟩,.inl ⟨_,rfl,hJs⟩⟩
theorem iv_back (F:Fence) (n:Nat) (hf:F.fn 169) (hro:F.round=none) (a:Wk) (len cap:Nat) (w:World) :
  CallsIn F n Try.prog 169 #[.slice a len cap] w λe w'=>e=.returned (.func (.func 199) #[] #[.pointer (some ⟨w.heap.size,0,none⟩)])/\w'=w.alloc (.cells #[.slice a len cap] 47):=by
 refine callsIn_of_wp Try.func169 rfl hf ?_ hro
 simp only [Try.ntmps169,List.size_toArray,List.length_cons,List.length_nil,Nat.reduceAdd,Nat.reduceSub,Array.replicate_succ,Array.replicate_zero,List.push_toArray,List.append_toArray,List.nil_append,List.cons_append]
 gi_wp2
 go_ret
 exact ⟨rfl,rfl⟩
theorem iv_back_stops (F:Fence) (n:Nat) (hf:F.fn 199) (hro:F.round=none) (hn:1<=n) (Bs n₀:Nat) (A:Wk) (c:Nat) (zs:VE) (hlen:zs.length<=1000000) (w:World) (hn₀:n₀<=w.heap.size)
  (hBs:Boxed w Bs 47 (.slice A zs.length c)) (hc:∀ j:Nat,j<zs.length->∃ ad,A=some ad/\ad.block<n₀/\w.cell? (ad.add j)=some (.int .i64 (rdi zs j))) :
  SeqStopsK F n Try.prog 199 #[.pointer (some ⟨Bs,0,none⟩)] (λx:Int×Int=>#[Value.int .i64 x.1,Value.int .i64 x.2]) (λW W'=>Below n₀ W W'/\(∀ v,Boxed W Bs 47 v->Boxed W' Bs 47 v)) (λys=>ys=iv_upto zs zs.length) (λ_=>True) zs.length w:=λl J Jx W hW _ _ hY h0=>
 iv_back1 F n hf hro hn l Bs n₀ A c zs hlen J Jx hY W ((hW.block Bs hBs.lt).trans hBs) (λj hj=>by
  obtain ⟨ad,e,h1,h2⟩:=hc j hj
  exact ⟨ad,e,h1,(hW.cell (by rw [zr];omega)).trans h2⟩) h0
theorem iv_calls_in (A0:Wk) (c0:Nat) (l0:VE) (w:World) (hlen:l0.length<=1000000) (hcell:∀ j:Nat,j<l0.length->∃ ad,A0=some ad/\ad.block<w.heap.size/\w.cell? (ad.add j)=some (.int .i64 (rdi l0 j))) :
  CallsIn Fence.wide 9 Try.prog 123 #[.slice A0 l0.length c0] w λe w'=>∃ v,e=.returned v/\w'.ownsRow w.heap.size 2 1 v (iv_neg (iv_upto l0 l0.length)).length ((iv_neg (iv_upto l0 l0.length)).map (Value.int .i64))/\Below w.heap.size w w'/\(l0=[]->v=.slice none 0 0):=by
 have hro:Fence.wide.round=none:=rfl
 have h1:1<=9:=by omega
 obtain ⟨i0,hi,hz0,hz1,hz2⟩:=info_parts nm_infoI
 refine callsIn_of_wp_marks Try.func123 rfl trivial ?_ hro
 simp only [Try.ntmps123,List.size_toArray,List.length_cons,List.length_nil,Nat.reduceAdd,Nat.reduceSub,Array.replicate_succ,Array.replicate_zero,List.push_toArray,List.append_toArray,List.nil_append,List.cons_append]
 gi_wp2_with (refine ⟨trivial,?_⟩;gi_at_call 169;refine (iv_back Fence.wide _ trivial hro _ _ _ _).mono ?_;rintro e w' ⟨rfl,rfl⟩)
 have bO:=Boxed.new w 47 (.slice none 0 0)
 have bN:=Boxed.new (w.alloc (.cells #[.slice none 0 0] 47)) 47 (.slice A0 l0.length c0)
 rw [World.size_alloc] at bN
 have hB0:Below w.heap.size w ((w.alloc (.cells #[.slice none 0 0] 47)).alloc (.cells #[.slice A0 l0.length c0] 47)):=((Below.refl _ w).alloc (Nat.le_refl _) _).alloc (by simp) _
 refine wpIn_rangeFunc_ownG hro h1 (gf:=199) (lb:=#[.pointer (some ⟨w.heap.size+1,0,none⟩)]) rfl trivial (enters_of Try.func199 (by kernel_rfl) rfl)
  (iv_back_stops Fence.wide _ trivial hro (by omega) (w.heap.size+1) w.heap.size A0 c0 l0 hlen _ (by simp;omega) bN (λj hj=>by
   obtain ⟨ad,e,h1_,h2_⟩:=hcell j hj
   exact ⟨ad,e,h1_,(hB0.cell (by rw [zr];exact h1_)).trans h2_⟩))
  (λh k=>⟨h.1.trans k.1,λv hv=>k.2 v (h.2 v hv)⟩)
  (λW l o o' hl h hc hw=>⟨belowK_b (by simp;omega) W l o o' hl h hc hw,λv hv=>hv.kept (grownBy_putObj' W l o') (by
   intro e
   injection e with e
   subst e
   rw [show W.heap[_]?=_ from hv] at h
   cases h
   cases hc)⟩)
  (Below.refl _ _) (λ_=>rfl)
  (λpre W=>((∃ v,Boxed W w.heap.size 47 v/\W.ownsRow w.heap.size 2 1 v (iv_neg pre).length ((iv_neg pre).map (Value.int .i64))/\(pre=[]->v=.slice none 0 0))/\Boxed W (w.heap.size+1) 47 (.slice A0 l0.length c0))/\Below w.heap.size w W)
  (λ_ _ _=>False)
  (OwnFrom.and (OwnFrom.and (Own.from (holdsRow_own w.heap.size w.heap.size 47 2 1 (λpre=>(iv_neg pre).length) (λpre=>(iv_neg pre).map (Value.int .i64)) (λpre v=>pre=[]->v=.slice none 0 0)) _) (Own.from (boxed_own _ _ _) _)) (ownFrom_below (Nat.le_refl _) (by simp;omega)))
  (λ_ _ _ _ _ hs _ _=>hs)
  ⟨⟨⟨_,bO.alloc _,World.ownsRow_nil _ _ _ _,λ_=>rfl⟩,bN⟩,hB0⟩
  (λx=>{ tmps:=#[.slice A0 l0.length c0,undef,.slice none 0 0,.pointer (some ⟨w.heap.size,0,none⟩),undef,.int .i64 x.2,.slice A0 l0.length c0,.func (.func 199) #[] #[.pointer (some ⟨w.heap.size+1,0,none⟩)],.int .i64 x.1,.int .i64 x.2,undef,undef,undef,undef,undef,undef],defers:=[] }) ?assign ?body ?done ?stop
 case assign=>
  intro l x W K hK
  gi_wp2
  exact hK
 case body=>
  rintro l pre x W ⟨⟨⟨v,hv,hrow,_⟩,hS⟩,hB⟩ hlt
  have hc:=hv.cell
  have hpl:(iv_neg pre).length=pre.length:=by simp [iv_neg]
  gi_wp2_with (gi_at_builtin;go_loud (refine wpListIn_append_own _ rfl _ _ 47 rfl w.heap.size 2 i0 (.int .i64 0) 1 8 Try.underlying47 hi hz0 hz1 hz2 rfl (by decide) _ _ _ rfl (hrow.alloc _) ⟨W.heap.size,0,none⟩ 1 1 [.int .i64 (wrap64 (-x.2))] rfl rfl (cell_one_new _ _ _) (by simp [Value.oneCell']) (by have h_:(1000001:Nat)<=maxLen:=(by decide);omega) (by omega) (by have:=hB.size;simp;omega) ?_;intro v' w1 hown' hgrow _;obtain ⟨g',cap',rfl⟩:=ownsRow_succ hown';have hS0:=hS.alloc (.cells #[.int .i64 (wrap64 (-x.2))] 2);have hr0:=hrow.alloc (.cells #[.int .i64 (wrap64 (-x.2))] 2);have hn0:=Boxed.not_row hS0 (show (47:Nat)≠2 by decide) hr0;have hS1:=hS0.kept hgrow hn0;obtain ⟨hv1,hv2,hr2,hk2,hb2⟩:=hv.appended (by decide) hrow hB.size (Nat.le_refl _) hown' hgrow;have hc1:=hv1.cell;have hf1:=hv1.frozen))
  rw [hpl] at hv2 hr2 hk2 hb2
  have hS2:=hS1.other (B':=w.heap.size) (by omega) (.slice (some ⟨g',0,none⟩) (pre.length+1) cap')
  refine ⟨hk2.from _,⟨hb2,λu hu=>?_⟩,⟨⟨_,hv2,by simpa [iv_neg] using hr2,λq=>absurd q (by simp)⟩,hS2⟩,hB.trans hb2⟩
  have e_:=(show W.heap[_]?=_ from hu).symm.trans hS
  simp at e_
  subst e_
  exact hS2
 case done=>
  rintro D ys W hD rfl ⟨⟨⟨v,hv,hrow,hnil⟩,hS⟩,hB⟩ hK
  have hc:=hv.cell
  gi_wp2
  refine ⟨by simp,.inl ⟨_,_,rfl,run_takeDeferred hK,?_⟩⟩
  exact ⟨_,results_tmp rfl _ _ _,v,rfl,ownsRow_putObj hrow _ hK rfl,hB.trans (belowK_b (w:=w) (Nat.le_refl _) W D _ _ (by simp at hD;omega) hK rfl rfl),λq=>hnil (by rw [q];rfl)⟩
 case stop=>
  rintro D c pre W _ _ h _
  exact h.elim
end
theorem iv_eq (l:VE):iv_neg (iv_upto l l.length)=ngv l:=by
 apply List.ext_getElem
 ·simp [iv_neg,iv_upto,ngv]
 ·intro i h1 h2
  have hi:i<l.length:=by simpa [iv_neg,iv_upto] using h1
  simp only [iv_neg,iv_upto,ngv,List.getElem_map,List.getElem_range,List.getElem_reverse,List.length_map]
  have:rdi l (l.length - 1 - i)=l[l.length - 1 - i]'(by omega):=by unfold rdi;rw [List.getD_eq_getElem?_getD,List.getElem?_eq_getElem (by omega)];rfl
  rw [this,Int.zero_sub];simp [IntKind.wrap,wrap64,IntKind.bits,IntKind.signed]
  split <;> omega
theorem iv_ok:InvOk Try.prog 123 2:=⟨λA0 c0 l0 w hlen hcell=>(callsIn_wide (n:=9)).1 ((iv_calls_in A0 c0 l0 w hlen hcell).mono (by
 rintro e w' ⟨v,rfl,ho,hb,hn⟩
 rw [iv_eq,mX] at ho
 exact ⟨v,rfl,ho,hb,hn⟩))⟩
def dB.tw (F:Nat) (aa:Sl) (H:Hp):OA:=pj aa H
def dB.mk (g:VG) (args:VS) (H:Hp):OA:=match args with
 | [.sl aa]=>g aa H
 | _=>none
theorem dB.T {F:Nat} {aa:Sl} {H:Hp} {v:AV} {H':Hp} (h:dB.tw F aa H=some (v,H')):Go.AE.T Try.prog 123 [.sl aa] H v H':=
 iv_ok.T (Go.AE.enters_of Try.func123 (by kernel_rfl) (by kernel_rfl)) h
theorem dB.mk_T {F:Nat} {args:VS} {H:Hp} {v:AV} {H':Hp} (h:dB.mk (dB.tw F) args H=some (v,H')):Go.AE.T Try.prog 123 args H v H':=by
 unfold dB.mk at h
 split at h
 ·exact dB.T h
 ·cases h
theorem dB.k:Ok Try.prog 123 (dB.mk (dB.tw F)):=λ_ _ _ _ h=>dB.mk_T h
def de.twX (F:Nat) (cl:VH) (mN:VG) (aa:Int) (aF:Sl) (H:Hp):OA:=(Hp.new H [(.int .i64 aa),(.sl aF)]).bind λH3=>(Hp.new H3 [.int .i64 0,.sl ⟨none,0,.ex 0⟩]).bind λH4=>(Hp.ldI H4 .i64 H.length 0).bind λn5=>(Hp.ldSl H4 H.length (0+1)).bind λs6=>(cl n5 s6 H4).bind λr7=>((r7.1).asB).bind λb8=>(bif (!b8) then ((Hp.st r7.2 H3.length 0 (.int .i64 0)).bind λH9=>(Hp.st H9 H3.length (0+1) (.sl (⟨none,0,.ex 0⟩:Sl))).bind λH10=>(Hp.ldI H10 .i64 H3.length 0).bind λn11=>(Hp.ldSl H10 H3.length (0+1)).bind λs12=>some ((.tup [(.agg [(.int .i64 n11),(.sl s12)]),(.int .i64 1)]),H10)) else ((Hp.ldI r7.2 .i64 H.length 0).bind λn13=>(Hp.ldSl r7.2 H.length 1).bind λs14=>(mN s14 r7.2).bind λr15=>((r15.1).asSl).bind λs16=>(if aK r7.2 r15.2 then ((Hp.st r15.2 H3.length 0 (.int .i64 n13)).bind λH17=>(Hp.st H17 H3.length (0+1) (.sl s16)).bind λH18=>(Hp.ldI H18 .i64 H3.length 0).bind λn19=>(Hp.ldSl H18 H3.length (0+1)).bind λs20=>some ((.tup [(.agg [(.int .i64 n19),(.sl s20)]),(.int .i64 0)]),H18)) else none)))
def de.tw:=de.twX F (b_.tw F) (dB.tw F)
def de.pn:Nat->List Nat:=cG [(3,[6])]
def de.tb:Nat->List (List Nat):=cG [(3,[[],[0],[],[2],[2,3],[0,1,2,3,4],[0,1,2,3,4,5],[0,1,2,3,4,5,6]])]
def de.cs (F:Nat) (cl:VH) (mN:VG):Cs:=[(96,mk3 cl),(123,dB.mk mN)]
theorem de.eqX (cl:VH) (mN:VG) (aa:Int) (aF:Sl) (H:Hp):EX (bw (de.cs F cl mN)) de.pn lh0 F Try.f54 [(.agg [(.int .i64 aa),(.sl aF)])] H=de.twX F cl mN aa aF H:=by kernel_rfl
theorem de.k:Ok Try.prog 54 (mk3 (de.tw F)):=by
 intro args H v H' h
 unfold mk3 at h
 split at h
 ·exact okT (TB:=de.tb) Try.func54 (bf (b_.k F) (bf (dB.k F) cw)) af.no ((de.eqX F (b_.tw F) (dB.tw F) _ _ H).trans h) (by kernel_rfl)
 ·cases h
def ey.j1 (F:Nat) (iO:Sl) (nB:Int) (H7:Hp):OA:=(Sl.capK iO λc8=>(bif (decide ((wrap .i64 (nB - (wrap .i64 ((c8:Int) - (iO.n:Int)))))>0)) then ((Sl.capK iO λc9=>(Sl.cut iO 1 0 (c9:Int)).bind λs10=>(if 0<=(wrap .i64 (nB - (wrap .i64 ((c8:Int) - (iO.n:Int)))))/\(wrap .i64 (nB - (wrap .i64 ((c8:Int) - (iO.n:Int)))))<=70368744177664 then (Hp.app H7 1 8 s10 ((wrap .i64 (nB - (wrap .i64 ((c8:Int) - (iO.n:Int))))):Int).toNat (zrow ((wrap .i64 (nB - (wrap .i64 ((c8:Int) - (iO.n:Int))))):Int).toNat [.int .i64 0])).bind λa11=>(Sl.cut a11.1 1 0 (iO.n:Int)).bind λs12=>some ((.sl s12),a11.2) else none))) else (some ((.sl iO),H7))))
def ey.twX (aa:Sl) (av:Int) (H:Hp):OA:=(bif (decide (av<0)) then (none) else (ey.j1 F aa av H))
def ey.tw:=ey.twX F
theorem ey.k:Ok Try.prog 170 (mk10 (ey.tw F)):=by
 intro args H v H' h
 unfold mk10 at h
 split at h
 ·exact ok0 Try.func170 (Eq.trans (by kernel_rfl) h) (by kernel_rfl) (by kernel_rfl)
 ·cases h
def bs.l125 (F:Nat) (du:VK) :Nat->Sl->Sl->Int->Int->Hp->OA
 | 0,_,_,_,_,_=>none
 | iL+1,rP,rQ,rR,nC,H42=>(bif (decide (nC<rR)) then ((Sl.idx rQ nC 1).bind λp47=>(Hp.ldSl H42 p47.1 p47.2).bind λs48=>(Sl.row H42 s48 1).bind λxs50=>(Hp.app H42 1 8 rP s48.n xs50).bind λa49=>bs.l125 F du iL a49.1 rQ rR (wrap .i64 (nC+1)) a49.2) else (some ((.sl rP),H42)))
def bs.j2 (du:VK) (Ag:Sl) (MN:Int) (H28:Hp):OA:=(du (⟨none,0,.ex 0⟩:Sl) MN H28).bind λr29=>((r29.1).asSl).bind λs30=>bs.l125 F du F s30 Ag (Ag.n:Int) 0 r29.2
def bs.j3 (F:Nat) (du:VK) (C29_:Sl->Int->Sl->Int->Int->Hp->OA) (MO:Sl) (MP:Int) (MQ:Sl) (MR:Int) (MS:Int) (H62:Hp):OA:=C29_ MO MP MQ MR (wrap .i64 (MS+1)) H62
def bs.l29 (F:Nat) (du:VK) :Nat->Sl->Int->Sl->Int->Int->Hp->OA
 | 0,_,_,_,_,_,_=>none
 | bB+1,gZ,cP,rS,rT,nD,H8=>(bif (decide (nD<rT)) then ((Sl.idx rS nD 1).bind λp51=>(Hp.ldSl H8 p51.1 p51.2).bind λs52=>(bif (decide ((wrap .i64 (cP+(s52.n:Int)))<0)) then (none) else (bs.j3 F du (bs.l29 F du bB) gZ (wrap .i64 (cP+(s52.n:Int))) rS rT nD H8))) else (bs.j2 F du gZ cP H8))
def bs.twX (du:VK) (aa:Sl) (H:Hp):OA:=bs.l29 F du F aa 0 aa (aa.n:Int) 0 H
def bs.tw:=bs.twX F (ey.tw F)
def bs.lh29 (du:VK) (ks:VM) (n:Nat) (tm:Tm) (H:Hp):OA:=match ks,tm 0,tm 3,tm 9,tm 10,tm 11 with
 | [],(.sl gZ),(.int .i64 cP),(.sl rS),(.int .i64 rT),(.int .i64 nD)=>bs.l29 F du n gZ cP rS rT nD H
 | _,_,_,_,_,_=>none
def bs.lh125 (du:VK) (ks:VM) (n:Nat) (tm:Tm) (H:Hp):OA:=match ks,tm 6,tm 25,tm 26,tm 27 with
 | [],(.sl rP),(.sl rQ),(.int .i64 rR),(.int .i64 nC)=>bs.l125 F du n rP rQ rR nC H
 | _,_,_,_,_=>none
def bs.lh (du:VK) (p:Nat) (ks:VM) (n:Nat) (tm:Tm) (H:Hp):OA:=bif p.beq 125 then bs.lh125 F du ks n tm H else (bif p.beq 29 then bs.lh29 F du ks n tm H else (none))
def bs.cs (F:Nat) (du:VK):Cs:=[(170,mk10 du)]
theorem bs.loops (du:VK):LO (bw (bs.cs F du)) bk (bs.lh F du) F Try.f124:=
 (af.rt (af.rt (af.seq (af.rt (af.block (af.la (λn tm H r h=>by change bs.lh29 F du [] n tm H=_ at h;unfold bs.lh29 at h;split at h;have e:cR tm [(0,_),(3,_),(9,_),(10,_),(11,_)]:=⟨‹_›,‹_›,‹_›,‹_›,‹_›,trivial⟩;obtain _ | k29:=n;cases h;exact ⟨_,rfl,by rw [<- cS e];exact Eq.trans (by kernel_rfl) h⟩;cases h) λk29=>af.no))) (af.rt (af.lt (af.rt (af.block (af.la (λn tm H r h=>by change bs.lh125 F du [] n tm H=_ at h;unfold bs.lh125 at h;split at h;have e:cR tm [(6,_),(25,_),(26,_),(27,_)]:=⟨‹_›,‹_›,‹_›,‹_›,trivial⟩;obtain _ | k125:=n;cases h;exact ⟨_,rfl,by rw [<- cS e];exact Eq.trans (by kernel_rfl) h⟩;cases h) λk125=>af.no))))))))
theorem bs.eqX (du:VK) (aa:Sl) (H:Hp):EX (bw (bs.cs F du)) bk (bs.lh F du) F Try.f124 [(.sl aa)] H=bs.twX F du aa H:=by kernel_rfl
theorem bs.k:Ok Try.prog 124 (mk0 (bs.tw F)):=by
 intro args H v H' h
 unfold mk0 at h
 split at h
 ·exact okT (TB:=bk) Try.func124 (bf (ey.k F) cw) (bs.loops F (ey.tw F)) ((bs.eqX F (ey.tw F) _ H).trans h) (by kernel_rfl)
 ·cases h
def dc.twX (F:Nat) (cl:VH) (mO:VG) (aa:Int) (aF:Sl) (aC:Int) (da:Sl) (H:Hp):OA:=(Hp.new H [(.int .i64 aa),(.sl aF)]).bind λH5=>(Hp.new H5 [(.int .i64 aC),(.sl da)]).bind λH6=>(Hp.new H6 [.int .i64 0,.sl ⟨none,0,.ex 0⟩]).bind λH7=>(Hp.ldI H7 .i64 H.length 0).bind λn8=>(Hp.ldSl H7 H.length (0+1)).bind λs9=>(cl n8 s9 H7).bind λr10=>((r10.1).asB).bind λb11=>(bif (!b11) then ((Hp.st r10.2 H6.length 0 (.int .i64 0)).bind λH12=>(Hp.st H12 H6.length (0+1) (.sl (⟨none,0,.ex 0⟩:Sl))).bind λH13=>(Hp.ldI H13 .i64 H6.length 0).bind λn14=>(Hp.ldSl H13 H6.length (0+1)).bind λs15=>some ((.tup [(.agg [(.int .i64 n14),(.sl s15)]),(.int .i64 1)]),H13)) else ((Hp.ldI r10.2 .i64 H5.length 0).bind λn16=>(Hp.ldSl r10.2 H5.length (0+1)).bind λs17=>(cl n16 s17 r10.2).bind λr18=>((r18.1).asB).bind λb19=>(bif (!b19) then ((Hp.st r18.2 H6.length 0 (.int .i64 0)).bind λH20=>(Hp.st H20 H6.length (0+1) (.sl (⟨none,0,.ex 0⟩:Sl))).bind λH21=>(Hp.ldI H21 .i64 H6.length 0).bind λn22=>(Hp.ldSl H21 H6.length (0+1)).bind λs23=>some ((.tup [(.agg [(.int .i64 n22),(.sl s23)]),(.int .i64 1)]),H21)) else ((Hp.ldI r18.2 .i64 H.length 0).bind λn24=>(Hp.ldI r18.2 .i64 H5.length 0).bind λn25=>(bif (n24 != n25) then ((Hp.st r18.2 H6.length 0 (.int .i64 0)).bind λH26=>(Hp.st H26 H6.length (0+1) (.sl (⟨none,0,.ex 0⟩:Sl))).bind λH27=>(Hp.ldI H27 .i64 H6.length 0).bind λn28=>(Hp.ldSl H27 H6.length (0+1)).bind λs29=>some ((.tup [(.agg [(.int .i64 n28),(.sl s29)]),(.int .i64 1)]),H27)) else ((Hp.ldSl r18.2 H.length 1).bind λs30=>(Hp.ldSl r18.2 H5.length 1).bind λs31=>(bif (decide ((wrap .i64 ((s30.n:Int)+(s31.n:Int)))>24)) then ((Hp.st r18.2 H6.length 0 (.int .i64 0)).bind λH32=>(Hp.st H32 H6.length (0+1) (.sl (⟨none,0,.ex 0⟩:Sl))).bind λH33=>(Hp.ldI H33 .i64 H6.length 0).bind λn34=>(Hp.ldSl H33 H6.length (0+1)).bind λs35=>some ((.tup [(.agg [(.int .i64 n34),(.sl s35)]),(.int .i64 3)]),H33)) else ((Hp.ldI r18.2 .i64 H.length 0).bind λn36=>(Hp.ldSl r18.2 H.length 1).bind λs37=>(Hp.ldSl r18.2 H5.length 1).bind λs38=>(Hp.new r18.2 [(.sl s37),(.sl s38)]).bind λH39=>(mO (⟨some (r18.2.length,0),2,.ex 2⟩:Sl) H39).bind λr40=>((r40.1).asSl).bind λs41=>(if aK H39 r40.2 then ((Hp.st r40.2 H6.length 0 (.int .i64 n36)).bind λH42=>(Hp.st H42 H6.length (0+1) (.sl s41)).bind λH43=>(Hp.ldI H43 .i64 H6.length 0).bind λn44=>(Hp.ldSl H43 H6.length (0+1)).bind λs45=>some ((.tup [(.agg [(.int .i64 n44),(.sl s45)]),(.int .i64 0)]),H43)) else none)))))))))
def dc.tw:=dc.twX F (b_.tw F) (bs.tw F)
def dc.pn:Nat->List Nat:=cG [(5,[9])]
def dc.tb:Nat->List (List Nat):=cG [(5,[[],[0],[],[2],[],[4],[2,3,4,5],[2,3,4,5,6],[0,1,2,3,4,5,6,7],[0,1,2,3,4,5,6,7,8],[0,1,2,3,4,5,6,7,8,9]])]
def dc.cs (F:Nat) (cl:VH) (mO:VG):Cs:=[(96,mk3 cl),(124,mk0 mO)]
theorem dc.eqX (cl:VH) (mO:VG) (aa:Int) (aF:Sl) (aC:Int) (da:Sl) (H:Hp):EX (bw (dc.cs F cl mO)) dc.pn lh0 F Try.f55 [(.agg [(.int .i64 aa),(.sl aF)]),(.agg [(.int .i64 aC),(.sl da)])] H=dc.twX F cl mO aa aF aC da H:=by kernel_rfl
theorem dc.k:Ok Try.prog 55 (mk13 (dc.tw F)):=by
 intro args H v H' h
 unfold mk13 at h
 split at h
 ·exact okT (TB:=dc.tb) Try.func55 (bf (b_.k F) (bf (bs.k F) cw)) af.no ((dc.eqX F (b_.tw F) (bs.tw F) _ _ _ _ H).trans h) (by kernel_rfl)
 ·cases h
def cJ.twX (F:Nat) (cl:VH) (gn:VH) (aa:Int) (aF:Sl) (H:Hp):OA:=(Hp.new H [(.int .i64 aa),(.sl aF)]).bind λH3=>(Hp.new H3 [.int .i64 0,.sl ⟨none,0,.ex 0⟩]).bind λH4=>(Hp.ldI H4 .i64 H.length 0).bind λn5=>(Hp.ldSl H4 H.length (0+1)).bind λs6=>(cl n5 s6 H4).bind λr7=>((r7.1).asB).bind λb8=>(bif (!b8) then ((Hp.st r7.2 H3.length 0 (.int .i64 0)).bind λH9=>(Hp.st H9 H3.length (0+1) (.sl (⟨none,0,.ex 0⟩:Sl))).bind λH10=>(Hp.ldI H10 .i64 H3.length 0).bind λn11=>(Hp.ldSl H10 H3.length (0+1)).bind λs12=>some ((.tup [(.agg [(.int .i64 n11),(.sl s12)]),(.int .i64 1)]),H10)) else ((Hp.ldI r7.2 .i64 H.length 0).bind λn13=>(Hp.ldSl r7.2 H.length (0+1)).bind λs14=>(gn n13 s14 r7.2).bind λr15=>((r15.1).asAgg 2).bind λl16=>(l16[0]?).bind λv17=>((v17).asI .i64).bind λn18=>(l16[1]?).bind λv19=>((v19).asSl).bind λs20=>(Hp.st r15.2 H3.length 0 (.int .i64 n18)).bind λH21=>(Hp.st H21 H3.length (0+1) (.sl s20)).bind λH22=>(Hp.ldI H22 .i64 H3.length 0).bind λn23=>(Hp.ldSl H22 H3.length (0+1)).bind λs24=>some ((.tup [(.agg [(.int .i64 n23),(.sl s24)]),(.int .i64 0)]),H22)))
def cJ.tw:=cJ.twX F (b_.tw F) (bU.tw F)
def cJ.cs (F:Nat) (cl:VH) (gn:VH):Cs:=[(96,mk3 cl),(97,mk3 gn)]
theorem cJ.eqX (cl:VH) (gn:VH) (aa:Int) (aF:Sl) (H:Hp):EX (bw (cJ.cs F cl gn)) bk lh0 F Try.f35 [(.agg [(.int .i64 aa),(.sl aF)])] H=cJ.twX F cl gn aa aF H:=by kernel_rfl
theorem cJ.k:Ok Try.prog 35 (mk3 (cJ.tw F)):=by
 intro args H v H' h
 unfold mk3 at h
 split at h
 ·exact okT (TB:=bk) Try.func35 (bf (b_.k F) (bf (bU.k F) cw)) af.no ((cJ.eqX F (b_.tw F) (bU.tw F) _ _ H).trans h) (by kernel_rfl)
 ·cases h
def bQ.l29 (F:Nat) :Nat->Sl->Sl->Int->Hp->OA
 | 0,_,_,_,_=>none
 | bB+1,bz,ev,bV,H8=>(bif (decide (bV<(bz.n:Int))) then ((Sl.idx bz bV 1).bind λp13=>(Hp.ldI H8 .i64 p13.1 p13.2).bind λn14=>(Sl.idx ev bV 1).bind λp15=>(Hp.ldI H8 .i64 p15.1 p15.2).bind λn16=>(bif (n14 != n16) then (some ((.bool false),H8)) else (bQ.l29 F bB bz ev (wrap .i64 (bV+1)) H8))) else (some ((.bool true),H8)))
def bQ.twX (aa:Sl) (av:Sl) (H:Hp):OA:=(bif ((aa.n:Int) != (av.n:Int)) then (some ((.bool false),H)) else (bQ.l29 F F aa av 0 H))
def bQ.tw:=bQ.twX F
def bQ.lh29 (ks:VM) (n:Nat) (tm:Tm) (H:Hp):OA:=match ks,tm 0,tm 1,tm 5 with
 | [],(.sl bz),(.sl ev),(.int .i64 bV)=>bQ.l29 F n bz ev bV H
 | _,_,_,_=>none
def bQ.lh (p:Nat) (ks:VM) (n:Nat) (tm:Tm) (H:Hp):OA:=bif p.beq 29 then bQ.lh29 F ks n tm H else (none)
def bQ.tb:Nat->List (List Nat):=cG [(6,[[],[],[0,1],[0,1,2],[],[],[4,5],[4,5,6],[0,1,2,3,4,5,6,7]])]
theorem bQ.loops:LO (bw []) bk (bQ.lh F) F Try.f56:=
 (af.rt (af.rt (af.lt (af.rt (af.block (af.la (λn tm H r h=>by change bQ.lh29 F [] n tm H=_ at h;unfold bQ.lh29 at h;split at h;have e:cR tm [(0,_),(1,_),(5,_)]:=⟨‹_›,‹_›,‹_›,trivial⟩;obtain _ | k29:=n;cases h;exact ⟨_,rfl,by rw [<- cS e];exact Eq.trans (by kernel_rfl) h⟩;cases h) λk29=>af.no))))))
theorem bQ.k:Ok Try.prog 56 (mk11 (bQ.tw F)):=by
 intro args H v H' h
 unfold mk11 at h
 split at h
 ·exact okT (PN:=bk) (LH:=(bQ.lh F)) (F:=F) (TB:=bQ.tb) Try.func56 cw (bQ.loops F) (Eq.trans (by kernel_rfl) h) (by kernel_rfl)
 ·cases h
def bJ.l61 (F:Nat) (cl:VH) (aO:VF) (cB:VF) (ba:VK) (aV:VG) :Nat->Sl->Sl->Int->Int->Hp->OA
 | 0,_,_,_,_,_=>none
 | jB+1,iN,rU,iy,gK,H22=>(bif (decide (gK<iy)) then ((Sl.idx rU gK 1).bind λp30=>(Hp.ldI H22 .i64 p30.1 p30.2).bind λn31=>(cB n31 H22).bind λr32=>((r32.1).asI .i64).bind λn33=>(ba iN n33 r32.2).bind λr34=>bJ.l61 F cl aO cB ba aV jB iN rU iy (wrap .i64 (gK+1)) r34.2) else ((aV iN H22).bind λr35=>((r35.1).asSl).bind λs36=>some ((.sl s36),r35.2)))
def bJ.twX (cl:VH) (aO:VF) (cB:VF) (ba:VK) (aV:VG) (aa:Int) (aF:Sl) (H:Hp):OA:=(Hp.new H [(.int .i64 aa),(.sl aF)]).bind λH3=>(Hp.ldI H3 .i64 H.length 0).bind λn4=>(Hp.ldSl H3 H.length (0+1)).bind λs5=>(cl n4 s5 H3).bind λr6=>((r6.1).asB).bind λb7=>(bif (!b7) then (some ((.sl (⟨none,0,.ex 0⟩:Sl)),r6.2)) else ((Hp.ldI r6.2 .i64 H.length 0).bind λn8=>(aO n8 r6.2).bind λr9=>((r9.1).asSl).bind λs10=>(Hp.ldSl r9.2 H.length 1).bind λs11=>bJ.l61 F cl aO cB ba aV F s10 s11 (s11.n:Int) 0 r9.2))
def bJ.tw:=bJ.twX F (b_.tw F) (bc.tw F) (cE.tw F) (bP.tw F) (a_.tw F)
def bJ.lh61 (cl:VH) (aO:VF) (cB:VF) (ba:VK) (aV:VG) (ks:VM) (n:Nat) (tm:Tm) (H:Hp):OA:=match ks,tm 3,tm 13,tm 14,tm 15 with
 | [],(.sl iN),(.sl rU),(.int .i64 iy),(.int .i64 gK)=>bJ.l61 F cl aO cB ba aV n iN rU iy gK H
 | _,_,_,_,_=>none
def bJ.lh (cl:VH) (aO:VF) (cB:VF) (ba:VK) (aV:VG) (p:Nat) (ks:VM) (n:Nat) (tm:Tm) (H:Hp):OA:=bif p.beq 61 then bJ.lh61 F cl aO cB ba aV ks n tm H else (none)
def bJ.cs (F:Nat) (cl:VH) (aO:VF) (cB:VF) (ba:VK) (aV:VG):Cs:=[(96,mk3 cl),(125,mk4 aO),(87,mk4 cB),(117,mk10 ba),(126,mk0 aV)]
theorem bJ.loops (cl:VH) (aO:VF) (cB:VF) (ba:VK) (aV:VG):LO (bw (bJ.cs F cl aO cB ba aV)) bk (bJ.lh F cl aO cB ba aV) F Try.f57:=
 (af.rt (af.rt (af.rt (af.lt (af.rt (af.block (af.la (λn tm H r h=>by change bJ.lh61 F cl aO cB ba aV [] n tm H=_ at h;unfold bJ.lh61 at h;split at h;have e:cR tm [(3,_),(13,_),(14,_),(15,_)]:=⟨‹_›,‹_›,‹_›,‹_›,trivial⟩;obtain _ | k61:=n;cases h;exact ⟨_,rfl,by rw [<- cS e];exact Eq.trans (by kernel_rfl) h⟩;cases h) λk61=>af.no)))))))
theorem bJ.eqX (cl:VH) (aO:VF) (cB:VF) (ba:VK) (aV:VG) (aa:Int) (aF:Sl) (H:Hp):EX (bw (bJ.cs F cl aO cB ba aV)) bk (bJ.lh F cl aO cB ba aV) F Try.f57 [(.agg [(.int .i64 aa),(.sl aF)])] H=bJ.twX F cl aO cB ba aV aa aF H:=by kernel_rfl
theorem bJ.k:Ok Try.prog 57 (mk3 (bJ.tw F)):=by
 intro args H v H' h
 unfold mk3 at h
 split at h
 ·exact okT (TB:=bk) Try.func57 (bf (b_.k F) (bf (bc.k F) (bf (cE.k F) (bf (bP.k F) (bf (a_.k F) cw))))) (bJ.loops F (b_.tw F) (bc.tw F) (cE.tw F) (bP.tw F) (a_.tw F)) ((bJ.eqX F (b_.tw F) (bc.tw F) (cE.tw F) (bP.tw F) (a_.tw F) _ _ H).trans h) (by kernel_rfl)
 ·cases h
def aX.j1 (F:Nat) (eH:VG) (eJ:VG) (el:VQ) (ec:VQ) (eK:VH) (dq:VH) (ez:VQ) (dC:VH) (eA:VI) (eB:VH) (nE:Nat) (Ah:Nat) (gN:Nat) (iP:Nat) (H228:Hp):OA:=(Hp.ldI H228 .i64 nE Ah).bind λn229=>(Hp.ldSl H228 nE (Ah+1)).bind λs230=>(eB n229 s230 H228).bind λr231=>((r231.1).asSl).bind λs232=>(Hp.ldI r231.2 .i64 gN iP).bind λn233=>(Hp.ldSl r231.2 gN (iP+1)).bind λs234=>(eB n233 s234 r231.2).bind λr235=>((r235.1).asSl).bind λs236=>(eA s232 s236 r235.2).bind λr237=>((r237.1).asB).bind λb238=>(ifW (((((Hp.ldI r237.2 .i64 gN iP).bind λn239=>(Hp.ldSl r237.2 gN (iP+1)).bind λs240=>dx (.agg [(.int .i64 n233),(.sl s234)]) r237.2 (.agg [(.int .i64 n239),(.sl s240)]) r237.2)=some ())/\(((Hp.ldI r235.2 .i64 gN iP).bind λn241=>(Hp.ldSl r235.2 gN (iP+1)).bind λs242=>dx (.agg [(.int .i64 n233),(.sl s234)]) r235.2 (.agg [(.int .i64 n241),(.sl s242)]) r235.2)=some ())/\(((Hp.ldI r231.2 .i64 gN iP).bind λn243=>(Hp.ldSl r231.2 gN (iP+1)).bind λs244=>dx (.agg [(.int .i64 n233),(.sl s234)]) r231.2 (.agg [(.int .i64 n243),(.sl s244)]) r231.2)=some ())/\(((Hp.ldI H228 .i64 gN iP).bind λn245=>(Hp.ldSl H228 gN (iP+1)).bind λs246=>dx (.agg [(.int .i64 n233),(.sl s234)]) H228 (.agg [(.int .i64 n245),(.sl s246)]) H228)=some ())/\True)/\True) (some ((.bool b238),r237.2)))
def aX.l131069 (F:Nat) (eH:VG) (eJ:VG) (el:VQ) (ec:VQ) (eK:VH) (dq:VH) (ez:VQ) (dC:VH) (eA:VI) (eB:VH) :Nat->Nat->Nat->Nat->Nat->Nat->Nat->Nat->Nat->Int->Hp->OA
 | 0,_,_,_,_,_,_,_,_,_,_=>none
 | MT+1,jK,rV,jL,rW,ji,nF,jN,rX,fX,H187=>(Hp.ldSl H187 ji (nF+1)).bind λs247=>(bif (decide (fX<(s247.n:Int))) then ((Hp.ldSl H187 ji (nF+1)).bind λs248=>(Sl.idx s248 fX 1).bind λp249=>(Hp.ldSl H187 p249.1 p249.2).bind λs250=>(Hp.ldSl H187 jN (rX+1)).bind λs251=>(Sl.idx s251 fX 1).bind λp252=>(Hp.ldSl H187 p252.1 p252.2).bind λs253=>(eA s250 s253 H187).bind λr254=>((r254.1).asB).bind λb255=>(bif (!b255) then (some ((.bool false),r254.2)) else (aX.l131069 F eH eJ el ec eK dq ez dC eA eB MT jK rV jL rW ji nF jN rX (wrap .i64 (fX+1)) r254.2))) else (aX.j1 F eH eJ el ec eK dq ez dC eA eB jK rV jL rW H187))
termination_by structural n=>n
def aX.twX (eH:VG) (eJ:VG) (el:VQ) (ec:VQ) (eK:VH) (dq:VH) (ez:VQ) (dC:VH) (eA:VI) (eB:VH) (aa:Sl) (H:Hp):OA:=(eH aa H).bind λr2=>((r2.1).asB).bind λb3=>(bif b3 then (some ((.bool true),r2.2)) else ((eJ aa r2.2).bind λr4=>((r4.1).asTup 2).bind λl5=>(l5[0]?).bind λv6=>((v6).asAgg 2).bind λl7=>(l7[0]?).bind λv8=>((v8).asI .i64).bind λn9=>(l7[1]?).bind λv10=>((v10).asSl).bind λs11=>(l5[1]?).bind λv12=>((v12).asAgg 2).bind λl13=>(l13[0]?).bind λv14=>((v14).asI .i64).bind λn15=>(l13[1]?).bind λv16=>((v16).asSl).bind λs17=>(Hp.new r4.2 [.int .i64 0,.sl ⟨none,0,.ex 0⟩]).bind λH18=>(Hp.new H18 [.int .i64 0,.sl ⟨none,0,.ex 0⟩]).bind λH19=>(Hp.st H19 r4.2.length 0 (.int .i64 n9)).bind λH20=>(Hp.st H20 r4.2.length (0+1) (.sl s11)).bind λH21=>(Hp.st H21 H18.length 0 (.int .i64 n15)).bind λH22=>(Hp.st H22 H18.length (0+1) (.sl s17)).bind λH23=>(Hp.ldI H23 .i64 r4.2.length 0).bind λn24=>(Hp.ldSl H23 r4.2.length (0+1)).bind λs25=>(Hp.ldI H23 .i64 H18.length 0).bind λn26=>(Hp.ldSl H23 H18.length (0+1)).bind λs27=>(el n24 s25 n26 s27 H23).bind λr28=>((r28.1).asB).bind λb29=>(Hp.ldI r28.2 .i64 r4.2.length 0).bind λn30=>(Hp.ldSl r28.2 r4.2.length (0+1)).bind λs31=>(Hp.ldI r28.2 .i64 H18.length 0).bind λn32=>(Hp.ldSl r28.2 H18.length (0+1)).bind λs33=>(ec n30 s31 n32 s33 r28.2).bind λr34=>((r34.1).asB).bind λb35=>(ifW (((((Hp.ldI r34.2 .i64 H18.length 0).bind λn36=>(Hp.ldSl r34.2 H18.length (0+1)).bind λs37=>dx (.agg [(.int .i64 n32),(.sl s33)]) r34.2 (.agg [(.int .i64 n36),(.sl s37)]) r34.2)=some ())/\(((Hp.ldI r28.2 .i64 H18.length 0).bind λn38=>(Hp.ldSl r28.2 H18.length (0+1)).bind λs39=>dx (.agg [(.int .i64 n32),(.sl s33)]) r28.2 (.agg [(.int .i64 n38),(.sl s39)]) r28.2)=some ())/\(((Hp.ldI H23 .i64 H18.length 0).bind λn40=>(Hp.ldSl H23 H18.length (0+1)).bind λs41=>dx (.agg [(.int .i64 n32),(.sl s33)]) H23 (.agg [(.int .i64 n40),(.sl s41)]) H23)=some ())/\True)/\((((Hp.ldI r34.2 .i64 r4.2.length 0).bind λn42=>(Hp.ldSl r34.2 r4.2.length (0+1)).bind λs43=>dx (.agg [(.int .i64 n30),(.sl s31)]) r34.2 (.agg [(.int .i64 n42),(.sl s43)]) r34.2)=some ())/\(((Hp.ldI r28.2 .i64 r4.2.length 0).bind λn44=>(Hp.ldSl r28.2 r4.2.length (0+1)).bind λs45=>dx (.agg [(.int .i64 n30),(.sl s31)]) r28.2 (.agg [(.int .i64 n44),(.sl s45)]) r28.2)=some ())/\(((Hp.ldI H23 .i64 r4.2.length 0).bind λn46=>(Hp.ldSl H23 r4.2.length (0+1)).bind λs47=>dx (.agg [(.int .i64 n30),(.sl s31)]) H23 (.agg [(.int .i64 n46),(.sl s47)]) H23)=some ())/\True)/\True) ((bif (!(b29==b35)) then (some ((.bool false),r34.2)) else ((Hp.ldI r34.2 .i64 r4.2.length 0).bind λn48=>(Hp.ldSl r34.2 r4.2.length (0+1)).bind λs49=>(eK n48 s49 r34.2).bind λr50=>((r50.1).asTup 2).bind λl51=>(l51[0]?).bind λv52=>((v52).asAgg 2).bind λl53=>(l53[0]?).bind λv54=>((v54).asI .i64).bind λn55=>(l53[1]?).bind λv56=>((v56).asSl).bind λs57=>(l51[1]?).bind λv58=>((v58).asI .i64).bind λn59=>(Hp.new r50.2 [.int .i64 0,.sl ⟨none,0,.ex 0⟩]).bind λH60=>(Hp.st H60 r50.2.length 0 (.int .i64 n55)).bind λH61=>(Hp.st H61 r50.2.length (0+1) (.sl s57)).bind λH62=>(bif (n59 != 0) then ((Hp.ldI H62 .i64 r4.2.length 0).bind λn63=>(Hp.ldSl H62 r4.2.length (0+1)).bind λs64=>(dq n63 s64 H62).bind λr65=>((r65.1).asB).bind λb66=>some ((.bool (!b66)),r65.2)) else ((Hp.ldI H62 .i64 r4.2.length 0).bind λn67=>(Hp.ldSl H62 r4.2.length (0+1)).bind λs68=>(Hp.ldI H62 .i64 r50.2.length 0).bind λn69=>(Hp.ldSl H62 r50.2.length (0+1)).bind λs70=>(ez n67 s68 n69 s70 H62).bind λr71=>((r71.1).asTup 2).bind λl72=>(l72[0]?).bind λv73=>((v73).asAgg 2).bind λl74=>(l74[0]?).bind λv75=>((v75).asI .i64).bind λn76=>(l74[1]?).bind λv77=>((v77).asSl).bind λs78=>(l72[1]?).bind λv79=>((v79).asI .i64).bind λn80=>(Hp.new r71.2 [.int .i64 0,.sl ⟨none,0,.ex 0⟩]).bind λH81=>(Hp.st H81 r71.2.length 0 (.int .i64 n76)).bind λH82=>(Hp.st H82 r71.2.length (0+1) (.sl s78)).bind λH83=>(Hp.ldI H83 .i64 r50.2.length 0).bind λn84=>(Hp.ldSl H83 r50.2.length (0+1)).bind λs85=>(Hp.ldI H83 .i64 r4.2.length 0).bind λn86=>(Hp.ldSl H83 r4.2.length (0+1)).bind λs87=>(ez n84 s85 n86 s87 H83).bind λr88=>((r88.1).asTup 2).bind λl89=>(l89[0]?).bind λv90=>((v90).asAgg 2).bind λl91=>(l91[0]?).bind λv92=>((v92).asI .i64).bind λn93=>(l91[1]?).bind λv94=>((v94).asSl).bind λs95=>(l89[1]?).bind λv96=>((v96).asI .i64).bind λn97=>(Hp.new r88.2 [.int .i64 0,.sl ⟨none,0,.ex 0⟩]).bind λH98=>(Hp.st H98 r88.2.length 0 (.int .i64 n93)).bind λH99=>(Hp.st H99 r88.2.length (0+1) (.sl s95)).bind λH100=>(Hp.ldI H100 .i64 r4.2.length 0).bind λn101=>(Hp.new H100 [.int .i64 0,.sl ⟨none,0,.ex 0⟩]).bind λH102=>(Hp.st H102 H100.length 0 (.int .i64 n101)).bind λH103=>(Hp.st H103 H100.length (0+1) (.sl (⟨none,0,.ex 0⟩:Sl))).bind λH104=>(bif (n80==0) then ((bif (n97==0) then ((Hp.ldI H104 .i64 r71.2.length 0).bind λn105=>(Hp.ldSl H104 r71.2.length (0+1)).bind λs106=>(Hp.ldI H104 .i64 H100.length 0).bind λn107=>(Hp.ldSl H104 H100.length (0+1)).bind λs108=>(el n105 s106 n107 s108 H104).bind λr109=>((r109.1).asB).bind λb110=>(bif (!b110) then (some ((.bool false),r109.2)) else ((Hp.ldI r109.2 .i64 r88.2.length 0).bind λn111=>(Hp.ldSl r109.2 r88.2.length (0+1)).bind λs112=>(Hp.ldI r109.2 .i64 H100.length 0).bind λn113=>(Hp.ldSl r109.2 H100.length (0+1)).bind λs114=>(el n111 s112 n113 s114 r109.2).bind λr115=>((r115.1).asB).bind λb116=>(bif (!b116) then (some ((.bool false),r115.2)) else ((Hp.ldI r115.2 .i64 r4.2.length 0).bind λn117=>(Hp.ldSl r115.2 r4.2.length (0+1)).bind λs118=>(Hp.ldI r115.2 .i64 H18.length 0).bind λn119=>(Hp.ldSl r115.2 H18.length (0+1)).bind λs120=>(ec n117 s118 n119 s120 r115.2).bind λr121=>((r121.1).asB).bind λb122=>(bif (!b122) then (some ((.bool true),r121.2)) else ((Hp.ldI r121.2 .i64 r4.2.length 0).bind λn123=>(Hp.ldSl r121.2 r4.2.length (0+1)).bind λs124=>(dC n123 s124 r121.2).bind λr125=>((r125.1).asTup 2).bind λl126=>(l126[0]?).bind λv127=>((v127).asAgg 2).bind λl128=>(l128[0]?).bind λv129=>((v129).asI .i64).bind λn130=>(l128[1]?).bind λv131=>((v131).asSl).bind λs132=>(l126[1]?).bind λv133=>((v133).asI .i64).bind λn134=>(Hp.new r125.2 [.int .i64 0,.sl ⟨none,0,.ex 0⟩]).bind λH135=>(Hp.st H135 r125.2.length 0 (.int .i64 n130)).bind λH136=>(Hp.st H136 r125.2.length (0+1) (.sl s132)).bind λH137=>(Hp.ldI H137 .i64 H18.length 0).bind λn138=>(Hp.ldSl H137 H18.length (0+1)).bind λs139=>(dC n138 s139 H137).bind λr140=>((r140.1).asTup 2).bind λl141=>(l141[0]?).bind λv142=>((v142).asAgg 2).bind λl143=>(l143[0]?).bind λv144=>((v144).asI .i64).bind λn145=>(l143[1]?).bind λv146=>((v146).asSl).bind λs147=>(l141[1]?).bind λv148=>((v148).asI .i64).bind λn149=>(Hp.new r140.2 [.int .i64 0,.sl ⟨none,0,.ex 0⟩]).bind λH150=>(Hp.st H150 r140.2.length 0 (.int .i64 n145)).bind λH151=>(Hp.st H151 r140.2.length (0+1) (.sl s147)).bind λH152=>(bif (n134 != 0) then (some ((.bool false),H152)) else ((bif (n149 != 0) then (some ((.bool false),H152)) else ((Hp.ldI H152 .i64 r125.2.length 0).bind λn153=>(Hp.ldI H152 .i64 r140.2.length 0).bind λn154=>(bif (n153 != n154) then (some ((.bool false),H152)) else ((Hp.ldSl H152 r125.2.length 1).bind λs155=>(Hp.ldSl H152 r140.2.length 1).bind λs156=>(bif ((s155.n:Int) != (s156.n:Int)) then (some ((.bool false),H152)) else (aX.l131069 F eH eJ el ec eK dq ez dC eA eB F r4.2.length 0 H18.length 0 r125.2.length 0 r140.2.length 0 0 H152))))))))))))))) else ((Hp.ldI H104 .i64 r4.2.length 0).bind λn256=>(Hp.ldSl H104 r4.2.length (0+1)).bind λs257=>(Hp.ldI H104 .i64 H18.length 0).bind λn258=>(Hp.ldSl H104 H18.length (0+1)).bind λs259=>(ec n256 s257 n258 s259 H104).bind λr260=>((r260.1).asB).bind λb261=>(bif (!b261) then (some ((.bool true),r260.2)) else ((Hp.ldI r260.2 .i64 r4.2.length 0).bind λn262=>(Hp.ldSl r260.2 r4.2.length (0+1)).bind λs263=>(dC n262 s263 r260.2).bind λr264=>((r264.1).asTup 2).bind λl265=>(l265[0]?).bind λv266=>((v266).asAgg 2).bind λl267=>(l267[0]?).bind λv268=>((v268).asI .i64).bind λn269=>(l267[1]?).bind λv270=>((v270).asSl).bind λs271=>(l265[1]?).bind λv272=>((v272).asI .i64).bind λn273=>(Hp.new r264.2 [.int .i64 0,.sl ⟨none,0,.ex 0⟩]).bind λH274=>(Hp.st H274 r264.2.length 0 (.int .i64 n269)).bind λH275=>(Hp.st H275 r264.2.length (0+1) (.sl s271)).bind λH276=>(Hp.ldI H276 .i64 H18.length 0).bind λn277=>(Hp.ldSl H276 H18.length (0+1)).bind λs278=>(dC n277 s278 H276).bind λr279=>((r279.1).asTup 2).bind λl280=>(l280[0]?).bind λv281=>((v281).asAgg 2).bind λl282=>(l282[0]?).bind λv283=>((v283).asI .i64).bind λn284=>(l282[1]?).bind λv285=>((v285).asSl).bind λs286=>(l280[1]?).bind λv287=>((v287).asI .i64).bind λn288=>(Hp.new r279.2 [.int .i64 0,.sl ⟨none,0,.ex 0⟩]).bind λH289=>(Hp.st H289 r279.2.length 0 (.int .i64 n284)).bind λH290=>(Hp.st H290 r279.2.length (0+1) (.sl s286)).bind λH291=>(bif (n273 != 0) then (some ((.bool false),H291)) else ((bif (n288 != 0) then (some ((.bool false),H291)) else ((Hp.ldI H291 .i64 r264.2.length 0).bind λn292=>(Hp.ldI H291 .i64 r279.2.length 0).bind λn293=>(bif (n292 != n293) then (some ((.bool false),H291)) else ((Hp.ldSl H291 r264.2.length 1).bind λs294=>(Hp.ldSl H291 r279.2.length 1).bind λs295=>(bif ((s294.n:Int) != (s295.n:Int)) then (some ((.bool false),H291)) else (aX.l131069 F eH eJ el ec eK dq ez dC eA eB F r4.2.length 0 H18.length 0 r264.2.length 0 r279.2.length 0 0 H291))))))))))))) else ((Hp.ldI H104 .i64 r4.2.length 0).bind λn296=>(Hp.ldSl H104 r4.2.length (0+1)).bind λs297=>(Hp.ldI H104 .i64 H18.length 0).bind λn298=>(Hp.ldSl H104 H18.length (0+1)).bind λs299=>(ec n296 s297 n298 s299 H104).bind λr300=>((r300.1).asB).bind λb301=>(bif (!b301) then (some ((.bool true),r300.2)) else ((Hp.ldI r300.2 .i64 r4.2.length 0).bind λn302=>(Hp.ldSl r300.2 r4.2.length (0+1)).bind λs303=>(dC n302 s303 r300.2).bind λr304=>((r304.1).asTup 2).bind λl305=>(l305[0]?).bind λv306=>((v306).asAgg 2).bind λl307=>(l307[0]?).bind λv308=>((v308).asI .i64).bind λn309=>(l307[1]?).bind λv310=>((v310).asSl).bind λs311=>(l305[1]?).bind λv312=>((v312).asI .i64).bind λn313=>(Hp.new r304.2 [.int .i64 0,.sl ⟨none,0,.ex 0⟩]).bind λH314=>(Hp.st H314 r304.2.length 0 (.int .i64 n309)).bind λH315=>(Hp.st H315 r304.2.length (0+1) (.sl s311)).bind λH316=>(Hp.ldI H316 .i64 H18.length 0).bind λn317=>(Hp.ldSl H316 H18.length (0+1)).bind λs318=>(dC n317 s318 H316).bind λr319=>((r319.1).asTup 2).bind λl320=>(l320[0]?).bind λv321=>((v321).asAgg 2).bind λl322=>(l322[0]?).bind λv323=>((v323).asI .i64).bind λn324=>(l322[1]?).bind λv325=>((v325).asSl).bind λs326=>(l320[1]?).bind λv327=>((v327).asI .i64).bind λn328=>(Hp.new r319.2 [.int .i64 0,.sl ⟨none,0,.ex 0⟩]).bind λH329=>(Hp.st H329 r319.2.length 0 (.int .i64 n324)).bind λH330=>(Hp.st H330 r319.2.length (0+1) (.sl s326)).bind λH331=>(bif (n313 != 0) then (some ((.bool false),H331)) else ((bif (n328 != 0) then (some ((.bool false),H331)) else ((Hp.ldI H331 .i64 r304.2.length 0).bind λn332=>(Hp.ldI H331 .i64 r319.2.length 0).bind λn333=>(bif (n332 != n333) then (some ((.bool false),H331)) else ((Hp.ldSl H331 r304.2.length 1).bind λs334=>(Hp.ldSl H331 r319.2.length 1).bind λs335=>(bif ((s334.n:Int) != (s335.n:Int)) then (some ((.bool false),H331)) else (aX.l131069 F eH eJ el ec eK dq ez dC eA eB F r4.2.length 0 H18.length 0 r304.2.length 0 r319.2.length 0 0 H331))))))))))))))))))))
def aX.tw:=aX.twX F (eE.tw F) (di.tw F) (cF.tw F) (cQ.tw F) (de.tw F) (bo.tw F) (dc.tw F) (cJ.tw F) (bQ.tw F) (bJ.tw F)
def aX.lh131069 (eH:VG) (eJ:VG) (el:VQ) (ec:VQ) (eK:VH) (dq:VH) (ez:VQ) (dC:VH) (eA:VI) (eB:VH) (ks:VM) (n:Nat) (tm:Tm) (H:Hp):OA:=match ks,tm 3,tm 4,tm 12,tm 14,tm 16 with
 | [],(.ptr jK rV),(.ptr jL rW),(.ptr ji nF),(.ptr jN rX),(.int .i64 fX)=>aX.l131069 F eH eJ el ec eK dq ez dC eA eB n jK rV jL rW ji nF jN rX fX H
 | _,_,_,_,_,_=>none
def aX.lh (eH:VG) (eJ:VG) (el:VQ) (ec:VQ) (eK:VH) (dq:VH) (ez:VQ) (dC:VH) (eA:VI) (eB:VH) (p:Nat) (ks:VM) (n:Nat) (tm:Tm) (H:Hp):OA:=bif p.beq 131069 then aX.lh131069 F eH eJ el ec eK dq ez dC eA eB ks n tm H else (none)
def aX.pn:Nat->List Nat:=cG [(4,[2,5,1003,1004]),(23,[10]),(25,[1,3,4,1002])]
def aX.tb:Nat->List (List Nat):=cG [(4,[[],[],[0,1],[],[],[0,1,2,3,4],[0,1,2,3,4,5]]),(23,[[],[0],[],[0,1,2],[0,1,2,3],[],[5],[],[5,6,7],[5,6,7,8],[0,1,2,3,4,5,6,7,8,9],[0,1,2,3,4,5,6,7,8,9,10]]),(25,[[],[0],[],[0,1,2],[0,1,2,3],[0,1,2,3,4]])]
def aX.cs (F:Nat) (eH:VG) (eJ:VG) (el:VQ) (ec:VQ) (eK:VH) (dq:VH) (ez:VQ) (dC:VH) (eA:VI) (eB:VH):Cs:=[(43,mk0 eH),(53,mk0 eJ),(42,mk13 el),(41,mk13 ec),(54,mk3 eK),(49,mk3 dq),(55,mk13 ez),(35,mk3 dC),(56,mk11 eA),(57,mk3 eB)]
theorem aX.loops (eH:VG) (eJ:VG) (el:VQ) (ec:VQ) (eK:VH) (dq:VH) (ez:VQ) (dC:VH) (eA:VI) (eB:VH):LO (bw (aX.cs F eH eJ el ec eK dq ez dC eA eB)) aX.pn (aX.lh F eH eJ el ec eK dq ez dC eA eB) F Try.f10:=
 (af.rt (af.rt (af.rt (af.rt (af.rt (af.rt (af.rt (af.rt (af.rt (af.rt (af.rt (af.rt (af.rt (af.rt (af.lt (af.rt (af.block (af.la (λn tm H r h=>by change aX.lh131069 F eH eJ el ec eK dq ez dC eA eB [] n tm H=_ at h;unfold aX.lh131069 at h;split at h;have e:cR tm [(3,_),(4,_),(12,_),(14,_),(16,_)]:=⟨‹_›,‹_›,‹_›,‹_›,‹_›,trivial⟩;obtain _ | k131069:=n;cases h;exact ⟨_,rfl,by rw [<- cS e];exact Eq.trans (by kernel_rfl) h⟩;cases h) λk131069=>af.no))))))))))))))))))
theorem aX.eqX (eH:VG) (eJ:VG) (el:VQ) (ec:VQ) (eK:VH) (dq:VH) (ez:VQ) (dC:VH) (eA:VI) (eB:VH) (aa:Sl) (H:Hp):EX (bw (aX.cs F eH eJ el ec eK dq ez dC eA eB)) aX.pn (aX.lh F eH eJ el ec eK dq ez dC eA eB) F Try.f10 [(.sl aa)] H=aX.twX F eH eJ el ec eK dq ez dC eA eB aa H:=by kernel_rfl
theorem aX.k:Ok Try.prog 10 (mk0 (aX.tw F)):=by
 intro args H v H' h
 unfold mk0 at h
 split at h
 ·exact okT (TB:=aX.tb) Try.func10 (bf (eE.k F) (bf (di.k F) (bf (cF.k F) (bf (cQ.k F) (bf (de.k F) (bf (bo.k F) (bf (dc.k F) (bf (cJ.k F) (bf (bQ.k F) (bf (bJ.k F) cw)))))))))) (aX.loops F (eE.tw F) (di.tw F) (cF.tw F) (cQ.tw F) (de.tw F) (bo.tw F) (dc.tw F) (cJ.tw F) (bQ.tw F) (bJ.tw F)) ((aX.eqX F (eE.tw F) (di.tw F) (cF.tw F) (cQ.tw F) (de.tw F) (bo.tw F) (dc.tw F) (cJ.tw F) (bQ.tw F) (bJ.tw F) _ H).trans h) (by kernel_rfl)
 ·cases h
theorem aX.T {F:Nat} {aa:Sl} {H:Hp} {v:AV} {H':Hp} (h:aX.tw F aa H=some (v,H')):Go.AE.T Try.prog 10 [(.sl aa)] H v H':=aX.k F _ _ _ _ ((mk0_E (aX.tw F) aa H).trans h)
end
end Go.Proofs.Ytodfdhnlhiaohaa.AE
