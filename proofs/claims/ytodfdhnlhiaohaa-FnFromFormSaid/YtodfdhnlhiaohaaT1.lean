import Derived.Test.YtodfdhnlhiaohaaTab1
set_option linter.unusedVariables false
set_option linter.unusedSimpArgs false
namespace Go.Proofs.Ytodfdhnlhiaohaa.AE
open Go Go.AE Go.Proofs IntKind
variable (F:Nat)
set_option linter.unusedVariables false
set_option maxHeartbeats 4000000
set_option maxRecDepth 100000
noncomputable section
def cp.twX (F:Nat) (aa:Sl) (H:Hp):OA:=some ((.bool (decide ((aa.n:Int)>4096))),H)
def cp.tw:=cp.twX F
def mk0 (g:Bu) (args:BG) (H:Hp):OA:=match args with
 | [(.sl aa)]=>g aa H
 | _=>none
theorem mk0_E (g:Bu) (aa:Sl) (H:Hp):mk0 g [(.sl aa)] H=g aa H:=rfl
theorem cp.k:Ok Try.prog 43 (mk0 (cp.tw F)):=by
 intro args H v H' h
 unfold mk0 at h
 split at h
 ·exact ok0 Try.func43 (Eq.trans (by kernel_rfl) h) (by kernel_rfl) (by kernel_rfl)
 ·cases h
def ba.l29 (F:Nat) :Nat->Sl->Nat->Nat->Int->Hp->OA
 | 0,_,_,_,_,_=>none
 | da+1,dc,bm,dq,ck,H7=>(bif (decide (ck<(dc.n:Int))) then ((bif (decide (ck<64)) then ((Hp.ldI H7 .i64 bm (dq+2)).bind λn12=>(Sl.idx dc ck 1).bind λp13=>(Hp.ldI H7 .u8 p13.1 p13.2).bind λn14=>(Hp.st H7 bm (dq+2) (.int .i64 (Int.tmod (wrap .i64 ((wrap .i64 (n12 * 37))+(wrap .i64 n14))) 2147483647))).bind λH15=>ba.l29 F da dc bm dq (wrap .i64 (ck+1)) H15) else (some ((.ptr bm dq),H7)))) else (some ((.ptr bm dq),H7)))
termination_by structural n=>n
def ba.twX (aa:Sl) (H:Hp):OA:=(Hp.new H [(.sl aa),(.int .i64 0),(.int .i64 97531)]).bind λH2=>ba.l29 F F aa H.length 0 0 H2
def ba.tw:=ba.twX F
def ba.lh29 (ks:BA) (n:Nat) (tm:Tm) (H:Hp):OA:=match ks,tm 0,tm 2,tm 3,tm 4 with
 | [],(.sl dc),.nilp,(.ptr bm dq),(.int .i64 ck)=>ba.l29 F n dc bm dq ck H
 | _,_,_,_,_=>none
def ba.lh (p:Nat) (ks:BA) (n:Nat) (tm:Tm) (H:Hp):OA:=bif p.beq 29 then ba.lh29 F ks n tm H else (none)
def ba.pn:Nat->List Nat:=cR [(5,[15])]
def ba.tb:Nat->List (List Nat):=cR [(5,[[],[],[1],[1,2],[1,2,3],[1,2,3,4],[],[],[6,7],[6,7,8],[6,7,8,9],[1,2,3,4,5,6,7,8,9,10],[1,2,3,4,5,6,7,8,9,10,11],[0,1,2,3,4,5,6,7,8,9,10,11,12],[0,1,2,3,4,5,6,7,8,9,10,11,12,13],[0,1,2,3,4,5,6,7,8,9,10,11,12,13,14]])]
theorem ba.loops:LO (bi []) ba.pn (ba.lh F) F Try.f102:=
 (ac.rt (ac.rt (ac.lt (ac.rt (ac.block (ac.la (λn tm H r h=>by change ba.lh29 F [] n tm H=_ at h;unfold ba.lh29 at h;split at h;have e:cq tm [(0,_),(2,_),(3,_),(4,_)]:=⟨‹_›,‹_›,‹_›,‹_›,trivial⟩;obtain _ | k29:=n;cases h;exact ⟨_,rfl,by rw [<- cC e];exact Eq.trans (by kernel_rfl) h⟩;cases h) λk29=>ac.no))))))
theorem ba.k:Ok Try.prog 102 (mk0 (ba.tw F)):=by
 intro args H v H' h
 unfold mk0 at h
 split at h
 ·exact okT (PN:=ba.pn) (LH:=(ba.lh F)) (F:=F) (TB:=ba.tb) Try.func102 bT (ba.loops F) (Eq.trans (by kernel_rfl) h) (by kernel_rfl)
 ·cases h
def av.j1 (F:Nat) (gQ:Int) (jq:Int) (H37:Hp):OA:=(if gQ=0 then none else (some ((.int .i64 (Int.tmod jq gQ)),H37)))
def av.j2 (jr:Int) (js:Int) (H28:Hp):OA:=av.j1 F jr js H28
def av.j3 (F:Nat) (gR:Int) (jt:Int) (H45:Hp):OA:=(if gR=0 then none else (some ((.int .i64 (Int.tmod jt gR)),H45)))
def av.twX (aa:Nat) (ap:Nat) (ak:Int) (H:Hp):OA:=(bif (decide (ak<=1)) then (some ((.int .i64 0),H)) else ((Hp.ldI H .i64 aa (ap+2)).bind λn4=>(Hp.st H aa (ap+2) (.int .i64 (Int.tmod (wrap .i64 ((wrap .i64 (n4 * 48271))+11)) 2147483647))).bind λH5=>(Hp.ldI H5 .i64 aa (ap+2)).bind λn6=>(Hp.ldI H5 .i64 aa (ap+1)).bind λn7=>(Hp.ldSl H5 aa ap).bind λs8=>(bif (decide (n7<(s8.n:Int))) then ((Hp.ldSl H5 aa ap).bind λs9=>(Hp.ldI H5 .i64 aa (ap+1)).bind λn10=>(Sl.idx s9 n10 1).bind λp11=>(Hp.ldI H5 .u8 p11.1 p11.2).bind λn12=>(Hp.ldI H5 .i64 aa (ap+1)).bind λn13=>(Hp.st H5 aa (ap+1) (.int .i64 (wrap .i64 (n13+1)))).bind λH14=>(bif (decide (ak<=256)) then ((Hp.ldI H14 .i64 aa (ap+1)).bind λn15=>(bif ((Int.tmod n15 2)==0) then ((Hp.ldSl H14 aa ap).bind λs16=>(Hp.ldI H14 .i64 aa (ap+1)).bind λn17=>(Sl.idx s16 (wrap .i64 (n17 - 1)) 1).bind λp18=>(Hp.ldI H14 .u8 p18.1 p18.2).bind λn19=>av.j2 F ak (wrap .i64 n19) H14) else (av.j2 F ak (wrap .i64 ((wrap .i64 (Int.tdiv n6 11))+(wrap .i64 n12))) H14))) else (av.j1 F ak (wrap .i64 ((wrap .i64 (Int.tdiv n6 11))+(wrap .i64 n12))) H14))) else (av.j3 F ak (wrap .i64 (Int.tdiv n6 11)) H5))))
def av.tw:=av.twX F
def av.tb:Nat->List (List Nat):=cR [(5,[[],[0],[0,1],[0,1,2],[],[4],[4,5],[4,5,6],[4,5,6,7],[0,1,2,3,4,5,6,7,8]]),(6,[[],[],[1],[1,2],[1,2,3],[],[5],[5,6],[5,6,7],[1,2,3,4,5,6,7,8],[1,2,3,4,5,6,7,8,9],[1,2,3,4,5,6,7,8,9,10],[0,1,2,3,4,5,6,7,8,9,10,11],[0,1,2,3,4,5,6,7,8,9,10,11,12]]),(9,[[],[0],[0,1],[0,1,2],[],[4],[4,5],[4,5,6],[4,5,6,7],[0,1,2,3,4,5,6,7,8],[0,1,2,3,4,5,6,7,8,9],[0,1,2,3,4,5,6,7,8,9,10],[0,1,2,3,4,5,6,7,8,9,10,11]])]
def mk1 (g:BE) (args:BG) (H:Hp):OA:=match args with
 | [(.ptr aa ap),(.int .i64 ak)]=>g aa ap ak H
 | _=>none
theorem mk1_E (g:BE) (aa:Nat) (ap:Nat) (ak:Int) (H:Hp):mk1 g [(.ptr aa ap),(.int .i64 ak)] H=g aa ap ak H:=rfl
theorem av.k:Ok Try.prog 121 (mk1 (av.tw F)):=by
 intro args H v H' h
 unfold mk1 at h
 split at h
 ·exact okT (PN:=aT) (LH:=lh0) (F:=F) (TB:=av.tb) Try.func121 bT ac.no (Eq.trans (by kernel_rfl) h) (by kernel_rfl)
 ·cases h
def aw.j2 (F:Nat) (bj:BE) (C61_:BT) (vY:Nat) (vZ:Nat) (mr:Nat) (v_:Nat) (ju:Nat) (oI:Nat) (jv:Int) (gS:Int) (H90:Hp):OA:=(Hp.ldSl H90 ju (oI+1)).bind λs91=>(Hp.new H90 [(.int .i64 gS)]).bind λH92=>(Sl.row H92 (⟨some (H90.length,0),1,.ex 1⟩:Sl) 1).bind λxs94=>(Hp.app H92 1 8 s91 (⟨some (H90.length,0),1,.ex 1⟩:Sl).n xs94).bind λa93=>(Hp.st a93.2 ju (oI+1) (.sl a93.1)).bind λH95=>C61_ vY vZ mr v_ ju oI (wrap .i64 (jv - 1)) H95
def aw.l61 (F:Nat) (bj:BE) :Nat->Nat->Nat->Nat->Nat->Nat->Nat->Int->Hp->OA
 | 0,_,_,_,_,_,_,_,_=>none
 | mu+1,jw,jx,dJ,eT,en,fI,ey,H35=>(bif (decide (ey>0)) then ((Hp.ldI H35 .i64 en fI).bind λn72=>(bif (decide (n72>1)) then ((Hp.ldI H35 .i64 en fI).bind λn73=>(bj jw jx (wrap .i64 (n73 - 1)) H35).bind λr74=>((r74.1).asI .i64).bind λn75=>(bj jw jx 2 r74.2).bind λr76=>((r76.1).asI .i64).bind λn77=>(bif (n77==0) then (aw.j2 F bj (aw.l61 F bj mu) jw jx dJ eT en fI ey (wrap .i64 (0 - (wrap .i64 (1+n75)))) r76.2) else (aw.j2 F bj (aw.l61 F bj mu) jw jx dJ eT en fI ey (wrap .i64 (1+n75)) r76.2))) else ((Hp.ldI H35 .i64 en fI).bind λn96=>(Hp.ldSl H35 en (fI+1)).bind λs97=>(Hp.st H35 dJ eT (.int .i64 n96)).bind λH98=>(Hp.st H98 dJ (eT+1) (.sl s97)).bind λH99=>(Hp.ldI H99 .i64 dJ eT).bind λn100=>(Hp.ldSl H99 dJ (eT+1)).bind λs101=>some ((.agg [(.int .i64 n100),(.sl s101)]),H99)))) else ((Hp.ldI H35 .i64 en fI).bind λn102=>(Hp.ldSl H35 en (fI+1)).bind λs103=>(Hp.st H35 dJ eT (.int .i64 n102)).bind λH104=>(Hp.st H104 dJ (eT+1) (.sl s103)).bind λH105=>(Hp.ldI H105 .i64 dJ eT).bind λn106=>(Hp.ldSl H105 dJ (eT+1)).bind λs107=>some ((.agg [(.int .i64 n106),(.sl s107)]),H105)))
termination_by structural n=>n
def aw.j3 (bj:BE) (sL:Nat) (sM:Nat) (jy:Int) (mv:Nat) (wa:Nat) (mw:Nat) (wc:Nat) (H23:Hp):OA:=(bj sL sM (wrap .i64 (jy+1)) H23).bind λr24=>((r24.1).asI .i64).bind λn25=>aw.l61 F bj F sL sM mv wa mw wc n25 r24.2
def aw.twX (bj:BE) (aa:Nat) (ap:Nat) (ak:Int) (H:Hp):OA:=(Hp.new H [.int .i64 0,.sl ⟨none,0,.ex 0⟩]).bind λH4=>(bj aa ap 3 H4).bind λr5=>((r5.1).asI .i64).bind λn6=>(Hp.new r5.2 [.int .i64 0,.sl ⟨none,0,.ex 0⟩]).bind λH7=>(Hp.st H7 r5.2.length 0 (.int .i64 (wrap .i64 (2+n6)))).bind λH8=>(Hp.st H8 r5.2.length (0+1) (.sl (⟨none,0,.ex 0⟩:Sl))).bind λH9=>(bj aa ap 8 H9).bind λr10=>((r10.1).asI .i64).bind λn11=>(bif (n11==0) then ((bj aa ap 6 r10.2).bind λr12=>((r12.1).asI .i64).bind λn13=>(Hp.st r12.2 r5.2.length 0 (.int .i64 (wrap .i64 (1+n13)))).bind λH14=>aw.j3 F bj aa ap ak H.length 0 r5.2.length 0 H14) else (aw.j3 F bj aa ap ak H.length 0 r5.2.length 0 r10.2))
def aw.tw:=aw.twX F (av.tw F)
def aw.lh61 (bj:BE) (ks:BA) (n:Nat) (tm:Tm) (H:Hp):OA:=match ks,tm 0,tm 4,tm 5,tm 6 with
 | [],(.ptr jw jx),(.ptr dJ eT),(.ptr en fI),(.int .i64 ey)=>aw.l61 F bj n jw jx dJ eT en fI ey H
 | _,_,_,_,_=>none
def aw.lh (bj:BE) (p:Nat) (ks:BA) (n:Nat) (tm:Tm) (H:Hp):OA:=bif p.beq 61 then aw.lh61 F bj ks n tm H else (none)
def aw.cs (F:Nat) (bj:BE):Cs:=[(121,mk1 bj)]
theorem aw.loops (bj:BE):LO (bi (aw.cs F bj)) aT (aw.lh F bj) F Try.f120:=
 (ac.rt (ac.rt (ac.rt (ac.lt (ac.rt (ac.block (ac.la (λn tm H r h=>by change aw.lh61 F bj [] n tm H=_ at h;unfold aw.lh61 at h;split at h;have e:cq tm [(0,_),(4,_),(5,_),(6,_)]:=⟨‹_›,‹_›,‹_›,‹_›,trivial⟩;obtain _ | k61:=n;cases h;exact ⟨_,rfl,by rw [<- cC e];exact Eq.trans (by kernel_rfl) h⟩;cases h) λk61=>ac.no)))))))
theorem aw.eqX (bj:BE) (aa:Nat) (ap:Nat) (ak:Int) (H:Hp):EX (bi (aw.cs F bj)) aT (aw.lh F bj) F Try.f120 [(.ptr aa ap),(.int .i64 ak)] H=aw.twX F bj aa ap ak H:=by kernel_rfl
theorem aw.k:Ok Try.prog 120 (mk1 (aw.tw F)):=by
 intro args H v H' h
 unfold mk1 at h
 split at h
 ·exact okT (TB:=aT) Try.func120 (aY (av.k F) bT) (aw.loops F (av.tw F)) ((aw.eqX F (av.tw F) _ _ _ H).trans h) (by kernel_rfl)
 ·cases h
def aW.l1918 (F:Nat) (dr:BE) (bj:BE) :Nat->Nat->Nat->Nat->Nat->Nat->Nat->Hp->OA
 | 0,_,_,_,_,_,_,_=>none
 | wd+1,mz,mA,dP,fd,dh,dQ,H51=>(Hp.ldSl H51 dh (dQ+1)).bind λs77=>(bj mz mA 2 H51).bind λr78=>((r78.1).asI .i64).bind λn79=>(bif (decide ((s77.n:Int)<(wrap .i64 (24+n79)))) then ((Hp.ldI r78.2 .i64 dh dQ).bind λn80=>(ifW (((((Hp.ldSl r78.2 dh (dQ+1)).bind λs81=>e_ (.sl s77) r78.2 (.sl s81) r78.2)=some ())/\(((Hp.ldSl H51 dh (dQ+1)).bind λs82=>e_ (.sl s77) H51 (.sl s82) H51)=some ())/\True)/\True) ((bif (decide (n80>1)) then ((Hp.ldSl r78.2 dh (dQ+1)).bind λs83=>(Hp.new r78.2 [(.int .i64 1)]).bind λH84=>(Sl.row H84 (⟨some (r78.2.length,0),1,.ex 1⟩:Sl) 1).bind λxs86=>(Hp.app H84 1 8 s83 (⟨some (r78.2.length,0),1,.ex 1⟩:Sl).n xs86).bind λa85=>(Hp.st a85.2 dh (dQ+1) (.sl a85.1)).bind λH87=>aW.l1918 F dr bj wd mz mA dP fd dh dQ H87) else ((Hp.ldI r78.2 .i64 dh dQ).bind λn88=>(Hp.ldSl r78.2 dh (dQ+1)).bind λs89=>(Hp.st r78.2 dP fd (.int .i64 n88)).bind λH90=>(Hp.st H90 dP (fd+1) (.sl s89)).bind λH91=>(Hp.ldI H91 .i64 dP fd).bind λn92=>(Hp.ldSl H91 dP (fd+1)).bind λs93=>some ((.agg [(.int .i64 n92),(.sl s93)]),H91)))))) else ((ifW (((((Hp.ldSl r78.2 dh (dQ+1)).bind λs94=>e_ (.sl s77) r78.2 (.sl s94) r78.2)=some ())/\(((Hp.ldSl H51 dh (dQ+1)).bind λs95=>e_ (.sl s77) H51 (.sl s95) H51)=some ())/\True)/\True) ((Hp.ldI r78.2 .i64 dh dQ).bind λn96=>(Hp.ldSl r78.2 dh (dQ+1)).bind λs97=>(Hp.st r78.2 dP fd (.int .i64 n96)).bind λH98=>(Hp.st H98 dP (fd+1) (.sl s97)).bind λH99=>(Hp.ldI H99 .i64 dP fd).bind λn100=>(Hp.ldSl H99 dP (fd+1)).bind λs101=>some ((.agg [(.int .i64 n100),(.sl s101)]),H99)))))
termination_by structural n=>n
def aW.twX (dr:BE) (bj:BE) (aa:Nat) (ap:Nat) (H:Hp):OA:=(Hp.new H [.int .i64 0,.sl ⟨none,0,.ex 0⟩]).bind λH3=>(dr aa ap 9 H3).bind λr4=>((r4.1).asAgg 2).bind λl5=>(l5[0]?).bind λv6=>((v6).asI .i64).bind λn7=>(l5[1]?).bind λv8=>((v8).asSl).bind λs9=>(Hp.new r4.2 [.int .i64 0,.sl ⟨none,0,.ex 0⟩]).bind λH10=>(Hp.st H10 r4.2.length 0 (.int .i64 n7)).bind λH11=>(Hp.st H11 r4.2.length (0+1) (.sl s9)).bind λH12=>(bj aa ap 16 H12).bind λr13=>((r13.1).asI .i64).bind λn14=>(bif (n14==0) then ((bj aa ap 9 r13.2).bind λr15=>((r15.1).asI .i64).bind λn16=>(Hp.st r15.2 r4.2.length 0 (.int .i64 (wrap .i64 (n16 - 1)))).bind λH17=>(Hp.ldI H17 .i64 r4.2.length 0).bind λn18=>(Hp.ldSl H17 r4.2.length (0+1)).bind λs19=>(Hp.st H17 H.length 0 (.int .i64 n18)).bind λH20=>(Hp.st H20 H.length (0+1) (.sl s19)).bind λH21=>(Hp.ldI H21 .i64 H.length 0).bind λn22=>(Hp.ldSl H21 H.length (0+1)).bind λs23=>some ((.agg [(.int .i64 n22),(.sl s23)]),H21)) else ((bif (n14==1) then ((Hp.ldSl r13.2 r4.2.length 1).bind λs24=>(bj aa ap 9 r13.2).bind λr25=>((r25.1).asI .i64).bind λn26=>(Hp.new r25.2 [(.int .i64 (wrap .i64 (n26 - 4)))]).bind λH27=>(Sl.row H27 (⟨some (r25.2.length,0),1,.ex 1⟩:Sl) 1).bind λxs29=>(Hp.app H27 1 8 s24 (⟨some (r25.2.length,0),1,.ex 1⟩:Sl).n xs29).bind λa28=>(Hp.st a28.2 r4.2.length 1 (.sl a28.1)).bind λH30=>(ifW (((((Hp.ldSl a28.2 r4.2.length 1).bind λs31=>e_ (.sl s24) a28.2 (.sl s31) a28.2)=some ())/\(((Hp.ldSl H27 r4.2.length 1).bind λs32=>e_ (.sl s24) H27 (.sl s32) H27)=some ())/\(((Hp.ldSl r25.2 r4.2.length 1).bind λs33=>e_ (.sl s24) r25.2 (.sl s33) r25.2)=some ())/\(((Hp.ldSl r13.2 r4.2.length 1).bind λs34=>e_ (.sl s24) r13.2 (.sl s34) r13.2)=some ())/\True)/\True) ((Hp.ldI H30 .i64 r4.2.length 0).bind λn35=>(Hp.ldSl H30 r4.2.length (0+1)).bind λs36=>(Hp.st H30 H.length 0 (.int .i64 n35)).bind λH37=>(Hp.st H37 H.length (0+1) (.sl s36)).bind λH38=>(Hp.ldI H38 .i64 H.length 0).bind λn39=>(Hp.ldSl H38 H.length (0+1)).bind λs40=>some ((.agg [(.int .i64 n39),(.sl s40)]),H38)))) else ((bif (n14==2) then (aW.l1918 F dr bj F aa ap H.length 0 r4.2.length 0 r13.2) else ((Hp.ldI r13.2 .i64 r4.2.length 0).bind λn102=>(Hp.ldSl r13.2 r4.2.length (0+1)).bind λs103=>(Hp.st r13.2 H.length 0 (.int .i64 n102)).bind λH104=>(Hp.st H104 H.length (0+1) (.sl s103)).bind λH105=>(Hp.ldI H105 .i64 H.length 0).bind λn106=>(Hp.ldSl H105 H.length (0+1)).bind λs107=>some ((.agg [(.int .i64 n106),(.sl s107)]),H105)))))))
def aW.tw:=aW.twX F (aw.tw F) (av.tw F)
def aW.lh1918 (dr:BE) (bj:BE) (ks:BA) (n:Nat) (tm:Tm) (H:Hp):OA:=match ks,tm 0,tm 2,tm 3 with
 | [],(.ptr mz mA),(.ptr dP fd),(.ptr dh dQ)=>aW.l1918 F dr bj n mz mA dP fd dh dQ H
 | _,_,_,_=>none
def aW.lh (dr:BE) (bj:BE) (p:Nat) (ks:BA) (n:Nat) (tm:Tm) (H:Hp):OA:=bif p.beq 1918 then aW.lh1918 F dr bj ks n tm H else (none)
def aW.pn:Nat->List Nat:=cR [(6,[3,6,8,999,1001]),(8,[4,1001])]
def aW.tb:Nat->List (List Nat):=cR [(6,[[],[0],[],[2],[2,3],[2,3,4],[0,1,2,3,4,5],[0,1,2,3,4,5,6],[0,1,2,3,4,5,6,7]]),(8,[[],[0],[0,1],[],[3],[3,4],[0,1,2,3,4,5],[0,1,2,3,4,5,6],[0,1,2,3,4,5,6,7],[0,1,2,3,4,5,6,7,8],[0,1,2,3,4,5,6,7,8,9],[0,1,2,3,4,5,6,7,8,9,10]])]
def mk2 (g:BH) (args:BG) (H:Hp):OA:=match args with
 | [(.ptr aa ap)]=>g aa ap H
 | _=>none
theorem mk2_E (g:BH) (aa:Nat) (ap:Nat) (H:Hp):mk2 g [(.ptr aa ap)] H=g aa ap H:=rfl
def aW.cs (F:Nat) (dr:BE) (bj:BE):Cs:=[(120,mk1 dr),(121,mk1 bj)]
theorem aW.loops (dr:BE) (bj:BE):LO (bi (aW.cs F dr bj)) aW.pn (aW.lh F dr bj) F Try.f110:=
 (ac.rt (ac.rt (ac.lt (ac.rt (ac.block (ac.rt (ac.cond ac.no (ac.rt (ac.cond ac.no (ac.rt (ac.cond (ac.block (ac.la (λn tm H r h=>by change aW.lh1918 F dr bj [] n tm H=_ at h;unfold aW.lh1918 at h;split at h;have e:cq tm [(0,_),(2,_),(3,_)]:=⟨‹_›,‹_›,‹_›,trivial⟩;obtain _ | k1918:=n;cases h;exact ⟨_,rfl,by rw [<- cC e];exact Eq.trans (by kernel_rfl) h⟩;cases h) λk1918=>ac.no)) ac.no)))))))))))
theorem aW.eqX (dr:BE) (bj:BE) (aa:Nat) (ap:Nat) (H:Hp):EX (bi (aW.cs F dr bj)) aW.pn (aW.lh F dr bj) F Try.f110 [(.ptr aa ap)] H=aW.twX F dr bj aa ap H:=by kernel_rfl
theorem aW.k:Ok Try.prog 110 (mk2 (aW.tw F)):=by
 intro args H v H' h
 unfold mk2 at h
 split at h
 ·exact okT (TB:=aW.tb) Try.func110 (aY (aw.k F) (aY (av.k F) bT)) (aW.loops F (aw.tw F) (av.tw F)) ((aW.eqX F (aw.tw F) (av.tw F) _ _ H).trans h) (by kernel_rfl)
 ·cases h
def bW.twX (F:Nat) (jz:Bu) (jA:BH) (aa:Sl) (H:Hp):OA:=(Hp.new H [.int .i64 0,.sl ⟨none,0,.ex 0⟩]).bind λH2=>(jz aa H2).bind λr3=>((r3.1).asP).bind λp4=>(jA p4.1 p4.2 r3.2).bind λr5=>((r5.1).asAgg 2).bind λl6=>(l6[0]?).bind λv7=>((v7).asI .i64).bind λn8=>(l6[1]?).bind λv9=>((v9).asSl).bind λs10=>(Hp.st r5.2 H.length 0 (.int .i64 n8)).bind λH11=>(Hp.st H11 H.length (0+1) (.sl s10)).bind λH12=>(Hp.ldI H12 .i64 H.length 0).bind λn13=>(Hp.ldSl H12 H.length (0+1)).bind λs14=>some ((.agg [(.int .i64 n13),(.sl s14)]),H12)
def bW.tw:=bW.twX F (ba.tw F) (aW.tw F)
def bW.cs (F:Nat) (jz:Bu) (jA:BH):Cs:=[(102,mk0 jz),(110,mk2 jA)]
theorem bW.eqX (jz:Bu) (jA:BH) (aa:Sl) (H:Hp):EX (bi (bW.cs F jz jA)) aT lh0 F Try.f48 [(.sl aa)] H=bW.twX F jz jA aa H:=by kernel_rfl
theorem bW.k:Ok Try.prog 48 (mk0 (bW.tw F)):=by
 intro args H v H' h
 unfold mk0 at h
 split at h
 ·exact okT (TB:=aT) Try.func48 (aY (ba.k F) (aY (aW.k F) bT)) ac.no ((bW.eqX F (ba.tw F) (aW.tw F) _ H).trans h) (by kernel_rfl)
 ·cases h
def bH.twX (F:Nat) (aa:Int) (ag:Int) (dt:Int) (H:Hp):OA:=(bif (decide (ag<=aa)) then (some ((.bool (decide (aa<=dt))),H)) else (some ((.bool false),H)))
def bH.tw:=bH.twX F
def mk3 (g:BF) (args:BG) (H:Hp):OA:=match args with
 | [(.int .i64 aa),(.int .i64 ag),(.int .i64 dt)]=>g aa ag dt H
 | _=>none
theorem mk3_E (g:BF) (aa:Int) (ag:Int) (dt:Int) (H:Hp):mk3 g [(.int .i64 aa),(.int .i64 ag),(.int .i64 dt)] H=g aa ag dt H:=rfl
theorem bH.k:Ok Try.prog 112 (mk3 (bH.tw F)):=by
 intro args H v H' h
 unfold mk3 at h
 split at h
 ·exact ok0 Try.func112 (Eq.trans (by kernel_rfl) h) (by kernel_rfl) (by kernel_rfl)
 ·cases h
def cH.twX (F:Nat) (bh:BF) (aa:Int) (ag:Int) (H:Hp):OA:=(bif (ag != 0) then ((bh ag (wrap .i64 (1 - aa)) (wrap .i64 (aa - 1)) H).bind λr3=>((r3.1).asB).bind λb4=>some ((.bool b4),r3.2)) else (some ((.bool false),H)))
def cH.tw:=cH.twX F (bH.tw F)
def mk4 (g:BI) (args:BG) (H:Hp):OA:=match args with
 | [(.int .i64 aa),(.int .i64 ag)]=>g aa ag H
 | _=>none
theorem mk4_E (g:BI) (aa:Int) (ag:Int) (H:Hp):mk4 g [(.int .i64 aa),(.int .i64 ag)] H=g aa ag H:=rfl
def cH.cs (F:Nat) (bh:BF):Cs:=[(112,mk3 bh)]
theorem cH.eqX (bh:BF) (aa:Int) (ag:Int) (H:Hp):EX (bi (cH.cs F bh)) aT lh0 F Try.f152 [(.int .i64 aa),(.int .i64 ag)] H=cH.twX F bh aa ag H:=by kernel_rfl
theorem cH.k:Ok Try.prog 152 (mk4 (cH.tw F)):=by
 intro args H v H' h
 unfold mk4 at h
 split at h
 ·exact okT (TB:=aT) Try.func152 (aY (bH.k F) bT) ac.no ((cH.eqX F (bH.tw F) _ _ H).trans h) (by kernel_rfl)
 ·cases h
def cD.twX (F:Nat) (jB:BI) (aa:Int) (ag:Nat) (ak:Nat) (H:Hp):OA:=(Hp.ldI H .i64 ag ak).bind λn4=>(jB n4 aa H).bind λr5=>((r5.1).asB).bind λb6=>some ((.bool (!b6)),r5.2)
def cD.tw:=cD.twX F (cH.tw F)
def mk5 (g:BJ) (args:BG) (H:Hp):OA:=match args with
 | [(.int .i64 aa),(.ptr ag ak)]=>g aa ag ak H
 | _=>none
theorem mk5_E (g:BJ) (aa:Int) (ag:Nat) (ak:Nat) (H:Hp):mk5 g [(.int .i64 aa),(.ptr ag ak)] H=g aa ag ak H:=rfl
def cD.cs (F:Nat) (jB:BI):Cs:=[(152,mk4 jB)]
theorem cD.eqX (jB:BI) (aa:Int) (ag:Nat) (ak:Nat) (H:Hp):EX (bi (cD.cs F jB)) aT lh0 F Try.f151 [(.int .i64 aa),(.ptr ag ak)] H=cD.twX F jB aa ag ak H:=by kernel_rfl
theorem cD.k:Ok Try.prog 151 (mk5 (cD.tw F)):=by
 intro args H v H' h
 unfold mk5 at h
 split at h
 ·exact okT (TB:=aT) Try.func151 (aY (cH.k F) bT) ac.no ((cD.eqX F (cH.tw F) _ _ _ H).trans h) (by kernel_rfl)
 ·cases h
def bc.l13 (F:Nat) (du:BJ) :Nat->Sl->Nat->Nat->Int->Int->Hp->OA
 | 0,_,_,_,_,_,_=>none
 | iC+1,eo,ag,ak,fh,dR,H8=>(bif (decide (dR<fh)) then ((Sl.idx eo dR 1).bind λp13=>(Hp.ldI H8 .i64 p13.1 p13.2).bind λn14=>(du n14 ag ak H8).bind λr15=>((r15.1).asB).bind λb16=>(bif b16 then (some ((.int .i64 dR),r15.2)) else (bc.l13 F du iC eo ag ak fh (wrap .i64 (dR+1)) r15.2))) else (some ((.int .i64 (-1)),H8)))
termination_by structural n=>n
def bc.twX (du:BJ) (aa:Sl) (ag:Nat) (ak:Nat) (H:Hp):OA:=bc.l13 F du F aa ag ak (aa.n:Int) 0 H
def bc.tw:=bc.twX F (cD.tw F)
def bc.lh13 (du:BJ) (ks:BA) (n:Nat) (tm:Tm) (H:Hp):OA:=match ks,tm 0,tm 1,tm 7,tm 8 with
 | [],(.sl eo),(.fn 151 [(.ptr ag ak)]),(.int .i64 fh),(.int .i64 dR)=>bc.l13 F du n eo ag ak fh dR H
 | _,_,_,_,_=>none
def bc.lh (du:BJ) (p:Nat) (ks:BA) (n:Nat) (tm:Tm) (H:Hp):OA:=bif p.beq 13 then bc.lh13 F du ks n tm H else (none)
def mk6 (g:BK) (args:BG) (H:Hp):OA:=match args with
 | [(.sl aa),(.fn 151 [(.ptr ag ak)])]=>g aa ag ak H
 | _=>none
theorem mk6_E (g:BK) (aa:Sl) (ag:Nat) (ak:Nat) (H:Hp):mk6 g [(.sl aa),(.fn 151 [(.ptr ag ak)])] H=g aa ag ak H:=rfl
def bc.cs (F:Nat) (du:BJ):Cs:=[(151,mk5 du)]
theorem bc.loops (du:BJ):LO (bi (bc.cs F du)) aT (bc.lh F du) F Try.f184:=
 (ac.rt (ac.lt (ac.rt (ac.block (ac.la (λn tm H r h=>by change bc.lh13 F du [] n tm H=_ at h;unfold bc.lh13 at h;split at h;have e:cq tm [(0,_),(1,_),(7,_),(8,_)]:=⟨‹_›,‹_›,‹_›,‹_›,trivial⟩;obtain _ | k13:=n;cases h;exact ⟨_,rfl,by rw [<- cC e];exact Eq.trans (by kernel_rfl) h⟩;cases h) λk13=>ac.no)))))
theorem bc.eqX (du:BJ) (aa:Sl) (ag:Nat) (ak:Nat) (H:Hp):EX (bi (bc.cs F du)) aT (bc.lh F du) F Try.f184 [(.sl aa),(.fn 151 [(.ptr ag ak)])] H=bc.twX F du aa ag ak H:=by kernel_rfl
theorem bc.k:Ok Try.prog 184 (mk6 (bc.tw F)):=by
 intro args H v H' h
 unfold mk6 at h
 split at h
 ·exact okT (TB:=aT) Try.func184 (aY (cD.k F) bT) (bc.loops F (cD.tw F)) ((bc.eqX F (cD.tw F) _ _ _ H).trans h) (by kernel_rfl)
 ·cases h
def cN.twX (F:Nat) (jC:BK) (aa:Sl) (ag:Nat) (ak:Nat) (H:Hp):OA:=(jC aa ag ak H).bind λr4=>((r4.1).asI .i64).bind λn5=>some ((.bool (decide (n5>=0))),r4.2)
def cN.tw:=cN.twX F (bc.tw F)
def cN.cs (F:Nat) (jC:BK):Cs:=[(184,mk6 jC)]
theorem cN.eqX (jC:BK) (aa:Sl) (ag:Nat) (ak:Nat) (H:Hp):EX (bi (cN.cs F jC)) aT lh0 F Try.f150 [(.sl aa),(.fn 151 [(.ptr ag ak)])] H=cN.twX F jC aa ag ak H:=by kernel_rfl
theorem cN.k:Ok Try.prog 150 (mk6 (cN.tw F)):=by
 intro args H v H' h
 unfold mk6 at h
 split at h
 ·exact okT (TB:=aT) Try.func150 (aY (bc.k F) bT) ac.no ((cN.eqX F (bc.tw F) _ _ _ H).trans h) (by kernel_rfl)
 ·cases h
def ce.twX (F:Nat) (bh:BF) (jD:BK) (aa:Int) (ap:Sl) (H:Hp):OA:=(Hp.new H [(.int .i64 aa),(.sl ap)]).bind λH3=>(Hp.ldI H3 .i64 H.length 0).bind λn4=>(bh n4 1 6 H3).bind λr5=>((r5.1).asB).bind λb6=>(bif b6 then ((Hp.ldSl r5.2 H.length 1).bind λs7=>(bif (decide ((s7.n:Int)<=24)) then ((Hp.ldSl r5.2 H.length 1).bind λs8=>(jD s8 H.length 0 r5.2).bind λr9=>((r9.1).asB).bind λb10=>some ((.bool (!b10)),r9.2)) else (some ((.bool false),r5.2)))) else (some ((.bool false),r5.2)))
def ce.tw:=ce.twX F (bH.tw F) (cN.tw F)
def mk7 (g:Bw) (args:BG) (H:Hp):OA:=match args with
 | [(.agg [(.int .i64 aa),(.sl ap)])]=>g aa ap H
 | _=>none
theorem mk7_E (g:Bw) (aa:Int) (ap:Sl) (H:Hp):mk7 g [(.agg [(.int .i64 aa),(.sl ap)])] H=g aa ap H:=rfl
def ce.cs (F:Nat) (bh:BF) (jD:BK):Cs:=[(112,mk3 bh),(150,mk6 jD)]
theorem ce.eqX (bh:BF) (jD:BK) (aa:Int) (ap:Sl) (H:Hp):EX (bi (ce.cs F bh jD)) aT lh0 F Try.f96 [(.agg [(.int .i64 aa),(.sl ap)])] H=ce.twX F bh jD aa ap H:=by kernel_rfl
theorem ce.k:Ok Try.prog 96 (mk7 (ce.tw F)):=by
 intro args H v H' h
 unfold mk7 at h
 split at h
 ·exact okT (TB:=aT) Try.func96 (aY (bH.k F) (aY (cN.k F) bT)) ac.no ((ce.eqX F (bH.tw F) (cN.tw F) _ _ H).trans h) (by kernel_rfl)
 ·cases h
def aG.l29 (F:Nat) :Nat->Sl->Int->Int->Hp->OA
 | 0,_,_,_,_=>none
 | da+1,bm,fi,dS,H7=>(bif (decide (dS<fi)) then ((Hp.new H7 [(.int .i64 dS)]).bind λH11=>(Sl.row H11 (⟨some (H7.length,0),1,.ex 1⟩:Sl) 1).bind λxs13=>(Hp.app H11 1 8 bm (⟨some (H7.length,0),1,.ex 1⟩:Sl).n xs13).bind λa12=>aG.l29 F da a12.1 fi (wrap .i64 (dS+1)) a12.2) else (some ((.sl bm),H7)))
def aG.twX (aa:Int) (H:Hp):OA:=aG.l29 F F (⟨none,0,.ex 0⟩:Sl) aa 0 H
def aG.tw:=aG.twX F
def aG.lh29 (ks:BA) (n:Nat) (tm:Tm) (H:Hp):OA:=match ks,tm 3,tm 5,tm 6 with
 | [],(.sl bm),(.int .i64 fi),(.int .i64 dS)=>aG.l29 F n bm fi dS H
 | _,_,_,_=>none
def aG.lh (p:Nat) (ks:BA) (n:Nat) (tm:Tm) (H:Hp):OA:=bif p.beq 29 then aG.lh29 F ks n tm H else (none)
def mk8 (g:Bx) (args:BG) (H:Hp):OA:=match args with
 | [(.int .i64 aa)]=>g aa H
 | _=>none
theorem mk8_E (g:Bx) (aa:Int) (H:Hp):mk8 g [(.int .i64 aa)] H=g aa H:=rfl
theorem aG.loops:LO (bi []) aT (aG.lh F) F Try.f125:=
 (ac.rt (ac.rt (ac.lt (ac.rt (ac.block (ac.la (λn tm H r h=>by change aG.lh29 F [] n tm H=_ at h;unfold aG.lh29 at h;split at h;have e:cq tm [(3,_),(5,_),(6,_)]:=⟨‹_›,‹_›,‹_›,trivial⟩;obtain _ | k29:=n;cases h;exact ⟨_,rfl,by rw [<- cC e];exact Eq.trans (by kernel_rfl) h⟩;cases h) λk29=>ac.no))))))
theorem aG.k:Ok Try.prog 125 (mk8 (aG.tw F)):=by
 intro args H v H' h
 unfold mk8 at h
 split at h
 ·exact okT (PN:=aT) (LH:=(aG.lh F)) (F:=F) (TB:=aT) Try.func125 bT (aG.loops F) (Eq.trans (by kernel_rfl) h) (by kernel_rfl)
 ·cases h
def aZ.twX (F:Nat) (aa:Sl) (H:Hp):OA:=some ((.int .i64 (aa.n:Int)),H)
def aZ.tw:=aZ.twX F
theorem aZ.k:Ok Try.prog 113 (mk0 (aZ.tw F)):=by
 intro args H v H' h
 unfold mk0 at h
 split at h
 ·exact ok0 Try.func113 (Eq.trans (by kernel_rfl) h) (by kernel_rfl) (by kernel_rfl)
 ·cases h
def aN.l61 (F:Nat) (ar:Bu) :Nat->Int->Sl->Sl->Int->Int->Hp->OA
 | 0,_,_,_,_,_,_=>none
 | mu+1,ez,kI,mB,fj,dU,H12=>(bif (decide (dU<fj)) then ((Sl.idx mB dU 1).bind λp17=>(Hp.ldI H12 .i64 p17.1 p17.2).bind λn18=>(Sl.idx kI (wrap .i64 (ez - dU)) 1).bind λp19=>(Hp.st H12 p19.1 p19.2 (.int .i64 (wrap .i64 (ez - n18)))).bind λH20=>aN.l61 F ar mu ez kI mB fj (wrap .i64 (dU+1)) H20) else (some ((.sl kI),H12)))
def aN.twX (ar:Bu) (aa:Sl) (H:Hp):OA:=(ar aa H).bind λr2=>((r2.1).asI .i64).bind λn3=>(Hp.mk r2.2 [.int .i64 0] 8 (aa.n:Int) (aa.n:Int)).bind λm4=>aN.l61 F ar F (wrap .i64 (n3 - 1)) m4.1 aa (aa.n:Int) 0 m4.2
def aN.tw:=aN.twX F (aZ.tw F)
def aN.lh61 (ar:Bu) (ks:BA) (n:Nat) (tm:Tm) (H:Hp):OA:=match ks,tm 3,tm 4,tm 13,tm 14,tm 15 with
 | [],(.int .i64 ez),(.sl kI),(.sl mB),(.int .i64 fj),(.int .i64 dU)=>aN.l61 F ar n ez kI mB fj dU H
 | _,_,_,_,_,_=>none
def aN.lh (ar:Bu) (p:Nat) (ks:BA) (n:Nat) (tm:Tm) (H:Hp):OA:=bif p.beq 61 then aN.lh61 F ar ks n tm H else (none)
def aN.cs (F:Nat) (ar:Bu):Cs:=[(113,mk0 ar)]
theorem aN.loops (ar:Bu):LO (bi (aN.cs F ar)) aT (aN.lh F ar) F Try.f185:=
 (ac.rt (ac.rt (ac.rt (ac.lt (ac.rt (ac.block (ac.la (λn tm H r h=>by change aN.lh61 F ar [] n tm H=_ at h;unfold aN.lh61 at h;split at h;have e:cq tm [(3,_),(4,_),(13,_),(14,_),(15,_)]:=⟨‹_›,‹_›,‹_›,‹_›,‹_›,trivial⟩;obtain _ | k61:=n;cases h;exact ⟨_,rfl,by rw [<- cC e];exact Eq.trans (by kernel_rfl) h⟩;cases h) λk61=>ac.no)))))))
theorem aN.eqX (ar:Bu) (aa:Sl) (H:Hp):EX (bi (aN.cs F ar)) aT (aN.lh F ar) F Try.f185 [(.sl aa)] H=aN.twX F ar aa H:=by kernel_rfl
theorem aN.k:Ok Try.prog 185 (mk0 (aN.tw F)):=by
 intro args H v H' h
 unfold mk0 at h
 split at h
 ·exact okT (TB:=aT) Try.func185 (aY (aZ.k F) bT) (aN.loops F (aZ.tw F)) ((aN.eqX F (aZ.tw F) _ H).trans h) (by kernel_rfl)
 ·cases h
def bo.l3 (F:Nat) :Nat->Sl->Int->Int->Hp->OA
 | 0,_,_,_,_=>none
 | wg+1,er,dV,bm,H5=>(bif (decide (dV<bm)) then ((Sl.idx er bm 1).bind λp14=>(Hp.ldI H5 .i64 p14.1 p14.2).bind λn15=>(Sl.idx er dV 1).bind λp16=>(Hp.ldI H5 .i64 p16.1 p16.2).bind λn17=>(Sl.idx er dV 1).bind λp18=>(Hp.st H5 p18.1 p18.2 (.int .i64 n15)).bind λH19=>(Sl.idx er bm 1).bind λp20=>(Hp.st H19 p20.1 p20.2 (.int .i64 n17)).bind λH21=>bo.l3 F wg er (wrap .i64 (dV+1)) (wrap .i64 (bm - 1)) H21) else (some ((.tup []),H5)))
def bo.twX (aa:Sl) (H:Hp):OA:=bo.l3 F F aa 0 (wrap .i64 ((aa.n:Int) - 1)) H
def bo.tw:=bo.twX F
def bo.lh3 (ks:BA) (n:Nat) (tm:Tm) (H:Hp):OA:=match ks,tm 0,tm 2,tm 3 with
 | [],(.sl er),(.int .i64 dV),(.int .i64 bm)=>bo.l3 F n er dV bm H
 | _,_,_,_=>none
def bo.lh (p:Nat) (ks:BA) (n:Nat) (tm:Tm) (H:Hp):OA:=bif p.beq 3 then bo.lh3 F ks n tm H else (none)
def bo.pn:Nat->List Nat:=cR [(3,[13,15])]
def bo.tb:Nat->List (List Nat):=cR [(3,[[],[],[],[],[],[],[4,5],[4,5,6],[],[],[8,9],[8,9,10],[0,1,4,5,6,7,8,9,10,11],[0,1,4,5,6,7,8,9,10,11,12],[0,1,2,3,4,5,6,7,8,9,10,11,12,13],[0,1,2,3,4,5,6,7,8,9,10,11,12,13,14]])]
theorem bo.loops:LO (bi []) bo.pn (bo.lh F) F Try.f210:=
 (ac.rt (ac.block (ac.la (λn tm H r h=>by change bo.lh3 F [] n tm H=_ at h;unfold bo.lh3 at h;split at h;have e:cq tm [(0,_),(2,_),(3,_)]:=⟨‹_›,‹_›,‹_›,trivial⟩;obtain _ | k3:=n;cases h;exact ⟨_,rfl,by rw [<- cC e];exact Eq.trans (by kernel_rfl) h⟩;cases h) λk3=>ac.no)))
theorem bo.k:Ok Try.prog 210 (mk0 (bo.tw F)):=by
 intro args H v H' h
 unfold mk0 at h
 split at h
 ·exact okT (PN:=bo.pn) (LH:=(bo.lh F)) (F:=F) (TB:=bo.tb) Try.func210 bT (bo.loops F) (Eq.trans (by kernel_rfl) h) (by kernel_rfl)
 ·cases h
def bE.twX (F:Nat) (az:Bx) (jE:Bu) (aa:Int) (H:Hp):OA:=(az aa H).bind λr2=>((r2.1).asSl).bind λs3=>(jE s3 r2.2).bind λr4=>some ((.sl s3),r4.2)
def bE.tw:=bE.twX F (aG.tw F) (bo.tw F)
def bE.cs (F:Nat) (az:Bx) (jE:Bu):Cs:=[(125,mk8 az),(210,mk0 jE)]
theorem bE.eqX (az:Bx) (jE:Bu) (aa:Int) (H:Hp):EX (bi (bE.cs F az jE)) aT lh0 F Try.f186 [(.int .i64 aa)] H=bE.twX F az jE aa H:=by kernel_rfl
theorem bE.k:Ok Try.prog 186 (mk8 (bE.tw F)):=by
 intro args H v H' h
 unfold mk8 at h
 split at h
 ·exact okT (TB:=aT) Try.func186 (aY (aG.k F) (aY (bo.k F) bT)) ac.no ((bE.eqX F (aG.tw F) (bo.tw F) _ H).trans h) (by kernel_rfl)
 ·cases h
def aF.l29 (F:Nat) :Nat->Sl->Sl->Int->Int->Hp->OA
 | 0,_,_,_,_,_=>none
 | da+1,dq,mC,fk,dW,H9=>(bif (decide (dW<fk)) then ((Sl.idx mC dW 1).bind λp14=>(Hp.ldI H9 .i64 p14.1 p14.2).bind λn15=>(Sl.idx dq n15 1).bind λp16=>(Hp.st H9 p16.1 p16.2 (.int .i64 dW)).bind λH17=>aF.l29 F da dq mC fk (wrap .i64 (dW+1)) H17) else (some ((.sl dq),H9)))
def aF.twX (aa:Sl) (H:Hp):OA:=(Hp.mk H [.int .i64 0] 8 (aa.n:Int) (aa.n:Int)).bind λm2=>aF.l29 F F m2.1 aa (aa.n:Int) 0 m2.2
def aF.tw:=aF.twX F
def aF.lh29 (ks:BA) (n:Nat) (tm:Tm) (H:Hp):OA:=match ks,tm 3,tm 9,tm 10,tm 11 with
 | [],(.sl dq),(.sl mC),(.int .i64 fk),(.int .i64 dW)=>aF.l29 F n dq mC fk dW H
 | _,_,_,_,_=>none
def aF.lh (p:Nat) (ks:BA) (n:Nat) (tm:Tm) (H:Hp):OA:=bif p.beq 29 then aF.lh29 F ks n tm H else (none)
theorem aF.loops:LO (bi []) aT (aF.lh F) F Try.f126:=
 (ac.rt (ac.rt (ac.lt (ac.rt (ac.block (ac.la (λn tm H r h=>by change aF.lh29 F [] n tm H=_ at h;unfold aF.lh29 at h;split at h;have e:cq tm [(3,_),(9,_),(10,_),(11,_)]:=⟨‹_›,‹_›,‹_›,‹_›,trivial⟩;obtain _ | k29:=n;cases h;exact ⟨_,rfl,by rw [<- cC e];exact Eq.trans (by kernel_rfl) h⟩;cases h) λk29=>ac.no))))))
theorem aF.k:Ok Try.prog 126 (mk0 (aF.tw F)):=by
 intro args H v H' h
 unfold mk0 at h
 split at h
 ·exact okT (PN:=aT) (LH:=(aF.lh F)) (F:=F) (TB:=aT) Try.func126 bT (aF.loops F) (Eq.trans (by kernel_rfl) h) (by kernel_rfl)
 ·cases h
def ci.twX (F:Nat) (aa:Int) (H:Hp):OA:=(bif (decide (aa<0)) then (some ((.int .i64 (wrap .i64 (0 - aa))),H)) else (some ((.int .i64 aa),H)))
def ci.tw:=ci.twX F
theorem ci.k:Ok Try.prog 87 (mk8 (ci.tw F)):=by
 intro args H v H' h
 unfold mk8 at h
 split at h
 ·exact ok0 Try.func87 (Eq.trans (by kernel_rfl) h) (by kernel_rfl) (by kernel_rfl)
 ·cases h
def bd.twX (F:Nat) (aa:Sl) (ag:Int) (H:Hp):OA:=(Sl.idx aa ag 1).bind λp3=>(Hp.ldI H .i64 p3.1 p3.2).bind λn4=>(Sl.idx aa (wrap .i64 (ag - 1)) 1).bind λp5=>(Hp.ldI H .i64 p5.1 p5.2).bind λn6=>(Sl.idx aa (wrap .i64 (ag - 1)) 1).bind λp7=>(Hp.st H p7.1 p7.2 (.int .i64 n4)).bind λH8=>(Sl.idx aa ag 1).bind λp9=>(Hp.st H8 p9.1 p9.2 (.int .i64 n6)).bind λH10=>some ((.tup []),H10)
def bd.tw:=bd.twX F
def bd.pn:Nat->List Nat:=cR [(0,[15,17])]
def bd.tb:Nat->List (List Nat):=cR [(0,[[],[],[1],[],[],[],[],[5,6],[5,6,7],[],[],[10],[9,10,11],[9,10,11,12],[0,1,2,5,6,7,8,9,10,11,12,13],[0,1,2,5,6,7,8,9,10,11,12,13,14],[0,1,2,3,4,5,6,7,8,9,10,11,12,13,14,15],[0,1,2,3,4,5,6,7,8,9,10,11,12,13,14,15,16]])]
def mk9 (g:BC) (args:BG) (H:Hp):OA:=match args with
 | [(.sl aa),(.int .i64 ag)]=>g aa ag H
 | _=>none
theorem mk9_E (g:BC) (aa:Sl) (ag:Int) (H:Hp):mk9 g [(.sl aa),(.int .i64 ag)] H=g aa ag H:=rfl
theorem bd.k:Ok Try.prog 117 (mk9 (bd.tw F)):=by
 intro args H v H' h
 unfold mk9 at h
 split at h
 ·exact okT (PN:=bd.pn) (LH:=lh0) (F:=F) (TB:=bd.tb) Try.func117 bT ac.no (Eq.trans (by kernel_rfl) h) (by kernel_rfl)
 ·cases h
def bB.j1 (F:Nat) (az:Bx) (cO:Bu) (aD:Bx) (aO:Bu) (cI:Bx) (aA:BC) (sN:Nat) (sO:Nat) (wh:Int) (wi:Sl) (H50:Hp):OA:=(aO wi H50).bind λr51=>((r51.1).asSl).bind λs52=>(cI wh r51.2).bind λr53=>((r53.1).asI .i64).bind λn54=>(aA s52 n54 r53.2).bind λr55=>(Hp.ldSl r55.2 sN (sO+2)).bind λs56=>(aO s52 r55.2).bind λr57=>((r57.1).asSl).bind λs58=>(if aq r55.2 r57.2 then ((Hp.new r57.2 [(.sl s58)]).bind λH59=>(Sl.row H59 (⟨some (r57.2.length,0),1,.ex 1⟩:Sl) 1).bind λxs61=>(Hp.app H59 1 24 s56 (⟨some (r57.2.length,0),1,.ex 1⟩:Sl).n xs61).bind λa60=>(Hp.st a60.2 sN (sO+2) (.sl a60.1)).bind λH62=>some ((.tup []),H62)) else none)
def bB.j2 (az:Bx) (cO:Bu) (aD:Bx) (aO:Bu) (cI:Bx) (aA:BC) (mD:Nat) (mE:Nat) (wj:Int) (H33:Hp):OA:=(Hp.ldI H33 .i64 mD (mE+1)).bind λn34=>(Hp.st H33 mD (mE+1) (.int .i64 (wrap .i64 (n34 - 1)))).bind λH35=>(Hp.ldI H35 .i64 mD mE).bind λn36=>(aD n36 H35).bind λr37=>((r37.1).asSl).bind λs38=>(aO s38 r37.2).bind λr39=>((r39.1).asSl).bind λs40=>bB.j1 F az cO aD aO cI aA mD mE wj s40 r39.2
def bB.l105 (F:Nat) (az:Bx) (cO:Bu) (aD:Bx) (aO:Bu) (cI:Bx) (aA:BC) :Nat->Nat->Nat->Int->Sl->Int->Int->Hp->OA
 | 0,_,_,_,_,_,_,_=>none
 | wk+1,kJ,kK,dX,mF,mG,jF,H16=>(bif (decide (jF<mG)) then ((Sl.idx mF jF 1).bind λp63=>(Hp.ldSl H16 p63.1 p63.2).bind λs64=>(Hp.ldSl H16 kJ (kK+2)).bind λs65=>(cO s64 H16).bind λr66=>((r66.1).asSl).bind λs67=>(if aq H16 r66.2 then ((Sl.idx s65 jF 1).bind λp68=>(Hp.st r66.2 p68.1 p68.2 (.sl s67)).bind λH69=>bB.l105 F az cO aD aO cI aA wk kJ kK dX mF mG (wrap .i64 (jF+1)) H69) else none)) else (bB.j2 F az cO aD aO cI aA kJ kK dX H16))
termination_by structural n=>n
def bB.j3 (F:Nat) (az:Bx) (cO:Bu) (aD:Bx) (aO:Bu) (cI:Bx) (aA:BC) (sP:Nat) (sQ:Nat) (wl:Int) (wo:Sl) (H75:Hp):OA:=(aO wo H75).bind λr76=>((r76.1).asSl).bind λs77=>(cI wl r76.2).bind λr78=>((r78.1).asI .i64).bind λn79=>(aA s77 n79 r78.2).bind λr80=>(Hp.ldSl r80.2 sP (sQ+2)).bind λs81=>(aO s77 r80.2).bind λr82=>((r82.1).asSl).bind λs83=>(if aq r80.2 r82.2 then ((Hp.new r82.2 [(.sl s83)]).bind λH84=>(Sl.row H84 (⟨some (r82.2.length,0),1,.ex 1⟩:Sl) 1).bind λxs86=>(Hp.app H84 1 24 s81 (⟨some (r82.2.length,0),1,.ex 1⟩:Sl).n xs86).bind λa85=>(Hp.st a85.2 sP (sQ+2) (.sl a85.1)).bind λH87=>some ((.tup []),H87)) else none)
def bB.twX (az:Bx) (cO:Bu) (aD:Bx) (aO:Bu) (cI:Bx) (aA:BC) (aa:Nat) (ap:Nat) (ak:Int) (H:Hp):OA:=(Hp.ldI H .i64 aa ap).bind λn4=>(az n4 H).bind λr5=>((r5.1).asSl).bind λs6=>(bif (decide (ak<0)) then ((Hp.ldSl r5.2 aa (ap+2)).bind λs7=>bB.l105 F az cO aD aO cI aA F aa ap ak s7 (s7.n:Int) 0 r5.2) else (bB.j3 F az cO aD aO cI aA aa ap ak s6 r5.2))
def bB.tw:=bB.twX F (aG.tw F) (aN.tw F) (bE.tw F) (aF.tw F) (ci.tw F) (bd.tw F)
def bB.lh105 (az:Bx) (cO:Bu) (aD:Bx) (aO:Bu) (cI:Bx) (aA:BC) (ks:BA) (n:Nat) (tm:Tm) (H:Hp):OA:=match ks,tm 0,tm 1,tm 18,tm 19,tm 20 with
 | [],(.ptr kJ kK),(.int .i64 dX),(.sl mF),(.int .i64 mG),(.int .i64 jF)=>bB.l105 F az cO aD aO cI aA n kJ kK dX mF mG jF H
 | _,_,_,_,_,_=>none
def bB.lh (az:Bx) (cO:Bu) (aD:Bx) (aO:Bu) (cI:Bx) (aA:BC) (p:Nat) (ks:BA) (n:Nat) (tm:Tm) (H:Hp):OA:=bif p.beq 105 then bB.lh105 F az cO aD aO cI aA ks n tm H else (none)
def bB.pn:Nat->List Nat:=cR [(5,[8]),(11,[8,11])]
def bB.tb:Nat->List (List Nat):=cR [(5,[[],[0],[0,1],[0,1,2],[],[],[5],[0,1,2,3,4,5,6],[0,1,2,3,4,5,6,7]]),(11,[[],[],[1],[1,2],[1,2,3],[],[5],[5,6],[1,2,3,4,5,6,7],[0,1,2,3,4,5,6,7,8],[0,1,2,3,4,5,6,7,8,9],[0,1,2,3,4,5,6,7,8,9,10]])]
def bB.cs (F:Nat) (az:Bx) (cO:Bu) (aD:Bx) (aO:Bu) (cI:Bx) (aA:BC):Cs:=[(125,mk8 az),(185,mk0 cO),(186,mk8 aD),(126,mk0 aO),(87,mk8 cI),(117,mk9 aA)]
theorem bB.loops (az:Bx) (cO:Bu) (aD:Bx) (aO:Bu) (cI:Bx) (aA:BC):LO (bi (bB.cs F az cO aD aO cI aA)) bB.pn (bB.lh F az cO aD aO cI aA) F Try.f153:=
 (ac.rt (ac.lt (ac.rt (ac.cond (ac.lt (ac.rt (ac.block (ac.la (λn tm H r h=>by change bB.lh105 F az cO aD aO cI aA [] n tm H=_ at h;unfold bB.lh105 at h;split at h;have e:cq tm [(0,_),(1,_),(18,_),(19,_),(20,_)]:=⟨‹_›,‹_›,‹_›,‹_›,‹_›,trivial⟩;obtain _ | k105:=n;cases h;exact ⟨_,rfl,by rw [<- cC e];exact Eq.trans (by kernel_rfl) h⟩;cases h) λk105=>ac.no)))) ac.no))))
theorem bB.eqX (az:Bx) (cO:Bu) (aD:Bx) (aO:Bu) (cI:Bx) (aA:BC) (aa:Nat) (ap:Nat) (ak:Int) (H:Hp):EX (bi (bB.cs F az cO aD aO cI aA)) bB.pn (bB.lh F az cO aD aO cI aA) F Try.f153 [(.ptr aa ap),(.int .i64 ak)] H=bB.twX F az cO aD aO cI aA aa ap ak H:=by kernel_rfl
theorem bB.k:Ok Try.prog 153 (mk1 (bB.tw F)):=by
 intro args H v H' h
 unfold mk1 at h
 split at h
 ·exact okT (TB:=bB.tb) Try.func153 (aY (aG.k F) (aY (aN.k F) (aY (bE.k F) (aY (aF.k F) (aY (ci.k F) (aY (bd.k F) bT)))))) (bB.loops F (aG.tw F) (aN.tw F) (bE.tw F) (aF.tw F) (ci.tw F) (bd.tw F)) ((bB.eqX F (aG.tw F) (aN.tw F) (bE.tw F) (aF.tw F) (ci.tw F) (bd.tw F) _ _ _ H).trans h) (by kernel_rfl)
 ·cases h
def ah.j6 (F:Nat) (aO:Bu) (ar:Bu) (aA:BC) (C29_:BM) (wq:Sl) (wu:Sl) (jG:Bool) (jH:Bool) (H148:Hp):OA:=C29_ wq wu jG jH H148
def ah.j7 (aO:Bu) (ar:Bu) (aA:BC) (C29_:BM) (wv:Sl) (ww:Sl) (jI:Bool) (jJ:Bool) (H138:Hp):OA:=ah.j6 F aO ar aA C29_ wv ww jI jJ H138
def ah.j8 (F:Nat) (aO:Bu) (ar:Bu) (aA:BC) (C943_:BU) (wx:Sl) (wy:Sl) (jK:Bool) (jL:Bool) (oJ:Sl) (jN:Int) (H174:Hp):OA:=C943_ wx wy jK jL oJ (wrap .i64 (jN+1)) H174
def ah.l943 (F:Nat) (aO:Bu) (ar:Bu) (aA:BC) (C29_:BM):Nat->Sl->Sl->Bool->Bool->Sl->Int->Hp->OA
 | 0,_,_,_,_,_,_,_=>none
 | oK+1,gT,fU,eA,eB,fV,ct,H102=>(ar gT H102).bind λr149=>((r149.1).asI .i64).bind λn150=>(bif (decide (ct<n150)) then ((Sl.idx fU (wrap .i64 (ct - 1)) 1).bind λp151=>(Hp.ldI r149.2 .i64 p151.1 p151.2).bind λn152=>(Sl.idx fU ct 1).bind λp153=>(Hp.ldI r149.2 .i64 p153.1 p153.2).bind λn154=>(bif (decide (n152>n154)) then ((Sl.idx fV (wrap .i64 (ct - 1)) 1).bind λp155=>(Hp.ldI r149.2 .i64 p155.1 p155.2).bind λn156=>(Sl.idx fV ct 1).bind λp157=>(Hp.ldI r149.2 .i64 p157.1 p157.2).bind λn158=>(bif (decide (n156<n158)) then ((aA fU ct r149.2).bind λr159=>(aA fV ct r159.2).bind λr160=>(aO fV r160.2).bind λr161=>((r161.1).asSl).bind λs162=>(Hp.cpy r161.2 1 gT s162).bind λc163=>ah.j8 F aO ar aA (ah.l943 F aO ar aA C29_ oK) gT fU true true fV ct c163.2) else (ah.j8 F aO ar aA (ah.l943 F aO ar aA C29_ oK) gT fU eA eB fV ct r149.2))) else (ah.l943 F aO ar aA C29_ oK gT fU eA eB fV (wrap .i64 (ct+1)) r149.2))) else (ah.j7 F aO ar aA C29_ gT fU eA eB r149.2))
def ah.l29 (F:Nat) (aO:Bu) (ar:Bu) (aA:BC) :Nat->Sl->Sl->Bool->Bool->Hp->OA
 | 0,_,_,_,_,_=>none
 | da+1,dc,eC,fm,fW,H8=>(bif fW then ((aO dc H8).bind λr92=>((r92.1).asSl).bind λs93=>ah.l943 F aO ar aA (ah.l29 F aO ar aA da) F dc eC fm false s93 1 r92.2) else (some ((.bool fm),H8)))
def ah.twX (aO:Bu) (ar:Bu) (aA:BC) (aa:Sl) (ag:Sl) (H:Hp):OA:=ah.l29 F aO ar aA F aa ag false true H
def ah.tw:=ah.twX F (aF.tw F) (aZ.tw F) (bd.tw F)
def ah.lh29 (aO:Bu) (ar:Bu) (aA:BC) (ks:BA) (n:Nat) (tm:Tm) (H:Hp):OA:=match ks,tm 0,tm 1,tm 5,tm 6 with
 | [],(.sl dc),(.sl eC),(.bool fm),(.bool fW)=>ah.l29 F aO ar aA n dc eC fm fW H
 | _,_,_,_,_=>none
def ah.lh943 (aO:Bu) (ar:Bu) (aA:BC) (ks:BA) (n:Nat) (tm:Tm) (H:Hp):OA:=match ks,tm 0,tm 1,tm 5,tm 6,tm 7,tm 8 with
 | [da],(.sl gT),(.sl fU),(.bool eA),(.bool eB),(.sl fV),(.int .i64 ct)=>ah.l943 F aO ar aA (ah.l29 F aO ar aA da) n gT fU eA eB fV ct H
 | _,_,_,_,_,_,_=>none
def ah.lh (aO:Bu) (ar:Bu) (aA:BC) (p:Nat) (ks:BA) (n:Nat) (tm:Tm) (H:Hp):OA:=bif p.beq 943 then ah.lh943 F aO ar aA ks n tm H else (bif p.beq 29 then ah.lh29 F aO ar aA ks n tm H else (none))
def ah.tb:Nat->List (List Nat):=cR [(9,[[],[],[1],[0,1,2],[0,1,2,3],[],[],[5,6],[5,6,7],[0,1,2,3,4,5,6,7,8],[0,1,2,3,4,5,6,7,8,9],[0,1,2,3,4,5,6,7,8,9,10],[0,1,2,3,4,5,6,7,8,9,10],[0,1,2,3,4,5,6,7,8,9,10,12],[0,1,2,3,4,5,6,7,8,9,10,11,12,13],[0,1,2,3,4,5,6,7,8,9,10,11,12,13,14],[0,1,2,3,4,5,6,7,8,9,10],[0,1,2,3,4,5,6,7,8,9,10],[0,1,2,3,4,5,6,7,8,9,10,16,17],[0,1,2,3,4,5,6,7,8,9,10,16,17,18],[0,1,2,3,4,5,6,7,8,9,10,11,12,13,14,15,16,17,18,19],[0,1,2,3,4,5,6,7,8,9,10,11,12,13,14,15,16,17,18,19,20]])]
def mk10 (g:Bz) (args:BG) (H:Hp):OA:=match args with
 | [(.sl aa),(.sl ag)]=>g aa ag H
 | _=>none
theorem mk10_E (g:Bz) (aa:Sl) (ag:Sl) (H:Hp):mk10 g [(.sl aa),(.sl ag)] H=g aa ag H:=rfl
def ah.cs (F:Nat) (aO:Bu) (ar:Bu) (aA:BC):Cs:=[(126,mk0 aO),(113,mk0 ar),(117,mk9 aA)]
theorem ah.loops (aO:Bu) (ar:Bu) (aA:BC):LO (bi (ah.cs F aO ar aA)) aT (ah.lh F aO ar aA) F Try.f187:=
 (ac.rt (ac.rt (ac.lt (ac.rt (ac.block (ac.la (λn tm H r h=>by change ah.lh29 F aO ar aA [] n tm H=_ at h;unfold ah.lh29 at h;split at h;have e:cq tm [(0,_),(1,_),(5,_),(6,_)]:=⟨‹_›,‹_›,‹_›,‹_›,trivial⟩;obtain _ | k29:=n;cases h;exact ⟨_,rfl,by rw [<- cC e];exact Eq.trans (by kernel_rfl) h⟩;cases h) λk29=>(ac.rt (ac.block (ac.rt (ac.rt (ac.rt (ac.block (ac.la (λn tm H r h=>by change ah.lh943 F aO ar aA [k29] n tm H=_ at h;unfold ah.lh943 at h;split at h;have e:cq tm [(0,_),(1,_),(5,_),(6,_),(7,_),(8,_)]:=⟨‹_›,‹_›,‹_›,‹_›,‹_›,‹_›,trivial⟩;cases (show [k29]=_ from ‹_›);obtain _ | k943:=n;cases h;exact ⟨_,rfl,by rw [<- cC e];exact Eq.trans (by kernel_rfl) h⟩;cases h) λk943=>ac.no)))))))))))))
theorem ah.eqX (aO:Bu) (ar:Bu) (aA:BC) (aa:Sl) (ag:Sl) (H:Hp):EX (bi (ah.cs F aO ar aA)) aT (ah.lh F aO ar aA) F Try.f187 [(.sl aa),(.sl ag)] H=ah.twX F aO ar aA aa ag H:=by kernel_rfl
theorem ah.k:Ok Try.prog 187 (mk10 (ah.tw F)):=by
 intro args H v H' h
 unfold mk10 at h
 split at h
 ·exact okT (TB:=ah.tb) Try.func187 (aY (aF.k F) (aY (aZ.k F) (aY (bd.k F) bT))) (ah.loops F (aF.tw F) (aZ.tw F) (bd.tw F)) ((ah.eqX F (aF.tw F) (aZ.tw F) (bd.tw F) _ _ H).trans h) (by kernel_rfl)
 ·cases h
def aL.l29 (F:Nat) :Nat->Sl->Sl->Int->Int->Hp->OA
 | 0,_,_,_,_,_=>none
 | da+1,dc,eC,fo,dY,H9=>(bif (decide (dY<fo)) then ((Sl.idx dc dY 1).bind λp14=>(Hp.ldI H9 .i64 p14.1 p14.2).bind λn15=>(Sl.idx eC dY 1).bind λp16=>(Hp.ldI H9 .i64 p16.1 p16.2).bind λn17=>(bif (n15 != n17) then (some ((.bool false),H9)) else (aL.l29 F da dc eC fo (wrap .i64 (dY+1)) H9))) else (some ((.bool true),H9)))
def aL.twX (aa:Sl) (ag:Sl) (H:Hp):OA:=(bif ((aa.n:Int) != (ag.n:Int)) then (some ((.bool false),H)) else (aL.l29 F F aa ag (aa.n:Int) 0 H))
def aL.tw:=aL.twX F
def aL.lh29 (ks:BA) (n:Nat) (tm:Tm) (H:Hp):OA:=match ks,tm 0,tm 1,tm 12,tm 13 with
 | [],(.sl dc),(.sl eC),(.int .i64 fo),(.int .i64 dY)=>aL.l29 F n dc eC fo dY H
 | _,_,_,_,_=>none
def aL.lh (p:Nat) (ks:BA) (n:Nat) (tm:Tm) (H:Hp):OA:=bif p.beq 29 then aL.lh29 F ks n tm H else (none)
def aL.tb:Nat->List (List Nat):=cR [(6,[[],[],[0,1],[0,1,2],[],[],[4,5],[4,5,6],[0,1,2,3,4,5,6,7]])]
theorem aL.loops:LO (bi []) aT (aL.lh F) F Try.f100:=
 (ac.rt (ac.rt (ac.lt (ac.rt (ac.block (ac.la (λn tm H r h=>by change aL.lh29 F [] n tm H=_ at h;unfold aL.lh29 at h;split at h;have e:cq tm [(0,_),(1,_),(12,_),(13,_)]:=⟨‹_›,‹_›,‹_›,‹_›,trivial⟩;obtain _ | k29:=n;cases h;exact ⟨_,rfl,by rw [<- cC e];exact Eq.trans (by kernel_rfl) h⟩;cases h) λk29=>ac.no))))))
theorem aL.k:Ok Try.prog 100 (mk10 (aL.tw F)):=by
 intro args H v H' h
 unfold mk10 at h
 split at h
 ·exact okT (PN:=aT) (LH:=(aL.lh F)) (F:=F) (TB:=aL.tb) Try.func100 bT (aL.loops F) (Eq.trans (by kernel_rfl) h) (by kernel_rfl)
 ·cases h
def aE.j6 (F:Nat) (bx:Bz) (az:Bx) (aD:Bx) (aH:Bz) (C125_:BV) (wz:Nat) (wA:Nat) (wB:Sl) (wC:Sl) (oJ:Nat) (wD:Nat) (wE:Sl) (wF:Int) (wG:Int) (H178:Hp):OA:=C125_ wz wA wB wC oJ wD wE wF (wrap .i64 (wG+1)) H178
def aE.j7 (F:Nat) (bx:Bz) (az:Bx) (aD:Bx) (aH:Bz) (C125_:BV) (wH:Nat) (wI:Nat) (wJ:Sl) (wK:Sl) (wL:Nat) (wM:Nat) (wN:Sl) (wO:Int) (wP:Int) (H218:Hp):OA:=C125_ wH wI wJ wK wL wM wN wO (wrap .i64 (wP+1)) H218
def aE.j8 (bx:Bz) (az:Bx) (aD:Bx) (aH:Bz) (C125_:BV) (wQ:Nat) (wR:Nat) (wS:Sl) (wT:Sl) (wU:Nat) (wV:Nat) (wW:Sl) (wX:Int) (wY:Int) (H200:Hp):OA:=aE.j7 F bx az aD aH C125_ wQ wR wS wT wU wV wW wX wY H200
def aE.l125 (F:Nat) (bx:Bz) (az:Bx) (aD:Bx) (aH:Bz) :Nat->Nat->Nat->Sl->Sl->Nat->Nat->Sl->Int->Int->Hp->OA
 | 0,_,_,_,_,_,_,_,_,_,_=>none
 | kL+1,fX,fY,jO,jP,fp,fq,jQ,jR,iD,H85=>(bif (decide (iD<jR)) then ((Sl.idx jQ iD 1).bind λp158=>(Hp.ldSl H85 p158.1 p158.2).bind λs159=>(aH s159 jO H85).bind λr160=>((r160.1).asB).bind λb161=>(bif b161 then (aE.j6 F bx az aD aH (aE.l125 F bx az aD aH kL) fX fY jO jP fp fq jQ jR iD r160.2) else ((aH s159 jP r160.2).bind λr179=>((r179.1).asB).bind λb180=>(bif b180 then ((Hp.ldI r179.2 .i64 fp fq).bind λn181=>(Hp.st r179.2 fp fq (.int .i64 (wrap .i64 (n181+1)))).bind λH182=>aE.j8 F bx az aD aH (aE.l125 F bx az aD aH kL) fX fY jO jP fp fq jQ jR iD H182) else ((Hp.ldSl r179.2 fp (fq+1)).bind λs219=>(Hp.new r179.2 [(.sl s159)]).bind λH220=>(Sl.row H220 (⟨some (r179.2.length,0),1,.ex 1⟩:Sl) 1).bind λxs222=>(Hp.app H220 1 24 s219 (⟨some (r179.2.length,0),1,.ex 1⟩:Sl).n xs222).bind λa221=>(Hp.st a221.2 fp (fq+1) (.sl a221.1)).bind λH223=>aE.j8 F bx az aD aH (aE.l125 F bx az aD aH kL) fX fY jO jP fp fq jQ jR iD H223))))) else ((Hp.ldI H85 .i64 fp fq).bind λn224=>(Hp.ldSl H85 fp (fq+1)).bind λs225=>(Hp.st H85 fX fY (.int .i64 n224)).bind λH226=>(Hp.st H226 fX (fY+1) (.sl s225)).bind λH227=>(Hp.ldI H227 .i64 fX fY).bind λn228=>(Hp.ldSl H227 fX (fY+1)).bind λs229=>some ((.agg [(.int .i64 n228),(.sl s229)]),H227)))
termination_by structural n=>n
def aE.j9 (bx:Bz) (az:Bx) (aD:Bx) (aH:Bz) (mH:Nat) (mI:Nat) (wZ:Nat) (w_:Nat) (H60:Hp):OA:=(Hp.ldI H60 .i64 mH mI).bind λn61=>(az n61 H60).bind λr62=>((r62.1).asSl).bind λs63=>(if aq H60 r62.2 then ((Hp.ldI r62.2 .i64 mH mI).bind λn64=>(aD n64 r62.2).bind λr65=>((r65.1).asSl).bind λs66=>(Hp.ldI r65.2 .i64 mH (mI+1)).bind λn67=>(Hp.new r65.2 [.int .i64 0,.sl ⟨none,0,.ex 0⟩]).bind λH68=>(Hp.st H68 r65.2.length 0 (.int .i64 n67)).bind λH69=>(Hp.st H69 r65.2.length (0+1) (.sl (⟨none,0,.ex 0⟩:Sl))).bind λH70=>(Hp.ldSl H70 mH (mI+2)).bind λs71=>aE.l125 F bx az aD aH F wZ w_ s63 s66 r65.2.length 0 s71 (s71.n:Int) 0 H70) else none)
def aE.j10 (F:Nat) (bx:Bz) (az:Bx) (aD:Bx) (aH:Bz) (C13_:BW) (xa:Nat) (xb:Nat) (xc:Nat) (xd:Nat) (xe:Bool) (H264:Hp):OA:=C13_ xa xb xc xd xe H264
def aE.j11 (bx:Bz) (az:Bx) (aD:Bx) (aH:Bz) (C13_:BW) (xf:Nat) (xg:Nat) (xh:Nat) (xi:Nat) (xj:Bool) (H255:Hp):OA:=aE.j10 F bx az aD aH C13_ xf xg xh xi xj H255
def aE.l215 (F:Nat) (bx:Bz) (az:Bx) (aD:Bx) (aH:Bz) (C13_:BW):Nat->Nat->Nat->Nat->Nat->Bool->Int->Hp->OA
 | 0,_,_,_,_,_,_,_=>none
 | sR+1,gU,gV,kM,kN,mJ,iE,H237=>(Hp.ldSl H237 gU (gV+2)).bind λs265=>(bif (decide (iE<(s265.n:Int))) then ((Hp.ldSl H237 gU (gV+2)).bind λs266=>(Sl.idx s266 (wrap .i64 (iE - 1)) 1).bind λp267=>(Hp.ldSl H237 p267.1 p267.2).bind λs268=>(Hp.ldSl H237 gU (gV+2)).bind λs269=>(Sl.idx s269 iE 1).bind λp270=>(Hp.ldSl H237 p270.1 p270.2).bind λs271=>(bx s268 s271 H237).bind λr272=>((r272.1).asB).bind λb273=>(bif b273 then (aE.l215 F bx az aD aH C13_ sR gU gV kM kN true (wrap .i64 (iE+1)) r272.2) else (aE.l215 F bx az aD aH C13_ sR gU gV kM kN mJ (wrap .i64 (iE+1)) r272.2))) else (aE.j11 F bx az aD aH C13_ gU gV kM kN mJ H237))
termination_by structural n=>n
def aE.l13 (F:Nat) (bx:Bz) (az:Bx) (aD:Bx) (aH:Bz) :Nat->Nat->Nat->Nat->Nat->Bool->Hp->OA
 | 0,_,_,_,_,_,_=>none
 | iC+1,eo,mK,mL,mM,oM,H9=>(bif oM then (aE.l215 F bx az aD aH (aE.l13 F bx az aD aH iC) F eo mK mL mM false 1 H9) else (aE.j9 F bx az aD aH eo mK mL mM H9))
termination_by structural n=>n
def aE.twX (bx:Bz) (az:Bx) (aD:Bx) (aH:Bz) (aa:Nat) (ap:Nat) (H:Hp):OA:=(Hp.new H [.int .i64 0,.sl ⟨none,0,.ex 0⟩]).bind λH3=>aE.l13 F bx az aD aH F aa ap H.length 0 true H3
def aE.tw:=aE.twX F (ah.tw F) (aG.tw F) (bE.tw F) (aL.tw F)
def aE.lh13 (bx:Bz) (az:Bx) (aD:Bx) (aH:Bz) (ks:BA) (n:Nat) (tm:Tm) (H:Hp):OA:=match ks,tm 0,tm 2,tm 3 with
 | [],(.ptr eo mK),(.ptr mL mM),(.bool oM)=>aE.l13 F bx az aD aH n eo mK mL mM oM H
 | _,_,_,_=>none
def aE.lh125 (bx:Bz) (az:Bx) (aD:Bx) (aH:Bz) (ks:BA) (n:Nat) (tm:Tm) (H:Hp):OA:=match ks,tm 2,tm 5,tm 6,tm 7,tm 57,tm 58,tm 59 with
 | [],(.ptr fX fY),(.sl jO),(.sl jP),(.ptr fp fq),(.sl jQ),(.int .i64 jR),(.int .i64 iD)=>aE.l125 F bx az aD aH n fX fY jO jP fp fq jQ jR iD H
 | _,_,_,_,_,_,_,_=>none
def aE.lh215 (bx:Bz) (az:Bx) (aD:Bx) (aH:Bz) (ks:BA) (n:Nat) (tm:Tm) (H:Hp):OA:=match ks,tm 0,tm 2,tm 3,tm 4 with
 | [iC],(.ptr gU gV),(.ptr kM kN),(.bool mJ),(.int .i64 iE)=>aE.l215 F bx az aD aH (aE.l13 F bx az aD aH iC) n gU gV kM kN mJ iE H
 | _,_,_,_,_=>none
def aE.lh (bx:Bz) (az:Bx) (aD:Bx) (aH:Bz) (p:Nat) (ks:BA) (n:Nat) (tm:Tm) (H:Hp):OA:=bif p.beq 215 then aE.lh215 F bx az aD aH ks n tm H else (bif p.beq 125 then aE.lh125 F bx az aD aH ks n tm H else (bif p.beq 13 then aE.lh13 F bx az aD aH ks n tm H else (none)))
def aE.pn:Nat->List Nat:=cR [(7,[15]),(8,[9])]
def aE.tb:Nat->List (List Nat):=cR [(7,[[],[0],[0,1],[0,1,2],[],[4],[0,1,2,3,4,5],[0,1,2,3,4,5,6],[],[8],[8,9],[8,9,10],[],[8,9,10,11,12],[8,9,10,11,12,13],[0,1,2,3,4,5,6,7,8,9,10,11,12,13,14],[0,1,2,3,4,5,6,7,8,9,10,11,12,13,14,15],[0,1,2,3,4,5,6,7,8,9,10,11,12,13,14,15,16],[0,1,2,3,4,5,6,7,8,9,10,11,12,13,14,15,16,17],[0,1,2,3,4,5,6,7,8,9,10,11,12,13,14,15,16,17,18]]),(8,[[],[0],[0,1],[0,1,2],[0,1,2,3],[],[5],[5,6],[5,6,7],[0,1,2,3,4,5,6,7,8],[0,1,2,3,4,5,6,7,8,9],[0,1,2,3,4,5,6,7,8,9,10]])]
def aE.cs (F:Nat) (bx:Bz) (az:Bx) (aD:Bx) (aH:Bz):Cs:=[(187,mk10 bx),(125,mk8 az),(186,mk8 aD),(100,mk10 aH)]
theorem aE.loops (bx:Bz) (az:Bx) (aD:Bx) (aH:Bz):LO (bi (aE.cs F bx az aD aH)) aE.pn (aE.lh F bx az aD aH) F Try.f154:=
 (ac.rt (ac.seq (ac.rt (ac.block (ac.la (λn tm H r h=>by change aE.lh13 F bx az aD aH [] n tm H=_ at h;unfold aE.lh13 at h;split at h;have e:cq tm [(0,_),(2,_),(3,_)]:=⟨‹_›,‹_›,‹_›,trivial⟩;obtain _ | k13:=n;cases h;exact ⟨_,rfl,by rw [<- cC e];exact Eq.trans (by kernel_rfl) h⟩;cases h) λk13=>(ac.rt (ac.block (ac.rt (ac.rt (ac.block (ac.la (λn tm H r h=>by change aE.lh215 F bx az aD aH [k13] n tm H=_ at h;unfold aE.lh215 at h;split at h;have e:cq tm [(0,_),(2,_),(3,_),(4,_)]:=⟨‹_›,‹_›,‹_›,‹_›,trivial⟩;cases (show [k13]=_ from ‹_›);obtain _ | k215:=n;cases h;exact ⟨_,rfl,by rw [<- cC e];exact Eq.trans (by kernel_rfl) h⟩;cases h) λk215=>ac.no))))))))) (ac.rt (ac.rt (ac.lt (ac.rt (ac.block (ac.la (λn tm H r h=>by change aE.lh125 F bx az aD aH [] n tm H=_ at h;unfold aE.lh125 at h;split at h;have e:cq tm [(2,_),(5,_),(6,_),(7,_),(57,_),(58,_),(59,_)]:=⟨‹_›,‹_›,‹_›,‹_›,‹_›,‹_›,‹_›,trivial⟩;obtain _ | k125:=n;cases h;exact ⟨_,rfl,by rw [<- cC e];exact Eq.trans (by kernel_rfl) h⟩;cases h) λk125=>ac.no))))))))
theorem aE.eqX (bx:Bz) (az:Bx) (aD:Bx) (aH:Bz) (aa:Nat) (ap:Nat) (H:Hp):EX (bi (aE.cs F bx az aD aH)) aE.pn (aE.lh F bx az aD aH) F Try.f154 [(.ptr aa ap)] H=aE.twX F bx az aD aH aa ap H:=by kernel_rfl
theorem aE.k:Ok Try.prog 154 (mk2 (aE.tw F)):=by
 intro args H v H' h
 unfold mk2 at h
 split at h
 ·exact okT (TB:=aE.tb) Try.func154 (aY (ah.k F) (aY (aG.k F) (aY (bE.k F) (aY (aL.k F) bT)))) (aE.loops F (ah.tw F) (aG.tw F) (bE.tw F) (aL.tw F)) ((aE.eqX F (ah.tw F) (aG.tw F) (bE.tw F) (aL.tw F) _ _ H).trans h) (by kernel_rfl)
 ·cases h
def bp.l29 (F:Nat) (dv:BE) (dw:BH) :Nat->Nat->Nat->Nat->Nat->Sl->Int->Int->Hp->OA
 | 0,_,_,_,_,_,_,_,_=>none
 | da+1,iF,iG,di,kO,mN,mO,kP,H19=>(bif (decide (kP<mO)) then ((Sl.idx mN kP 1).bind λp33=>(Hp.ldI H19 .i64 p33.1 p33.2).bind λn34=>(dv di kO n34 H19).bind λr35=>bp.l29 F dv dw da iF iG di kO mN mO (wrap .i64 (kP+1)) r35.2) else ((dw di kO H19).bind λr36=>((r36.1).asAgg 2).bind λl37=>(l37[0]?).bind λv38=>((v38).asI .i64).bind λn39=>(l37[1]?).bind λv40=>((v40).asSl).bind λs41=>(Hp.st r36.2 iF iG (.int .i64 n39)).bind λH42=>(Hp.st H42 iF (iG+1) (.sl s41)).bind λH43=>(Hp.ldI H43 .i64 iF iG).bind λn44=>(Hp.ldSl H43 iF (iG+1)).bind λs45=>some ((.agg [(.int .i64 n44),(.sl s45)]),H43)))
termination_by structural n=>n
def bp.twX (dv:BE) (dw:BH) (aa:Int) (ap:Sl) (H:Hp):OA:=(Hp.new H [(.int .i64 aa),(.sl ap)]).bind λH3=>(Hp.new H3 [.int .i64 0,.sl ⟨none,0,.ex 0⟩]).bind λH4=>(Hp.ldI H4 .i64 H.length 0).bind λn5=>(Hp.new H4 [(.int .i64 n5),(.int .i64 0),(.sl (⟨none,0,.ex 0⟩:Sl))]).bind λH6=>(Hp.ldSl H6 H.length 1).bind λs7=>bp.l29 F dv dw F H3.length 0 H4.length 0 s7 (s7.n:Int) 0 H6
def bp.tw:=bp.twX F (bB.tw F) (aE.tw F)
def bp.lh29 (dv:BE) (dw:BH) (ks:BA) (n:Nat) (tm:Tm) (H:Hp):OA:=match ks,tm 2,tm 3,tm 11,tm 12,tm 13 with
 | [],(.ptr iF iG),(.ptr di kO),(.sl mN),(.int .i64 mO),(.int .i64 kP)=>bp.l29 F dv dw n iF iG di kO mN mO kP H
 | _,_,_,_,_,_=>none
def bp.lh (dv:BE) (dw:BH) (p:Nat) (ks:BA) (n:Nat) (tm:Tm) (H:Hp):OA:=bif p.beq 29 then bp.lh29 F dv dw ks n tm H else (none)
def bp.cs (F:Nat) (dv:BE) (dw:BH):Cs:=[(153,mk1 dv),(154,mk2 dw)]
theorem bp.loops (dv:BE) (dw:BH):LO (bi (bp.cs F dv dw)) aT (bp.lh F dv dw) F Try.f97:=
 (ac.rt (ac.rt (ac.lt (ac.rt (ac.block (ac.la (λn tm H r h=>by change bp.lh29 F dv dw [] n tm H=_ at h;unfold bp.lh29 at h;split at h;have e:cq tm [(2,_),(3,_),(11,_),(12,_),(13,_)]:=⟨‹_›,‹_›,‹_›,‹_›,‹_›,trivial⟩;obtain _ | k29:=n;cases h;exact ⟨_,rfl,by rw [<- cC e];exact Eq.trans (by kernel_rfl) h⟩;cases h) λk29=>ac.no))))))
theorem bp.eqX (dv:BE) (dw:BH) (aa:Int) (ap:Sl) (H:Hp):EX (bi (bp.cs F dv dw)) aT (bp.lh F dv dw) F Try.f97 [(.agg [(.int .i64 aa),(.sl ap)])] H=bp.twX F dv dw aa ap H:=by kernel_rfl
theorem bp.k:Ok Try.prog 97 (mk7 (bp.tw F)):=by
 intro args H v H' h
 unfold mk7 at h
 split at h
 ·exact okT (TB:=aT) Try.func97 (aY (bB.k F) (aY (aE.k F) bT)) (bp.loops F (bB.tw F) (aE.tw F)) ((bp.eqX F (bB.tw F) (aE.tw F) _ _ H).trans h) (by kernel_rfl)
 ·cases h
def bX.twX (F:Nat) (es:Bw) (et:Bw) (aa:Int) (ap:Sl) (H:Hp):OA:=(Hp.new H [(.int .i64 aa),(.sl ap)]).bind λH3=>(Hp.new H3 [.int .i64 0,.sl ⟨none,0,.ex 0⟩]).bind λH4=>(Hp.ldI H4 .i64 H.length 0).bind λn5=>(Hp.ldSl H4 H.length (0+1)).bind λs6=>(es n5 s6 H4).bind λr7=>((r7.1).asB).bind λb8=>(bif (!b8) then ((Hp.st r7.2 H3.length 0 (.int .i64 0)).bind λH9=>(Hp.st H9 H3.length (0+1) (.sl (⟨none,0,.ex 0⟩:Sl))).bind λH10=>(Hp.ldI H10 .i64 H3.length 0).bind λn11=>(Hp.ldSl H10 H3.length (0+1)).bind λs12=>some ((.tup [(.agg [(.int .i64 n11),(.sl s12)]),(.int .i64 1)]),H10)) else ((Hp.ldI r7.2 .i64 H.length 0).bind λn13=>(Hp.ldSl r7.2 H.length (0+1)).bind λs14=>(et n13 s14 r7.2).bind λr15=>((r15.1).asAgg 2).bind λl16=>(l16[0]?).bind λv17=>((v17).asI .i64).bind λn18=>(l16[1]?).bind λv19=>((v19).asSl).bind λs20=>(Hp.st r15.2 H3.length 0 (.int .i64 n18)).bind λH21=>(Hp.st H21 H3.length (0+1) (.sl s20)).bind λH22=>(Hp.ldI H22 .i64 H3.length 0).bind λn23=>(Hp.ldSl H22 H3.length (0+1)).bind λs24=>some ((.tup [(.agg [(.int .i64 n23),(.sl s24)]),(.int .i64 0)]),H22)))
def bX.tw:=bX.twX F (ce.tw F) (bp.tw F)
def bX.cs (F:Nat) (es:Bw) (et:Bw):Cs:=[(96,mk7 es),(97,mk7 et)]
theorem bX.eqX (es:Bw) (et:Bw) (aa:Int) (ap:Sl) (H:Hp):EX (bi (bX.cs F es et)) aT lh0 F Try.f35 [(.agg [(.int .i64 aa),(.sl ap)])] H=bX.twX F es et aa ap H:=by kernel_rfl
theorem bX.k:Ok Try.prog 35 (mk7 (bX.tw F)):=by
 intro args H v H' h
 unfold mk7 at h
 split at h
 ·exact okT (TB:=aT) Try.func35 (aY (ce.k F) (aY (bp.k F) bT)) ac.no ((bX.eqX F (ce.tw F) (bp.tw F) _ _ H).trans h) (by kernel_rfl)
 ·cases h
def cu.twX (F:Nat) (aa:Int) (ag:Int) (dt:Int) (H:Hp):OA:=(bif (decide (aa>=ag)) then (some ((.bool (decide (aa<=dt))),H)) else (some ((.bool false),H)))
def cu.tw:=cu.twX F
theorem cu.k:Ok Try.prog 106 (mk3 (cu.tw F)):=by
 intro args H v H' h
 unfold mk3 at h
 split at h
 ·exact ok0 Try.func106 (Eq.trans (by kernel_rfl) h) (by kernel_rfl) (by kernel_rfl)
 ·cases h
def cv.twX (F:Nat) (cJ:BF) (aa:Int) (ag:Int) (H:Hp):OA:=(bif (aa != 0) then ((cJ aa (wrap .i64 (1 - ag)) (wrap .i64 (ag - 1)) H).bind λr3=>((r3.1).asB).bind λb4=>some ((.bool b4),r3.2)) else (some ((.bool false),H)))
def cv.tw:=cv.twX F (cu.tw F)
def cv.cs (F:Nat) (cJ:BF):Cs:=[(106,mk3 cJ)]
theorem cv.eqX (cJ:BF) (aa:Int) (ag:Int) (H:Hp):EX (bi (cv.cs F cJ)) aT lh0 F Try.f111 [(.int .i64 aa),(.int .i64 ag)] H=cv.twX F cJ aa ag H:=by kernel_rfl
theorem cv.k:Ok Try.prog 111 (mk4 (cv.tw F)):=by
 intro args H v H' h
 unfold mk4 at h
 split at h
 ·exact okT (TB:=aT) Try.func111 (aY (cu.k F) bT) ac.no ((cv.eqX F (cu.tw F) _ _ H).trans h) (by kernel_rfl)
 ·cases h
def aB.l29 (F:Nat) (cJ:BF) (dx:BI) :Nat->Nat->Nat->Int->Hp->OA
 | 0,_,_,_,_=>none
 | da+1,dX,jS,di,H15=>(Hp.ldSl H15 dX (jS+1)).bind λs23=>(bif (decide (di<(s23.n:Int))) then ((Hp.ldSl H15 dX (jS+1)).bind λs24=>(Sl.idx s24 di 1).bind λp25=>(Hp.ldI H15 .i64 p25.1 p25.2).bind λn26=>(Hp.ldI H15 .i64 dX jS).bind λn27=>(dx n26 n27 H15).bind λr28=>((r28.1).asB).bind λb29=>(bif (!b29) then (some ((.bool false),r28.2)) else (aB.l29 F cJ dx da dX jS (wrap .i64 (di+1)) r28.2))) else (some ((.bool true),H15)))
termination_by structural n=>n
def aB.twX (cJ:BF) (dx:BI) (aa:Int) (ap:Sl) (H:Hp):OA:=(Hp.new H [(.int .i64 aa),(.sl ap)]).bind λH3=>(Hp.ldI H3 .i64 H.length 0).bind λn4=>(cJ n4 1 6 H3).bind λr5=>((r5.1).asB).bind λb6=>(bif (!b6) then (some ((.bool false),r5.2)) else ((Hp.ldSl r5.2 H.length 1).bind λs7=>(bif (decide ((s7.n:Int)>24)) then (some ((.bool false),r5.2)) else (aB.l29 F cJ dx F H.length 0 0 r5.2))))
def aB.tw:=aB.twX F (cu.tw F) (cv.tw F)
def aB.lh29 (cJ:BF) (dx:BI) (ks:BA) (n:Nat) (tm:Tm) (H:Hp):OA:=match ks,tm 1,tm 3 with
 | [],(.ptr dX jS),(.int .i64 di)=>aB.l29 F cJ dx n dX jS di H
 | _,_,_=>none
def aB.lh (cJ:BF) (dx:BI) (p:Nat) (ks:BA) (n:Nat) (tm:Tm) (H:Hp):OA:=bif p.beq 29 then aB.lh29 F cJ dx ks n tm H else (none)
def aB.pn:Nat->List Nat:=cR [(6,[7])]
def aB.tb:Nat->List (List Nat):=cR [(6,[[],[0],[],[0,1,2],[0,1,2,3],[],[5],[0,1,2,3,4,5,6],[0,1,2,3,4,5,6,7]])]
def aB.cs (F:Nat) (cJ:BF) (dx:BI):Cs:=[(106,mk3 cJ),(111,mk4 dx)]
theorem aB.loops (cJ:BF) (dx:BI):LO (bi (aB.cs F cJ dx)) aB.pn (aB.lh F cJ dx) F Try.f49:=
 (ac.rt (ac.rt (ac.lt (ac.rt (ac.block (ac.la (λn tm H r h=>by change aB.lh29 F cJ dx [] n tm H=_ at h;unfold aB.lh29 at h;split at h;have e:cq tm [(1,_),(3,_)]:=⟨‹_›,‹_›,trivial⟩;obtain _ | k29:=n;cases h;exact ⟨_,rfl,by rw [<- cC e];exact Eq.trans (by kernel_rfl) h⟩;cases h) λk29=>ac.no))))))
theorem aB.eqX (cJ:BF) (dx:BI) (aa:Int) (ap:Sl) (H:Hp):EX (bi (aB.cs F cJ dx)) aB.pn (aB.lh F cJ dx) F Try.f49 [(.agg [(.int .i64 aa),(.sl ap)])] H=aB.twX F cJ dx aa ap H:=by kernel_rfl
theorem aB.k:Ok Try.prog 49 (mk7 (aB.tw F)):=by
 intro args H v H' h
 unfold mk7 at h
 split at h
 ·exact okT (TB:=aB.tb) Try.func49 (aY (cu.k F) (aY (cv.k F) bT)) (aB.loops F (cu.tw F) (cv.tw F)) ((aB.eqX F (cu.tw F) (cv.tw F) _ _ H).trans h) (by kernel_rfl)
 ·cases h
def aI.j1 (F:Nat) (bh:BF) (ar:Bu) (xk:Sl) (jT:Int) (H28:Hp):OA:=(ar xk H28).bind λr29=>((r29.1).asI .i64).bind λn30=>some ((.bool (n30==jT)),r29.2)
def aI.l29 (F:Nat) (bh:BF) (ar:Bu) :Nat->Sl->Int->Sl->Sl->Int->Int->Hp->OA
 | 0,_,_,_,_,_,_,_=>none
 | da+1,eo,eD,kQ,mP,ft,eE,H11=>(bif (decide (eE<ft)) then ((Sl.idx mP eE 1).bind λp31=>(Hp.ldI H11 .i64 p31.1 p31.2).bind λn32=>(bh n32 0 (wrap .i64 (eD - 1)) H11).bind λr33=>((r33.1).asB).bind λb34=>(bif (!b34) then (some ((.bool false),r33.2)) else ((Sl.idx kQ n32 1).bind λp35=>(Hp.ldB r33.2 p35.1 p35.2).bind λb36=>(bif b36 then (some ((.bool false),r33.2)) else ((Sl.idx kQ n32 1).bind λp37=>(Hp.st r33.2 p37.1 p37.2 (.bool true)).bind λH38=>aI.l29 F bh ar da eo eD kQ mP ft (wrap .i64 (eE+1)) H38))))) else (aI.j1 F bh ar eo eD H11))
def aI.twX (bh:BF) (ar:Bu) (aa:Sl) (ag:Int) (H:Hp):OA:=(Hp.mk H [.bool false] 1 ag ag).bind λm3=>aI.l29 F bh ar F aa ag m3.1 aa (aa.n:Int) 0 m3.2
def aI.tw:=aI.twX F (bH.tw F) (aZ.tw F)
def aI.lh29 (bh:BF) (ar:Bu) (ks:BA) (n:Nat) (tm:Tm) (H:Hp):OA:=match ks,tm 0,tm 1,tm 5,tm 10,tm 11,tm 12 with
 | [],(.sl eo),(.int .i64 eD),(.sl kQ),(.sl mP),(.int .i64 ft),(.int .i64 eE)=>aI.l29 F bh ar n eo eD kQ mP ft eE H
 | _,_,_,_,_,_,_=>none
def aI.lh (bh:BF) (ar:Bu) (p:Nat) (ks:BA) (n:Nat) (tm:Tm) (H:Hp):OA:=bif p.beq 29 then aI.lh29 F bh ar ks n tm H else (none)
def aI.cs (F:Nat) (bh:BF) (ar:Bu):Cs:=[(112,mk3 bh),(113,mk0 ar)]
theorem aI.loops (bh:BF) (ar:Bu):LO (bi (aI.cs F bh ar)) aT (aI.lh F bh ar) F Try.f114:=
 (ac.rt (ac.rt (ac.lt (ac.rt (ac.block (ac.la (λn tm H r h=>by change aI.lh29 F bh ar [] n tm H=_ at h;unfold aI.lh29 at h;split at h;have e:cq tm [(0,_),(1,_),(5,_),(10,_),(11,_),(12,_)]:=⟨‹_›,‹_›,‹_›,‹_›,‹_›,‹_›,trivial⟩;obtain _ | k29:=n;cases h;exact ⟨_,rfl,by rw [<- cC e];exact Eq.trans (by kernel_rfl) h⟩;cases h) λk29=>ac.no))))))
theorem aI.eqX (bh:BF) (ar:Bu) (aa:Sl) (ag:Int) (H:Hp):EX (bi (aI.cs F bh ar)) aT (aI.lh F bh ar) F Try.f114 [(.sl aa),(.int .i64 ag)] H=aI.twX F bh ar aa ag H:=by kernel_rfl
theorem aI.k:Ok Try.prog 114 (mk9 (aI.tw F)):=by
 intro args H v H' h
 unfold mk9 at h
 split at h
 ·exact okT (TB:=aT) Try.func114 (aY (bH.k F) (aY (aZ.k F) bT)) (aI.loops F (bH.tw F) (aZ.tw F)) ((aI.eqX F (bH.tw F) (aZ.tw F) _ _ H).trans h) (by kernel_rfl)
 ·cases h
def db.twX (F:Nat) (aa:Sl) (H:Hp):OA:=(bif (aa.a.isNone) then (some ((.sl (⟨none,0,.ex 0⟩:Sl)),H)) else ((Hp.new H []).bind λH2=>(Sl.row H2 aa 1).bind λxs4=>(Hp.app H2 1 8 (⟨some (H.length,0),0,.ex 0⟩:Sl) aa.n xs4).bind λa3=>some ((.sl a3.1),a3.2)))
def db.tw:=db.twX F
theorem db.k:Ok Try.prog 115 (mk0 (db.tw F)):=by
 intro args H v H' h
 unfold mk0 at h
 split at h
 ·exact ok0 Try.func115 (Eq.trans (by kernel_rfl) h) (by kernel_rfl) (by kernel_rfl)
 ·cases h
def aX.l13 (F:Nat) :Nat->Sl->Int->Hp->OA
 | 0,_,_,_=>none
 | iC+1,er,bm,H5=>(bif (decide (bm<(er.n:Int))) then ((Sl.idx er (wrap .i64 (bm - 1)) 1).bind λp10=>(Hp.ldI H5 .i64 p10.1 p10.2).bind λn11=>(Sl.idx er bm 1).bind λp12=>(Hp.ldI H5 .i64 p12.1 p12.2).bind λn13=>(bif (decide (n11>n13)) then (some ((.int .i64 bm),H5)) else (aX.l13 F iC er (wrap .i64 (bm+1)) H5))) else (some ((.int .i64 0),H5)))
def aX.twX (aa:Sl) (H:Hp):OA:=aX.l13 F F aa 1 H
def aX.tw:=aX.twX F
def aX.lh13 (ks:BA) (n:Nat) (tm:Tm) (H:Hp):OA:=match ks,tm 0,tm 3 with
 | [],(.sl er),(.int .i64 bm)=>aX.l13 F n er bm H
 | _,_,_=>none
def aX.lh (p:Nat) (ks:BA) (n:Nat) (tm:Tm) (H:Hp):OA:=bif p.beq 13 then aX.lh13 F ks n tm H else (none)
def aX.tb:Nat->List (List Nat):=cR [(4,[[],[],[1],[0,1,2],[0,1,2,3],[],[],[5,6],[5,6,7],[0,1,2,3,4,5,6,7,8]])]
theorem aX.loops:LO (bi []) aT (aX.lh F) F Try.f116:=
 (ac.rt (ac.lt (ac.rt (ac.block (ac.la (λn tm H r h=>by change aX.lh13 F [] n tm H=_ at h;unfold aX.lh13 at h;split at h;have e:cq tm [(0,_),(3,_)]:=⟨‹_›,‹_›,trivial⟩;obtain _ | k13:=n;cases h;exact ⟨_,rfl,by rw [<- cC e];exact Eq.trans (by kernel_rfl) h⟩;cases h) λk13=>ac.no)))))
theorem aX.k:Ok Try.prog 116 (mk0 (aX.tw F)):=by
 intro args H v H' h
 unfold mk0 at h
 split at h
 ·exact okT (PN:=aT) (LH:=(aX.lh F)) (F:=F) (TB:=aX.tb) Try.func116 bT (aX.loops F) (Eq.trans (by kernel_rfl) h) (by kernel_rfl)
 ·cases h
def aP.l125 (F:Nat) (ar:Bu) (bh:BF) (dy:BC) (dz:Bu) (dj:Bu) (aA:BC) :Nat->Nat->Nat->Sl->Nat->Nat->Int->Hp->OA
 | 0,_,_,_,_,_,_,_=>none
 | kL+1,fv,iH,kR,fw,iI,dZ,H37=>(bif (decide (dZ>0)) then ((Hp.ldSl H37 fw (iI+1)).bind λs52=>(Hp.new H37 [(.int .i64 dZ)]).bind λH53=>(Sl.row H53 (⟨some (H37.length,0),1,.ex 1⟩:Sl) 1).bind λxs55=>(Hp.app H53 1 8 s52 (⟨some (H37.length,0),1,.ex 1⟩:Sl).n xs55).bind λa54=>(Hp.st a54.2 fw (iI+1) (.sl a54.1)).bind λH56=>(aA kR dZ H56).bind λr57=>(dj kR r57.2).bind λr58=>((r58.1).asI .i64).bind λn59=>aP.l125 F ar bh dy dz dj aA kL fv iH kR fw iI n59 r58.2) else ((Hp.ldI H37 .i64 fw iI).bind λn60=>(Hp.ldSl H37 fw (iI+1)).bind λs61=>(Hp.st H37 fv iH (.int .i64 n60)).bind λH62=>(Hp.st H62 fv (iH+1) (.sl s61)).bind λH63=>(Hp.ldI H63 .i64 fv iH).bind λn64=>(Hp.ldSl H63 fv (iH+1)).bind λs65=>some ((.tup [(.agg [(.int .i64 n64),(.sl s65)]),(.int .i64 0)]),H63)))
termination_by structural n=>n
def aP.twX (ar:Bu) (bh:BF) (dy:BC) (dz:Bu) (dj:Bu) (aA:BC) (aa:Sl) (H:Hp):OA:=(Hp.new H [.int .i64 0,.sl ⟨none,0,.ex 0⟩]).bind λH2=>(ar aa H2).bind λr3=>((r3.1).asI .i64).bind λn4=>(bh n4 1 6 r3.2).bind λr5=>((r5.1).asB).bind λb6=>(bif (!b6) then ((Hp.st r5.2 H.length 0 (.int .i64 0)).bind λH7=>(Hp.st H7 H.length (0+1) (.sl (⟨none,0,.ex 0⟩:Sl))).bind λH8=>(Hp.ldI H8 .i64 H.length 0).bind λn9=>(Hp.ldSl H8 H.length (0+1)).bind λs10=>some ((.tup [(.agg [(.int .i64 n9),(.sl s10)]),(.int .i64 1)]),H8)) else ((ar aa r5.2).bind λr11=>((r11.1).asI .i64).bind λn12=>(dy aa n12 r11.2).bind λr13=>((r13.1).asB).bind λb14=>(bif (!b14) then ((Hp.st r13.2 H.length 0 (.int .i64 0)).bind λH15=>(Hp.st H15 H.length (0+1) (.sl (⟨none,0,.ex 0⟩:Sl))).bind λH16=>(Hp.ldI H16 .i64 H.length 0).bind λn17=>(Hp.ldSl H16 H.length (0+1)).bind λs18=>some ((.tup [(.agg [(.int .i64 n17),(.sl s18)]),(.int .i64 1)]),H16)) else ((dz aa r13.2).bind λr19=>((r19.1).asSl).bind λs20=>(ar aa r19.2).bind λr21=>((r21.1).asI .i64).bind λn22=>(Hp.new r21.2 [.int .i64 0,.sl ⟨none,0,.ex 0⟩]).bind λH23=>(Hp.st H23 r21.2.length 0 (.int .i64 n22)).bind λH24=>(Hp.st H24 r21.2.length (0+1) (.sl (⟨none,0,.ex 0⟩:Sl))).bind λH25=>(dj s20 H25).bind λr26=>((r26.1).asI .i64).bind λn27=>aP.l125 F ar bh dy dz dj aA F H.length 0 s20 r21.2.length 0 n27 r26.2))))
def aP.tw:=aP.twX F (aZ.tw F) (bH.tw F) (aI.tw F) (db.tw F) (aX.tw F) (bd.tw F)
def aP.lh125 (ar:Bu) (bh:BF) (dy:BC) (dz:Bu) (dj:Bu) (aA:BC) (ks:BA) (n:Nat) (tm:Tm) (H:Hp):OA:=match ks,tm 2,tm 4,tm 5,tm 6 with
 | [],(.ptr fv iH),(.sl kR),(.ptr fw iI),(.int .i64 dZ)=>aP.l125 F ar bh dy dz dj aA n fv iH kR fw iI dZ H
 | _,_,_,_,_=>none
def aP.lh (ar:Bu) (bh:BF) (dy:BC) (dz:Bu) (dj:Bu) (aA:BC) (p:Nat) (ks:BA) (n:Nat) (tm:Tm) (H:Hp):OA:=bif p.beq 125 then aP.lh125 F ar bh dy dz dj aA ks n tm H else (none)
def aP.cs (F:Nat) (ar:Bu) (bh:BF) (dy:BC) (dz:Bu) (dj:Bu) (aA:BC):Cs:=[(113,mk0 ar),(112,mk3 bh),(114,mk9 dy),(115,mk0 dz),(116,mk0 dj),(117,mk9 aA)]
theorem aP.loops (ar:Bu) (bh:BF) (dy:BC) (dz:Bu) (dj:Bu) (aA:BC):LO (bi (aP.cs F ar bh dy dz dj aA)) aT (aP.lh F ar bh dy dz dj aA) F Try.f50:=
 (ac.rt (ac.rt (ac.rt (ac.rt (ac.lt (ac.rt (ac.block (ac.la (λn tm H r h=>by change aP.lh125 F ar bh dy dz dj aA [] n tm H=_ at h;unfold aP.lh125 at h;split at h;have e:cq tm [(2,_),(4,_),(5,_),(6,_)]:=⟨‹_›,‹_›,‹_›,‹_›,trivial⟩;obtain _ | k125:=n;cases h;exact ⟨_,rfl,by rw [<- cC e];exact Eq.trans (by kernel_rfl) h⟩;cases h) λk125=>ac.no))))))))
theorem aP.eqX (ar:Bu) (bh:BF) (dy:BC) (dz:Bu) (dj:Bu) (aA:BC) (aa:Sl) (H:Hp):EX (bi (aP.cs F ar bh dy dz dj aA)) aT (aP.lh F ar bh dy dz dj aA) F Try.f50 [(.sl aa)] H=aP.twX F ar bh dy dz dj aA aa H:=by kernel_rfl
theorem aP.k:Ok Try.prog 50 (mk0 (aP.tw F)):=by
 intro args H v H' h
 unfold mk0 at h
 split at h
 ·exact okT (TB:=aT) Try.func50 (aY (aZ.k F) (aY (bH.k F) (aY (aI.k F) (aY (db.k F) (aY (aX.k F) (aY (bd.k F) bT)))))) (aP.loops F (aZ.tw F) (bH.tw F) (aI.tw F) (db.tw F) (aX.tw F) (bd.tw F)) ((aP.eqX F (aZ.tw F) (bH.tw F) (aI.tw F) (db.tw F) (aX.tw F) (bd.tw F) _ H).trans h) (by kernel_rfl)
 ·cases h
def bz.l29 (F:Nat) :Nat->Sl->Sl->Int->Hp->OA
 | 0,_,_,_,_=>none
 | da+1,dc,dq,ck,H7=>(bif (decide (ck>=0)) then ((Sl.idx dc ck 1).bind λp13=>(Hp.ldI H7 .i64 p13.1 p13.2).bind λn14=>(Hp.new H7 [(.int .i64 (wrap .i64 (0 - n14)))]).bind λH15=>(Sl.row H15 (⟨some (H7.length,0),1,.ex 1⟩:Sl) 1).bind λxs17=>(Hp.app H15 1 8 dq (⟨some (H7.length,0),1,.ex 1⟩:Sl).n xs17).bind λa16=>bz.l29 F da dc a16.1 (wrap .i64 (ck - 1)) a16.2) else (some ((.sl dq),H7)))
def bz.twX (aa:Sl) (H:Hp):OA:=(Hp.new H []).bind λH2=>bz.l29 F F aa (⟨some (H.length,0),0,.ex 0⟩:Sl) (wrap .i64 ((aa.n:Int) - 1)) H2
def bz.tw:=bz.twX F
def bz.lh29 (ks:BA) (n:Nat) (tm:Tm) (H:Hp):OA:=match ks,tm 0,tm 3,tm 4 with
 | [],(.sl dc),(.sl dq),(.int .i64 ck)=>bz.l29 F n dc dq ck H
 | _,_,_,_=>none
def bz.lh (p:Nat) (ks:BA) (n:Nat) (tm:Tm) (H:Hp):OA:=bif p.beq 29 then bz.lh29 F ks n tm H else (none)
theorem bz.loops:LO (bi []) aT (bz.lh F) F Try.f118:=
 (ac.rt (ac.rt (ac.lt (ac.rt (ac.block (ac.la (λn tm H r h=>by change bz.lh29 F [] n tm H=_ at h;unfold bz.lh29 at h;split at h;have e:cq tm [(0,_),(3,_),(4,_)]:=⟨‹_›,‹_›,‹_›,trivial⟩;obtain _ | k29:=n;cases h;exact ⟨_,rfl,by rw [<- cC e];exact Eq.trans (by kernel_rfl) h⟩;cases h) λk29=>ac.no))))))
theorem bz.k:Ok Try.prog 118 (mk0 (bz.tw F)):=by
 intro args H v H' h
 unfold mk0 at h
 split at h
 ·exact okT (PN:=aT) (LH:=(bz.lh F)) (F:=F) (TB:=aT) Try.func118 bT (bz.loops F) (Eq.trans (by kernel_rfl) h) (by kernel_rfl)
 ·cases h
def bP.twX (F:Nat) (aQ:Bw) (jU:Bu) (aa:Int) (ap:Sl) (H:Hp):OA:=(Hp.new H [(.int .i64 aa),(.sl ap)]).bind λH3=>(Hp.new H3 [.int .i64 0,.sl ⟨none,0,.ex 0⟩]).bind λH4=>(Hp.ldI H4 .i64 H.length 0).bind λn5=>(Hp.ldSl H4 H.length (0+1)).bind λs6=>(aQ n5 s6 H4).bind λr7=>((r7.1).asB).bind λb8=>(bif (!b8) then ((Hp.st r7.2 H3.length 0 (.int .i64 0)).bind λH9=>(Hp.st H9 H3.length (0+1) (.sl (⟨none,0,.ex 0⟩:Sl))).bind λH10=>(Hp.ldI H10 .i64 H3.length 0).bind λn11=>(Hp.ldSl H10 H3.length (0+1)).bind λs12=>some ((.tup [(.agg [(.int .i64 n11),(.sl s12)]),(.int .i64 1)]),H10)) else ((Hp.ldI r7.2 .i64 H.length 0).bind λn13=>(Hp.ldSl r7.2 H.length 1).bind λs14=>(jU s14 r7.2).bind λr15=>((r15.1).asSl).bind λs16=>(if aq r7.2 r15.2 then ((Hp.st r15.2 H3.length 0 (.int .i64 n13)).bind λH17=>(Hp.st H17 H3.length (0+1) (.sl s16)).bind λH18=>(Hp.ldI H18 .i64 H3.length 0).bind λn19=>(Hp.ldSl H18 H3.length (0+1)).bind λs20=>some ((.tup [(.agg [(.int .i64 n19),(.sl s20)]),(.int .i64 0)]),H18)) else none)))
def bP.tw:=bP.twX F (aB.tw F) (bz.tw F)
def bP.pn:Nat->List Nat:=cR [(3,[6])]
def bP.tb:Nat->List (List Nat):=cR [(3,[[],[0],[],[2],[2,3],[0,1,2,3,4],[0,1,2,3,4,5],[0,1,2,3,4,5,6]])]
def bP.cs (F:Nat) (aQ:Bw) (jU:Bu):Cs:=[(49,mk7 aQ),(118,mk0 jU)]
theorem bP.eqX (aQ:Bw) (jU:Bu) (aa:Int) (ap:Sl) (H:Hp):EX (bi (bP.cs F aQ jU)) bP.pn lh0 F Try.f51 [(.agg [(.int .i64 aa),(.sl ap)])] H=bP.twX F aQ jU aa ap H:=by kernel_rfl
theorem bP.k:Ok Try.prog 51 (mk7 (bP.tw F)):=by
 intro args H v H' h
 unfold mk7 at h
 split at h
 ·exact okT (TB:=bP.tb) Try.func51 (aY (aB.k F) (aY (bz.k F) bT)) ac.no ((bP.eqX F (aB.tw F) (bz.tw F) _ _ H).trans h) (by kernel_rfl)
 ·cases h
def cU.twX (F:Nat) (aa:Int) (ap:Sl) (H:Hp):OA:=(Hp.new H [(.int .i64 aa),(.sl ap)]).bind λH3=>(Hp.new H3 [.int .i64 0,.sl ⟨none,0,.ex 0⟩]).bind λH4=>(Hp.ldI H4 .i64 H.length 0).bind λn5=>(Hp.new H4 []).bind λH6=>(Hp.ldSl H6 H.length 1).bind λs7=>(Sl.row H6 s7 1).bind λxs9=>(Hp.app H6 1 8 (⟨some (H4.length,0),0,.ex 0⟩:Sl) s7.n xs9).bind λa8=>(if aq H6 a8.2 then ((Hp.st a8.2 H3.length 0 (.int .i64 n5)).bind λH10=>(Hp.st H10 H3.length (0+1) (.sl a8.1)).bind λH11=>(Hp.ldI H11 .i64 H3.length 0).bind λn12=>(Hp.ldSl H11 H3.length (0+1)).bind λs13=>some ((.agg [(.int .i64 n12),(.sl s13)]),H11)) else none)
def cU.tw:=cU.twX F
def cU.pn:Nat->List Nat:=cR [(1,[7])]
def cU.tb:Nat->List (List Nat):=cR [(1,[[],[0],[],[],[3],[2,3,4],[0,1,2,3,4,5],[0,1,2,3,4,5,6]])]
theorem cU.k:Ok Try.prog 167 (mk7 (cU.tw F)):=by
 intro args H v H' h
 unfold mk7 at h
 split at h
 ·exact okT (PN:=cU.pn) (LH:=lh0) (F:=F) (TB:=cU.tb) Try.func167 bT ac.no (Eq.trans (by kernel_rfl) h) (by kernel_rfl)
 ·cases h
def cP.twX (F:Nat) (aQ:Bw) (jV:Bw) (aa:Int) (ap:Sl) (ak:Int) (dk:Sl) (H:Hp):OA:=(Hp.new H [(.int .i64 aa),(.sl ap)]).bind λH5=>(Hp.new H5 [(.int .i64 ak),(.sl dk)]).bind λH6=>(Hp.new H6 [.int .i64 0,.sl ⟨none,0,.ex 0⟩]).bind λH7=>(Hp.ldI H7 .i64 H.length 0).bind λn8=>(Hp.ldSl H7 H.length (0+1)).bind λs9=>(aQ n8 s9 H7).bind λr10=>((r10.1).asB).bind λb11=>(bif (!b11) then ((Hp.st r10.2 H6.length 0 (.int .i64 0)).bind λH12=>(Hp.st H12 H6.length (0+1) (.sl (⟨none,0,.ex 0⟩:Sl))).bind λH13=>(Hp.ldI H13 .i64 H6.length 0).bind λn14=>(Hp.ldSl H13 H6.length (0+1)).bind λs15=>some ((.tup [(.agg [(.int .i64 n14),(.sl s15)]),(.int .i64 1)]),H13)) else ((Hp.ldI r10.2 .i64 H5.length 0).bind λn16=>(Hp.ldSl r10.2 H5.length (0+1)).bind λs17=>(aQ n16 s17 r10.2).bind λr18=>((r18.1).asB).bind λb19=>(bif (!b19) then ((Hp.st r18.2 H6.length 0 (.int .i64 0)).bind λH20=>(Hp.st H20 H6.length (0+1) (.sl (⟨none,0,.ex 0⟩:Sl))).bind λH21=>(Hp.ldI H21 .i64 H6.length 0).bind λn22=>(Hp.ldSl H21 H6.length (0+1)).bind λs23=>some ((.tup [(.agg [(.int .i64 n22),(.sl s23)]),(.int .i64 1)]),H21)) else ((Hp.ldI r18.2 .i64 H.length 0).bind λn24=>(Hp.ldI r18.2 .i64 H5.length 0).bind λn25=>(bif (n24 != n25) then ((Hp.st r18.2 H6.length 0 (.int .i64 0)).bind λH26=>(Hp.st H26 H6.length (0+1) (.sl (⟨none,0,.ex 0⟩:Sl))).bind λH27=>(Hp.ldI H27 .i64 H6.length 0).bind λn28=>(Hp.ldSl H27 H6.length (0+1)).bind λs29=>some ((.tup [(.agg [(.int .i64 n28),(.sl s29)]),(.int .i64 1)]),H27)) else ((Hp.ldSl r18.2 H.length 1).bind λs30=>(Hp.ldSl r18.2 H5.length 1).bind λs31=>(bif (decide ((wrap .i64 ((s30.n:Int)+(s31.n:Int)))>24)) then ((Hp.st r18.2 H6.length 0 (.int .i64 0)).bind λH32=>(Hp.st H32 H6.length (0+1) (.sl (⟨none,0,.ex 0⟩:Sl))).bind λH33=>(Hp.ldI H33 .i64 H6.length 0).bind λn34=>(Hp.ldSl H33 H6.length (0+1)).bind λs35=>some ((.tup [(.agg [(.int .i64 n34),(.sl s35)]),(.int .i64 3)]),H33)) else ((Hp.ldI r18.2 .i64 H.length 0).bind λn36=>(Hp.ldSl r18.2 H.length (0+1)).bind λs37=>(jV n36 s37 r18.2).bind λr38=>((r38.1).asAgg 2).bind λl39=>(l39[0]?).bind λv40=>((v40).asI .i64).bind λn41=>(l39[1]?).bind λv42=>((v42).asSl).bind λs43=>(Hp.new r38.2 [.int .i64 0,.sl ⟨none,0,.ex 0⟩]).bind λH44=>(Hp.st H44 r38.2.length 0 (.int .i64 n41)).bind λH45=>(Hp.st H45 r38.2.length (0+1) (.sl s43)).bind λH46=>(Hp.ldSl H46 r38.2.length 1).bind λs47=>(Hp.ldSl H46 H5.length 1).bind λs48=>(Sl.row H46 s48 1).bind λxs50=>(Hp.app H46 1 8 s47 s48.n xs50).bind λa49=>(Hp.st a49.2 r38.2.length 1 (.sl a49.1)).bind λH51=>(Hp.ldI H51 .i64 r38.2.length 0).bind λn52=>(Hp.ldSl H51 r38.2.length (0+1)).bind λs53=>(Hp.st H51 H6.length 0 (.int .i64 n52)).bind λH54=>(Hp.st H54 H6.length (0+1) (.sl s53)).bind λH55=>(Hp.ldI H55 .i64 H6.length 0).bind λn56=>(Hp.ldSl H55 H6.length (0+1)).bind λs57=>some ((.tup [(.agg [(.int .i64 n56),(.sl s57)]),(.int .i64 0)]),H55)))))))))
def cP.tw:=cP.twX F (aB.tw F) (cU.tw F)
def mk11 (g:BD) (args:BG) (H:Hp):OA:=match args with
 | [(.agg [(.int .i64 aa),(.sl ap)]),(.agg [(.int .i64 ak),(.sl dk)])]=>g aa ap ak dk H
 | _=>none
theorem mk11_E (g:BD) (aa:Int) (ap:Sl) (ak:Int) (dk:Sl) (H:Hp):mk11 g [(.agg [(.int .i64 aa),(.sl ap)]),(.agg [(.int .i64 ak),(.sl dk)])] H=g aa ap ak dk H:=rfl
def cP.cs (F:Nat) (aQ:Bw) (jV:Bw):Cs:=[(49,mk7 aQ),(167,mk7 jV)]
theorem cP.eqX (aQ:Bw) (jV:Bw) (aa:Int) (ap:Sl) (ak:Int) (dk:Sl) (H:Hp):EX (bi (cP.cs F aQ jV)) aT lh0 F Try.f119 [(.agg [(.int .i64 aa),(.sl ap)]),(.agg [(.int .i64 ak),(.sl dk)])] H=cP.twX F aQ jV aa ap ak dk H:=by kernel_rfl
theorem cP.k:Ok Try.prog 119 (mk11 (cP.tw F)):=by
 intro args H v H' h
 unfold mk11 at h
 split at h
 ·exact okT (TB:=aT) Try.func119 (aY (aB.k F) (aY (cU.k F) bT)) ac.no ((cP.eqX F (aB.tw F) (cU.tw F) _ _ _ _ H).trans h) (by kernel_rfl)
 ·cases h
def bJ.twX (F:Nat) (jW:BD) (aa:Int) (ap:Sl) (ak:Int) (dk:Sl) (H:Hp):OA:=(Hp.new H [(.int .i64 aa),(.sl ap)]).bind λH5=>(Hp.new H5 [(.int .i64 ak),(.sl dk)]).bind λH6=>(Hp.new H6 [.int .i64 0,.sl ⟨none,0,.ex 0⟩]).bind λH7=>(Hp.ldI H7 .i64 H.length 0).bind λn8=>(Hp.ldSl H7 H.length (0+1)).bind λs9=>(Hp.ldI H7 .i64 H5.length 0).bind λn10=>(Hp.ldSl H7 H5.length (0+1)).bind λs11=>(jW n8 s9 n10 s11 H7).bind λr12=>((r12.1).asTup 2).bind λl13=>(l13[0]?).bind λv14=>((v14).asAgg 2).bind λl15=>(l15[0]?).bind λv16=>((v16).asI .i64).bind λn17=>(l15[1]?).bind λv18=>((v18).asSl).bind λs19=>(l13[1]?).bind λv20=>((v20).asI .i64).bind λn21=>(Hp.new r12.2 [.int .i64 0,.sl ⟨none,0,.ex 0⟩]).bind λH22=>(Hp.st H22 r12.2.length 0 (.int .i64 n17)).bind λH23=>(Hp.st H23 r12.2.length (0+1) (.sl s19)).bind λH24=>(Hp.ldI H24 .i64 r12.2.length 0).bind λn25=>(Hp.ldSl H24 r12.2.length (0+1)).bind λs26=>(Hp.st H24 H6.length 0 (.int .i64 n25)).bind λH27=>(Hp.st H27 H6.length (0+1) (.sl s26)).bind λH28=>(Hp.ldI H28 .i64 H6.length 0).bind λn29=>(Hp.ldSl H28 H6.length (0+1)).bind λs30=>some ((.tup [(.agg [(.int .i64 n29),(.sl s30)]),(.bool (n21==0))]),H28)
def bJ.tw:=bJ.twX F (cP.tw F)
def bJ.cs (F:Nat) (jW:BD):Cs:=[(119,mk11 jW)]
theorem bJ.eqX (jW:BD) (aa:Int) (ap:Sl) (ak:Int) (dk:Sl) (H:Hp):EX (bi (bJ.cs F jW)) aT lh0 F Try.f52 [(.agg [(.int .i64 aa),(.sl ap)]),(.agg [(.int .i64 ak),(.sl dk)])] H=bJ.twX F jW aa ap ak dk H:=by kernel_rfl
theorem bJ.k:Ok Try.prog 52 (mk11 (bJ.tw F)):=by
 intro args H v H' h
 unfold mk11 at h
 split at h
 ·exact okT (TB:=aT) Try.func52 (aY (cP.k F) bT) ac.no ((bJ.eqX F (cP.tw F) _ _ _ _ H).trans h) (by kernel_rfl)
 ·cases h
def a_.l29 (F:Nat) (aH:Bz) :Nat->Sl->Sl->Int->Int->Hp->OA
 | 0,_,_,_,_,_=>none
 | da+1,eC,mQ,fy,d_,H10=>(bif (decide (d_<fy)) then ((Sl.idx mQ d_ 1).bind λp17=>(Hp.ldSl H10 p17.1 p17.2).bind λs18=>(Sl.idx eC d_ 1).bind λp19=>(Hp.ldSl H10 p19.1 p19.2).bind λs20=>(aH s18 s20 H10).bind λr21=>((r21.1).asB).bind λb22=>(bif (!b22) then (some ((.bool false),r21.2)) else (a_.l29 F aH da eC mQ fy (wrap .i64 (d_+1)) r21.2))) else (some ((.bool true),H10)))
def a_.twX (aH:Bz) (aa:Sl) (ag:Sl) (H:Hp):OA:=(bif ((aa.n:Int) != (ag.n:Int)) then (some ((.bool false),H)) else (a_.l29 F aH F ag aa (aa.n:Int) 0 H))
def a_.tw:=a_.twX F (aL.tw F)
def a_.lh29 (aH:Bz) (ks:BA) (n:Nat) (tm:Tm) (H:Hp):OA:=match ks,tm 1,tm 2,tm 15,tm 16,tm 17 with
 | [],(.sl eC),(.fn 100 []),(.sl mQ),(.int .i64 fy),(.int .i64 d_)=>a_.l29 F aH n eC mQ fy d_ H
 | _,_,_,_,_,_=>none
def a_.lh (aH:Bz) (p:Nat) (ks:BA) (n:Nat) (tm:Tm) (H:Hp):OA:=bif p.beq 29 then a_.lh29 F aH ks n tm H else (none)
def mk12 (g:Bz) (args:BG) (H:Hp):OA:=match args with
 | [(.sl aa),(.sl ag),(.fn 100 [])]=>g aa ag H
 | _=>none
theorem mk12_E (g:Bz) (aa:Sl) (ag:Sl) (H:Hp):mk12 g [(.sl aa),(.sl ag),(.fn 100 [])] H=g aa ag H:=rfl
def a_.cs (F:Nat) (aH:Bz):Cs:=[(100,mk10 aH)]
theorem a_.loops (aH:Bz):LO (bi (a_.cs F aH)) aT (a_.lh F aH) F Try.f99:=
 (ac.rt (ac.rt (ac.lt (ac.rt (ac.block (ac.la (λn tm H r h=>by change a_.lh29 F aH [] n tm H=_ at h;unfold a_.lh29 at h;split at h;have e:cq tm [(1,_),(2,_),(15,_),(16,_),(17,_)]:=⟨‹_›,‹_›,‹_›,‹_›,‹_›,trivial⟩;obtain _ | k29:=n;cases h;exact ⟨_,rfl,by rw [<- cC e];exact Eq.trans (by kernel_rfl) h⟩;cases h) λk29=>ac.no))))))
theorem a_.eqX (aH:Bz) (aa:Sl) (ag:Sl) (H:Hp):EX (bi (a_.cs F aH)) aT (a_.lh F aH) F Try.f99 [(.sl aa),(.sl ag),(.fn 100 [])] H=a_.twX F aH aa ag H:=by kernel_rfl
theorem a_.k:Ok Try.prog 99 (mk12 (a_.tw F)):=by
 intro args H v H' h
 unfold mk12 at h
 split at h
 ·exact okT (TB:=aT) Try.func99 (aY (aL.k F) bT) (a_.loops F (aL.tw F)) ((a_.eqX F (aL.tw F) _ _ H).trans h) (by kernel_rfl)
 ·cases h
def bN.twX (F:Nat) (es:Bw) (et:Bw) (jX:Bz) (aa:Int) (ap:Sl) (ak:Int) (dk:Sl) (H:Hp):OA:=(Hp.new H [(.int .i64 aa),(.sl ap)]).bind λH5=>(Hp.new H5 [(.int .i64 ak),(.sl dk)]).bind λH6=>(Hp.ldI H6 .i64 H.length 0).bind λn7=>(Hp.ldSl H6 H.length (0+1)).bind λs8=>(es n7 s8 H6).bind λr9=>((r9.1).asB).bind λb10=>(bif (!b10) then (some ((.bool false),r9.2)) else ((Hp.ldI r9.2 .i64 H5.length 0).bind λn11=>(Hp.ldSl r9.2 H5.length (0+1)).bind λs12=>(es n11 s12 r9.2).bind λr13=>((r13.1).asB).bind λb14=>(bif (!b14) then (some ((.bool false),r13.2)) else ((Hp.ldI r13.2 .i64 H.length 0).bind λn15=>(Hp.ldI r13.2 .i64 H5.length 0).bind λn16=>(bif (n15 != n16) then (some ((.bool false),r13.2)) else ((Hp.ldI r13.2 .i64 H.length 0).bind λn17=>(Hp.ldSl r13.2 H.length (0+1)).bind λs18=>(et n17 s18 r13.2).bind λr19=>((r19.1).asAgg 2).bind λl20=>(l20[0]?).bind λv21=>((v21).asI .i64).bind λn22=>(l20[1]?).bind λv23=>((v23).asSl).bind λs24=>(if aq r13.2 r19.2 then ((Hp.ldI r19.2 .i64 H5.length 0).bind λn25=>(Hp.ldSl r19.2 H5.length (0+1)).bind λs26=>(et n25 s26 r19.2).bind λr27=>((r27.1).asAgg 2).bind λl28=>(l28[0]?).bind λv29=>((v29).asI .i64).bind λn30=>(l28[1]?).bind λv31=>((v31).asSl).bind λs32=>(if aq r19.2 r27.2 then ((Hp.new r27.2 [.int .i64 0,.sl ⟨none,0,.ex 0⟩]).bind λH33=>(Hp.new H33 [.int .i64 0,.sl ⟨none,0,.ex 0⟩]).bind λH34=>(Hp.st H34 r27.2.length 0 (.int .i64 n22)).bind λH35=>(Hp.st H35 r27.2.length (0+1) (.sl s24)).bind λH36=>(Hp.st H36 H33.length 0 (.int .i64 n30)).bind λH37=>(Hp.st H37 H33.length (0+1) (.sl s32)).bind λH38=>(Hp.ldI H38 .i64 r27.2.length 0).bind λn39=>(Hp.ldI H38 .i64 H33.length 0).bind λn40=>(bif (n39==n40) then ((Hp.ldSl H38 r27.2.length 1).bind λs41=>(Hp.ldSl H38 H33.length 1).bind λs42=>(jX s41 s42 H38).bind λr43=>((r43.1).asB).bind λb44=>some ((.bool b44),r43.2)) else (some ((.bool false),H38)))) else none)) else none)))))))
def bN.tw:=bN.twX F (ce.tw F) (bp.tw F) (a_.tw F)
def bN.pn:Nat->List Nat:=cR [(3,[6,7])]
def bN.tb:Nat->List (List Nat):=cR [(3,[[],[0],[],[0,1,2],[],[],[0,1,2,3,4,5],[0,1,2,3,4,5,6]])]
def bN.cs (F:Nat) (es:Bw) (et:Bw) (jX:Bz):Cs:=[(96,mk7 es),(97,mk7 et),(99,mk12 jX)]
theorem bN.eqX (es:Bw) (et:Bw) (jX:Bz) (aa:Int) (ap:Sl) (ak:Int) (dk:Sl) (H:Hp):EX (bi (bN.cs F es et jX)) bN.pn lh0 F Try.f42 [(.agg [(.int .i64 aa),(.sl ap)]),(.agg [(.int .i64 ak),(.sl dk)])] H=bN.twX F es et jX aa ap ak dk H:=by kernel_rfl
theorem bN.k:Ok Try.prog 42 (mk11 (bN.tw F)):=by
 intro args H v H' h
 unfold mk11 at h
 split at h
 ·exact okT (TB:=bN.tb) Try.func42 (aY (ce.k F) (aY (bp.k F) (aY (a_.k F) bT))) ac.no ((bN.eqX F (ce.tw F) (bp.tw F) (a_.tw F) _ _ _ _ H).trans h) (by kernel_rfl)
 ·cases h
def ae.j1 (F:Nat) (bq:Bu) (bs:Bu) (bu:Bw) (aQ:Bw) (bl:Bu) (bv:Bw) (bk:BD) (bw:BD) (kS:Nat) (sS:Nat) (kT:Nat) (sT:Nat) (jY:Bool) (H319:Hp):OA:=(bif (!jY) then (some ((.bool true),H319)) else ((Hp.ldI H319 .i64 kT sT).bind λn320=>(Hp.ldSl H319 kT (sT+1)).bind λs321=>(Hp.ldI H319 .i64 kS sS).bind λn322=>(Hp.ldSl H319 kS (sS+1)).bind λs323=>(bw n320 s321 n322 s323 H319).bind λr324=>((r324.1).asB).bind λb325=>some ((.bool b325),r324.2)))
def ae.l131069 (F:Nat) (bq:Bu) (bs:Bu) (bu:Bw) (aQ:Bw) (bl:Bu) (bv:Bw) (bk:BD) (bw:BD) :Nat->Nat->Nat->Nat->Nat->Nat->Nat->Bool->Int->Hp->OA
 | 0,_,_,_,_,_,_,_,_,_=>none
 | xl+1,fZ,kU,f_,kV,eF,ga,eG,eH,H255=>(Hp.ldSl H255 f_ (kV+1)).bind λs326=>(bif (decide (eH<(s326.n:Int))) then ((bif eG then ((Hp.new H255 []).bind λH327=>(Hp.ldSl H327 f_ (kV+1)).bind λs328=>(Sl.idx s328 eH 1).bind λp329=>(Hp.ldSl H327 p329.1 p329.2).bind λs330=>(Sl.row H327 s330 1).bind λxs332=>(Hp.app H327 1 8 (⟨some (H255.length,0),0,.ex 0⟩:Sl) s330.n xs332).bind λa331=>(bl a331.1 a331.2).bind λr333=>((r333.1).asTup 2).bind λl334=>(l334[0]?).bind λv335=>((v335).asAgg 2).bind λl336=>(l336[0]?).bind λv337=>((v337).asI .i64).bind λn338=>(l336[1]?).bind λv339=>((v339).asSl).bind λs340=>(l334[1]?).bind λv341=>((v341).asI .i64).bind λn342=>(Hp.new r333.2 [.int .i64 0,.sl ⟨none,0,.ex 0⟩]).bind λH343=>(Hp.st H343 r333.2.length 0 (.int .i64 n338)).bind λH344=>(Hp.st H344 r333.2.length (0+1) (.sl s340)).bind λH345=>(bif (n342 != 0) then (some ((.bool false),H345)) else ((Hp.ldI H345 .i64 eF ga).bind λn346=>(Hp.ldSl H345 eF (ga+1)).bind λs347=>(Hp.ldI H345 .i64 r333.2.length 0).bind λn348=>(Hp.ldSl H345 r333.2.length (0+1)).bind λs349=>(bk n346 s347 n348 s349 H345).bind λr350=>((r350.1).asTup 2).bind λl351=>(l351[0]?).bind λv352=>((v352).asAgg 2).bind λl353=>(l353[0]?).bind λv354=>((v354).asI .i64).bind λn355=>(l353[1]?).bind λv356=>((v356).asSl).bind λs357=>(l351[1]?).bind λv358=>((v358).asB).bind λb359=>(Hp.st r350.2 eF ga (.int .i64 n355)).bind λH360=>(Hp.st H360 eF (ga+1) (.sl s357)).bind λH361=>ae.l131069 F bq bs bu aQ bl bv bk bw xl fZ kU f_ kV eF ga b359 (wrap .i64 (eH+1)) H361))) else (ae.j1 F bq bs bu aQ bl bv bk bw fZ kU eF ga eG H255))) else (ae.j1 F bq bs bu aQ bl bv bk bw fZ kU eF ga eG H255))
termination_by structural n=>n
def ae.j2 (bq:Bu) (bs:Bu) (bu:Bw) (aQ:Bw) (bl:Bu) (bv:Bw) (bk:BD) (bw:BD) (mR:Nat) (xm:Nat) (mS:Nat) (xn:Nat) (mT:Nat) (xo:Nat) (jZ:Bool) (H228:Hp):OA:=ae.l131069 F bq bs bu aQ bl bv bk bw F mR xm mS xn mT xo jZ 0 H228
def ae.l65533 (F:Nat) (bq:Bu) (bs:Bu) (bu:Bw) (aQ:Bw) (bl:Bu) (bv:Bw) (bk:BD) (bw:BD) :Nat->Nat->Nat->Nat->Nat->Nat->Nat->Nat->Nat->Bool->Int->Hp->OA
 | 0,_,_,_,_,_,_,_,_,_,_,_=>none
 | xp+1,gg,kW,gh,kX,eJ,gi,gj,kY,eK,fz,H186=>(bif (decide (fz<0)) then ((bif eK then ((Hp.ldI H186 .i64 eJ gi).bind λn362=>(Hp.ldSl H186 eJ (gi+1)).bind λs363=>(Hp.ldI H186 .i64 gj kY).bind λn364=>(Hp.ldSl H186 gj (kY+1)).bind λs365=>(bk n362 s363 n364 s365 H186).bind λr366=>((r366.1).asTup 2).bind λl367=>(l367[0]?).bind λv368=>((v368).asAgg 2).bind λl369=>(l369[0]?).bind λv370=>((v370).asI .i64).bind λn371=>(l369[1]?).bind λv372=>((v372).asSl).bind λs373=>(l367[1]?).bind λv374=>((v374).asB).bind λb375=>(Hp.st r366.2 eJ gi (.int .i64 n371)).bind λH376=>(Hp.st H376 eJ (gi+1) (.sl s373)).bind λH377=>ae.l65533 F bq bs bu aQ bl bv bk bw xp gg kW gh kX eJ gi gj kY b375 (wrap .i64 (fz+1)) H377) else (ae.j2 F bq bs bu aQ bl bv bk bw gg kW gh kX eJ gi eK H186))) else (ae.j2 F bq bs bu aQ bl bv bk bw gg kW gh kX eJ gi eK H186))
termination_by structural n=>n
def ae.j3 (bq:Bu) (bs:Bu) (bu:Bw) (aQ:Bw) (bl:Bu) (bv:Bw) (bk:BD) (bw:BD) (mU:Nat) (xq:Nat) (kZ:Nat) (sU:Nat) (mV:Nat) (xr:Nat) (mW:Nat) (xt:Nat) (j_:Bool) (H160:Hp):OA:=(Hp.ldI H160 .i64 kZ sU).bind λn161=>ae.l65533 F bq bs bu aQ bl bv bk bw F mU xq kZ sU mV xr mW xt j_ n161 H160
def ae.l32765 (F:Nat) (bq:Bu) (bs:Bu) (bu:Bw) (aQ:Bw) (bl:Bu) (bv:Bw) (bk:BD) (bw:BD) :Nat->Nat->Nat->Nat->Nat->Nat->Nat->Nat->Nat->Nat->Nat->Bool->Int->Hp->OA
 | 0,_,_,_,_,_,_,_,_,_,_,_,_,_=>none
 | xu+1,gk,k_,fJ,ka,gm,lb,eL,gn,gr,lc,eM,fA,H119=>(Hp.ldI H119 .i64 fJ ka).bind λn378=>(bif (decide (fA<n378)) then ((bif eM then ((Hp.ldI H119 .i64 eL gn).bind λn379=>(Hp.ldSl H119 eL (gn+1)).bind λs380=>(Hp.ldI H119 .i64 gm lb).bind λn381=>(Hp.ldSl H119 gm (lb+1)).bind λs382=>(bk n379 s380 n381 s382 H119).bind λr383=>((r383.1).asTup 2).bind λl384=>(l384[0]?).bind λv385=>((v385).asAgg 2).bind λl386=>(l386[0]?).bind λv387=>((v387).asI .i64).bind λn388=>(l386[1]?).bind λv389=>((v389).asSl).bind λs390=>(l384[1]?).bind λv391=>((v391).asB).bind λb392=>(Hp.st r383.2 eL gn (.int .i64 n388)).bind λH393=>(Hp.st H393 eL (gn+1) (.sl s390)).bind λH394=>ae.l32765 F bq bs bu aQ bl bv bk bw xu gk k_ fJ ka gm lb eL gn gr lc b392 (wrap .i64 (fA+1)) H394) else (ae.j3 F bq bs bu aQ bl bv bk bw gk k_ fJ ka eL gn gr lc eM H119))) else (ae.j3 F bq bs bu aQ bl bv bk bw gk k_ fJ ka eL gn gr lc eM H119))
termination_by structural n=>n
def ae.j4 (bq:Bu) (bs:Bu) (bu:Bw) (aQ:Bw) (bl:Bu) (bv:Bw) (bk:BD) (bw:BD) (lg:Nat) (sV:Nat) (kb:Nat) (oN:Nat) (xv:Sl) (H62:Hp):OA:=(bl xv H62).bind λr63=>((r63.1).asTup 2).bind λl64=>(l64[0]?).bind λv65=>((v65).asAgg 2).bind λl66=>(l66[0]?).bind λv67=>((v67).asI .i64).bind λn68=>(l66[1]?).bind λv69=>((v69).asSl).bind λs70=>(l64[1]?).bind λv71=>((v71).asI .i64).bind λn72=>(Hp.new r63.2 [.int .i64 0,.sl ⟨none,0,.ex 0⟩]).bind λH73=>(Hp.st H73 r63.2.length 0 (.int .i64 n68)).bind λH74=>(Hp.st H74 r63.2.length (0+1) (.sl s70)).bind λH75=>(bif (n72 != 0) then (some ((.bool false),H75)) else ((Hp.ldI H75 .i64 kb oN).bind λn76=>(bif (decide (n76>30)) then (some ((.bool false),H75)) else ((Hp.ldI H75 .i64 kb oN).bind λn77=>(bif (decide (n77<(-30))) then (some ((.bool false),H75)) else ((Hp.ldI H75 .i64 lg sV).bind λn78=>(Hp.new H75 [.int .i64 0,.sl ⟨none,0,.ex 0⟩]).bind λH79=>(Hp.st H79 H75.length 0 (.int .i64 n78)).bind λH80=>(Hp.st H80 H75.length (0+1) (.sl (⟨none,0,.ex 0⟩:Sl))).bind λH81=>(Hp.ldI H81 .i64 r63.2.length 0).bind λn82=>(Hp.ldSl H81 r63.2.length (0+1)).bind λs83=>(bv n82 s83 H81).bind λr84=>((r84.1).asTup 2).bind λl85=>(l85[0]?).bind λv86=>((v86).asAgg 2).bind λl87=>(l87[0]?).bind λv88=>((v88).asI .i64).bind λn89=>(l87[1]?).bind λv90=>((v90).asSl).bind λs91=>(l85[1]?).bind λv92=>((v92).asI .i64).bind λn93=>(Hp.new r84.2 [.int .i64 0,.sl ⟨none,0,.ex 0⟩]).bind λH94=>(Hp.st H94 r84.2.length 0 (.int .i64 n89)).bind λH95=>(Hp.st H95 r84.2.length (0+1) (.sl s91)).bind λH96=>ae.l32765 F bq bs bu aQ bl bv bk bw F lg sV kb oN r63.2.length 0 H75.length 0 r84.2.length 0 true 0 H96))))))
def ae.l509 (F:Nat) (bq:Bu) (bs:Bu) (bu:Bw) (aQ:Bw) (bl:Bu) (bv:Bw) (bk:BD) (bw:BD) :Nat->Nat->Nat->Nat->Nat->Sl->Int->Hp->OA
 | 0,_,_,_,_,_,_,_=>none
 | xw+1,gW,mX,gX,mY,mZ,ed,H46=>(bif (decide (ed>=0)) then ((Hp.new H46 [(.int .i64 ed)]).bind λH395=>(Sl.row H395 (⟨some (H46.length,0),1,.ex 1⟩:Sl) 1).bind λxs397=>(Hp.app H395 1 8 mZ (⟨some (H46.length,0),1,.ex 1⟩:Sl).n xs397).bind λa396=>ae.l509 F bq bs bu aQ bl bv bk bw xw gW mX gX mY a396.1 (wrap .i64 (ed - 1)) a396.2) else (ae.j4 F bq bs bu aQ bl bv bk bw gW mX gX mY mZ H46))
termination_by structural n=>n
def ae.twX (bq:Bu) (bs:Bu) (bu:Bw) (aQ:Bw) (bl:Bu) (bv:Bw) (bk:BD) (bw:BD) (aa:Sl) (H:Hp):OA:=(bq aa H).bind λr2=>((r2.1).asB).bind λb3=>(bif b3 then (some ((.bool true),r2.2)) else ((bs aa r2.2).bind λr4=>((r4.1).asAgg 2).bind λl5=>(l5[0]?).bind λv6=>((v6).asI .i64).bind λn7=>(l5[1]?).bind λv8=>((v8).asSl).bind λs9=>(Hp.new r4.2 [.int .i64 0,.sl ⟨none,0,.ex 0⟩]).bind λH10=>(Hp.st H10 r4.2.length 0 (.int .i64 n7)).bind λH11=>(Hp.st H11 r4.2.length (0+1) (.sl s9)).bind λH12=>(Hp.ldI H12 .i64 r4.2.length 0).bind λn13=>(Hp.ldSl H12 r4.2.length (0+1)).bind λs14=>(bu n13 s14 H12).bind λr15=>((r15.1).asTup 2).bind λl16=>(l16[0]?).bind λv17=>((v17).asAgg 2).bind λl18=>(l18[0]?).bind λv19=>((v19).asI .i64).bind λn20=>(l18[1]?).bind λv21=>((v21).asSl).bind λs22=>(l16[1]?).bind λv23=>((v23).asI .i64).bind λn24=>(Hp.new r15.2 [.int .i64 0,.sl ⟨none,0,.ex 0⟩]).bind λH25=>(Hp.st H25 r15.2.length 0 (.int .i64 n20)).bind λH26=>(Hp.st H26 r15.2.length (0+1) (.sl s22)).bind λH27=>(bif (n24 != 0) then ((Hp.ldI H27 .i64 r4.2.length 0).bind λn28=>(Hp.ldSl H27 r4.2.length (0+1)).bind λs29=>(aQ n28 s29 H27).bind λr30=>((r30.1).asB).bind λb31=>(bif (!b31) then ((Hp.ldSl r30.2 r15.2.length 1).bind λs32=>some ((.bool ((s32.n:Int)==0)),r30.2)) else (some ((.bool false),r30.2)))) else ((Hp.new H27 []).bind λH33=>(Hp.ldI H33 .i64 r4.2.length 0).bind λn34=>ae.l509 F bq bs bu aQ bl bv bk bw F r4.2.length 0 r15.2.length 0 (⟨some (H27.length,0),0,.ex 0⟩:Sl) (wrap .i64 (n34 - 1)) H33))))
def ae.tw:=ae.twX F (cp.tw F) (bW.tw F) (bX.tw F) (aB.tw F) (aP.tw F) (bP.tw F) (bJ.tw F) (bN.tw F)
def ae.lh509 (bq:Bu) (bs:Bu) (bu:Bw) (aQ:Bw) (bl:Bu) (bv:Bw) (bk:BD) (bw:BD) (ks:BA) (n:Nat) (tm:Tm) (H:Hp):OA:=match ks,tm 3,tm 4,tm 6,tm 7 with
 | [],(.ptr gW mX),(.ptr gX mY),(.sl mZ),(.int .i64 ed)=>ae.l509 F bq bs bu aQ bl bv bk bw n gW mX gX mY mZ ed H
 | _,_,_,_,_=>none
def ae.lh32765 (bq:Bu) (bs:Bu) (bu:Bw) (aQ:Bw) (bl:Bu) (bv:Bw) (bk:BD) (bw:BD) (ks:BA) (n:Nat) (tm:Tm) (H:Hp):OA:=match ks,tm 3,tm 4,tm 8,tm 10,tm 11,tm 13,tm 14 with
 | [],(.ptr gk k_),(.ptr fJ ka),(.ptr gm lb),(.ptr eL gn),(.ptr gr lc),(.bool eM),(.int .i64 fA)=>ae.l32765 F bq bs bu aQ bl bv bk bw n gk k_ fJ ka gm lb eL gn gr lc eM fA H
 | _,_,_,_,_,_,_,_=>none
def ae.lh65533 (bq:Bu) (bs:Bu) (bu:Bw) (aQ:Bw) (bl:Bu) (bv:Bw) (bk:BD) (bw:BD) (ks:BA) (n:Nat) (tm:Tm) (H:Hp):OA:=match ks,tm 3,tm 4,tm 10,tm 11,tm 13,tm 15 with
 | [],(.ptr gg kW),(.ptr gh kX),(.ptr eJ gi),(.ptr gj kY),(.bool eK),(.int .i64 fz)=>ae.l65533 F bq bs bu aQ bl bv bk bw n gg kW gh kX eJ gi gj kY eK fz H
 | _,_,_,_,_,_,_=>none
def ae.lh131069 (bq:Bu) (bs:Bu) (bu:Bw) (aQ:Bw) (bl:Bu) (bv:Bw) (bk:BD) (bw:BD) (ks:BA) (n:Nat) (tm:Tm) (H:Hp):OA:=match ks,tm 3,tm 4,tm 10,tm 13,tm 16 with
 | [],(.ptr fZ kU),(.ptr f_ kV),(.ptr eF ga),(.bool eG),(.int .i64 eH)=>ae.l131069 F bq bs bu aQ bl bv bk bw n fZ kU f_ kV eF ga eG eH H
 | _,_,_,_,_,_=>none
def ae.lh (bq:Bu) (bs:Bu) (bu:Bw) (aQ:Bw) (bl:Bu) (bv:Bw) (bk:BD) (bw:BD) (p:Nat) (ks:BA) (n:Nat) (tm:Tm) (H:Hp):OA:=bif p.beq 131069 then ae.lh131069 F bq bs bu aQ bl bv bk bw ks n tm H else (bif p.beq 65533 then ae.lh65533 F bq bs bu aQ bl bv bk bw ks n tm H else (bif p.beq 32765 then ae.lh32765 F bq bs bu aQ bl bv bk bw ks n tm H else (bif p.beq 509 then ae.lh509 F bq bs bu aQ bl bv bk bw ks n tm H else (none))))
def ae.cs (F:Nat) (bq:Bu) (bs:Bu) (bu:Bw) (aQ:Bw) (bl:Bu) (bv:Bw) (bk:BD) (bw:BD):Cs:=[(43,mk0 bq),(48,mk0 bs),(35,mk7 bu),(49,mk7 aQ),(50,mk0 bl),(51,mk7 bv),(52,mk11 bk),(42,mk11 bw)]
theorem ae.loops (bq:Bu) (bs:Bu) (bu:Bw) (aQ:Bw) (bl:Bu) (bv:Bw) (bk:BD) (bw:BD):LO (bi (ae.cs F bq bs bu aQ bl bv bk bw)) aT (ae.lh F bq bs bu aQ bl bv bk bw) F Try.f9:=
 (ac.rt (ac.rt (ac.rt (ac.rt (ac.rt (ac.rt (ac.seq (ac.rt (ac.block (ac.la (λn tm H r h=>by change ae.lh509 F bq bs bu aQ bl bv bk bw [] n tm H=_ at h;unfold ae.lh509 at h;split at h;have e:cq tm [(3,_),(4,_),(6,_),(7,_)]:=⟨‹_›,‹_›,‹_›,‹_›,trivial⟩;obtain _ | k509:=n;cases h;exact ⟨_,rfl,by rw [<- cC e];exact Eq.trans (by kernel_rfl) h⟩;cases h) λk509=>ac.no))) (ac.rt (ac.rt (ac.rt (ac.rt (ac.rt (ac.seq (ac.rt (ac.block (ac.la (λn tm H r h=>by change ae.lh32765 F bq bs bu aQ bl bv bk bw [] n tm H=_ at h;unfold ae.lh32765 at h;split at h;have e:cq tm [(3,_),(4,_),(8,_),(10,_),(11,_),(13,_),(14,_)]:=⟨‹_›,‹_›,‹_›,‹_›,‹_›,‹_›,‹_›,trivial⟩;obtain _ | k32765:=n;cases h;exact ⟨_,rfl,by rw [<- cC e];exact Eq.trans (by kernel_rfl) h⟩;cases h) λk32765=>ac.no))) (ac.seq (ac.rt (ac.block (ac.la (λn tm H r h=>by change ae.lh65533 F bq bs bu aQ bl bv bk bw [] n tm H=_ at h;unfold ae.lh65533 at h;split at h;have e:cq tm [(3,_),(4,_),(10,_),(11,_),(13,_),(15,_)]:=⟨‹_›,‹_›,‹_›,‹_›,‹_›,‹_›,trivial⟩;obtain _ | k65533:=n;cases h;exact ⟨_,rfl,by rw [<- cC e];exact Eq.trans (by kernel_rfl) h⟩;cases h) λk65533=>ac.no))) (ac.lt (ac.rt (ac.block (ac.la (λn tm H r h=>by change ae.lh131069 F bq bs bu aQ bl bv bk bw [] n tm H=_ at h;unfold ae.lh131069 at h;split at h;have e:cq tm [(3,_),(4,_),(10,_),(13,_),(16,_)]:=⟨‹_›,‹_›,‹_›,‹_›,‹_›,trivial⟩;obtain _ | k131069:=n;cases h;exact ⟨_,rfl,by rw [<- cC e];exact Eq.trans (by kernel_rfl) h⟩;cases h) λk131069=>ac.no))))))))))))))))))
theorem ae.eqX (bq:Bu) (bs:Bu) (bu:Bw) (aQ:Bw) (bl:Bu) (bv:Bw) (bk:BD) (bw:BD) (aa:Sl) (H:Hp):EX (bi (ae.cs F bq bs bu aQ bl bv bk bw)) aT (ae.lh F bq bs bu aQ bl bv bk bw) F Try.f9 [(.sl aa)] H=ae.twX F bq bs bu aQ bl bv bk bw aa H:=by kernel_rfl
theorem ae.k:Ok Try.prog 9 (mk0 (ae.tw F)):=by
 intro args H v H' h
 unfold mk0 at h
 split at h
 ·exact okT (TB:=aT) Try.func9 (aY (cp.k F) (aY (bW.k F) (aY (bX.k F) (aY (aB.k F) (aY (aP.k F) (aY (bP.k F) (aY (bJ.k F) (aY (bN.k F) bT)))))))) (ae.loops F (cp.tw F) (bW.tw F) (bX.tw F) (aB.tw F) (aP.tw F) (bP.tw F) (bJ.tw F) (bN.tw F)) ((ae.eqX F (cp.tw F) (bW.tw F) (bX.tw F) (aB.tw F) (aP.tw F) (bP.tw F) (bJ.tw F) (bN.tw F) _ H).trans h) (by kernel_rfl)
 ·cases h
theorem ae.T {F:Nat} {aa:Sl} {H:Hp} {v:AV} {H':Hp} (h:ae.tw F aa H=some (v,H')):Go.AE.T Try.prog 9 [(.sl aa)] H v H':=ae.k F _ _ _ _ ((mk0_E (ae.tw F) aa H).trans h)
end
end Go.Proofs.Ytodfdhnlhiaohaa.AE
