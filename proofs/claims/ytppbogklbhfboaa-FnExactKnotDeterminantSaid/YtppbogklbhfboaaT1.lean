import Derived.Test.YtppbogklbhfboaaTab1
import Derived.Test.YtppbogklbhfboaaE2
set_option linter.unusedVariables false
set_option linter.unusedSimpArgs false
namespace Go.Proofs.Ytppbogklbhfboaa.AE
open Go Go.AE Go.Proofs Go.RowKit Go.Maps IntKind
variable (F:Nat)
set_option linter.unusedVariables false
set_option maxHeartbeats 4000000
set_option maxRecDepth 100000
noncomputable section
def fo.twX (F:Nat) (aa:Sl) (aA:Int) (H:Hp):OA:=(bif (decide ((wrap .i64 (aA - (aa.n:Int)))<0)) then (some ((.int .i64 (-1)),H)) else (some ((.int .i64 (wrap .i64 (aA - (aa.n:Int)))),H)))
def fo.tw:=fo.twX F
def mk0 (g:as2) (args:atg) (H:Hp):OA:=match args with
 | [(.sl aa),(.int .i64 aA)]=>g aa aA H
 | _=>none
theorem mk0_E (g:as2) (aa:Sl) (aA:Int) (H:Hp):mk0 g [(.sl aa),(.int .i64 aA)] H=g aa aA H:=rfl
theorem fo.k:Ok Try.prog 25 (mk0 (fo.tw F)):=by
 intro args H v H' h
 unfold mk0 at h
 split at h
 ·exact ok0 Try.func25 (Eq.trans (by kernel_rfl) h) (by kernel_rfl) (by kernel_rfl)
 ·cases h
def dZ.twX (F:Nat) (rV:as2) (aa:Sl) (af:Int) (au:Int) (H:Hp):OA:=(Hp.new H [(.sl aa),(.int .i64 af)]).bind λH4=>(Hp.ldSl H4 H.length 0).bind λs5=>(rV s5 au H4).bind λr6=>((r6.1).asI .i64).bind λn7=>(bif (decide (n7<0)) then (some ((.int .i64 (-1)),r6.2)) else (some ((.int .i64 n7),r6.2)))
def dZ.tw:=dZ.twX F (fo.tw F)
def mk1 (g:ate) (args:atg) (H:Hp):OA:=match args with
 | [(.agg [(.sl aa),(.int .i64 af)]),(.int .i64 au)]=>g aa af au H
 | _=>none
theorem mk1_E (g:ate) (aa:Sl) (af:Int) (au:Int) (H:Hp):mk1 g [(.agg [(.sl aa),(.int .i64 af)]),(.int .i64 au)] H=g aa af au H:=rfl
def dZ.cs (F:Nat) (rV:as2):Cs:=[(25,mk0 rV)]
theorem dZ.eqX (rV:as2) (aa:Sl) (af:Int) (au:Int) (H:Hp):EX (aY (dZ.cs F rV)) aJ lh0 F Try.f7 [(.agg [(.sl aa),(.int .i64 af)]),(.int .i64 au)] H=dZ.twX F rV aa af au H:=by kernel_rfl
theorem dZ.k:Ok Try.prog 7 (mk1 (dZ.tw F)):=by
 intro args H v H' h
 unfold mk1 at h
 split at h
 ·exact okT (TB:=aJ) Try.func7 (aM (fo.k F) bA) ae.no ((dZ.eqX F (fo.tw F) _ _ _ H).trans h) (by kernel_rfl)
 ·cases h
def fg.twX (F:Nat) (aa:Int) (af:Int) (bV:Int) (bW:Int) (bQ:Int) (H:Hp):OA:=(Hp.new H [(.int .i64 aa),(.int .i64 af),(.int .i64 bV),(.int .i64 bW),(.int .i64 bQ)]).bind λH6=>(Hp.new H6 [.int .i64 0,.int .i64 0,.int .i64 0,.int .i64 0,.int .i64 0]).bind λH7=>(Hp.new H7 [.int .i64 0,.int .i64 0,.int .i64 0,.int .i64 0,.int .i64 0]).bind λH8=>(Hp.ldI H8 .i64 H.length 0).bind λn9=>(Hp.st H8 H7.length 0 (.int .i64 n9)).bind λH10=>(Hp.ldI H10 .i64 H.length 1).bind λn11=>(Hp.st H10 H7.length 1 (.int .i64 n11)).bind λH12=>(Hp.ldI H12 .i64 H.length 2).bind λn13=>(Hp.st H12 H7.length 2 (.int .i64 n13)).bind λH14=>(Hp.ldI H14 .i64 H.length 3).bind λn15=>(Hp.st H14 H7.length 3 (.int .i64 n15)).bind λH16=>(Hp.ldI H16 .i64 H.length 4).bind λn17=>(Hp.st H16 H7.length 4 (.int .i64 n17)).bind λH18=>(Hp.ldI H18 .i64 H7.length 0).bind λn19=>(Hp.ldI H18 .i64 H7.length (0+1)).bind λn20=>(Hp.ldI H18 .i64 H7.length (0+2)).bind λn21=>(Hp.ldI H18 .i64 H7.length (0+3)).bind λn22=>(Hp.ldI H18 .i64 H7.length (0+4)).bind λn23=>(Hp.st H18 H6.length 0 (.int .i64 n19)).bind λH24=>(Hp.st H24 H6.length (0+1) (.int .i64 n20)).bind λH25=>(Hp.st H25 H6.length (0+1+1) (.int .i64 n21)).bind λH26=>(Hp.st H26 H6.length (0+1+1+1) (.int .i64 n22)).bind λH27=>(Hp.st H27 H6.length (0+1+1+1+1) (.int .i64 n23)).bind λH28=>(Hp.ldI H28 .i64 H6.length 0).bind λn29=>(Hp.ldI H28 .i64 H6.length (0+1)).bind λn30=>(Hp.ldI H28 .i64 H6.length (0+2)).bind λn31=>(Hp.ldI H28 .i64 H6.length (0+3)).bind λn32=>(Hp.ldI H28 .i64 H6.length (0+4)).bind λn33=>some ((.agg [(.int .i64 n29),(.int .i64 n30),(.int .i64 n31),(.int .i64 n32),(.int .i64 n33)]),H28)
def fg.tw:=fg.twX F
def mk2 (g:ath) (args:atg) (H:Hp):OA:=match args with
 | [(.agg [(.int .i64 aa),(.int .i64 af),(.int .i64 bV),(.int .i64 bW),(.int .i64 bQ)])]=>g aa af bV bW bQ H
 | _=>none
theorem mk2_E (g:ath) (aa:Int) (af:Int) (bV:Int) (bW:Int) (bQ:Int) (H:Hp):mk2 g [(.agg [(.int .i64 aa),(.int .i64 af),(.int .i64 bV),(.int .i64 bW),(.int .i64 bQ)])] H=g aa af bV bW bQ H:=rfl
theorem fg.k:Ok Try.prog 59 (mk2 (fg.tw F)):=by
 intro args H v H' h
 unfold mk2 at h
 split at h
 ·exact ok0 Try.func59 (Eq.trans (by kernel_rfl) h) (by kernel_rfl) (by kernel_rfl)
 ·cases h
def b_.l29 (F:Nat) (fY:ath) :Nat->Sl->Sl->Int->Hp->OA
 | 0,_,_,_,_=>none
 | gU+1,kg,wU,ez,H7=>(bif (decide (ez<(kg.n:Int))) then ((Sl.idx kg ez 5).bind λp32=>(Hp.ldI H7 .i64 p32.1 p32.2).bind λn33=>(Hp.ldI H7 .i64 p32.1 (p32.2+1)).bind λn34=>(Hp.ldI H7 .i64 p32.1 (p32.2+2)).bind λn35=>(Hp.ldI H7 .i64 p32.1 (p32.2+3)).bind λn36=>(Hp.ldI H7 .i64 p32.1 (p32.2+4)).bind λn37=>(fY n33 n34 n35 n36 n37 H7).bind λr38=>((r38.1).asAgg 5).bind λl39=>(l39[0]?).bind λv40=>((v40).asI .i64).bind λn41=>(l39[1]?).bind λv42=>((v42).asI .i64).bind λn43=>(l39[2]?).bind λv44=>((v44).asI .i64).bind λn45=>(l39[3]?).bind λv46=>((v46).asI .i64).bind λn47=>(l39[4]?).bind λv48=>((v48).asI .i64).bind λn49=>(Sl.idx wU ez 5).bind λp50=>(Hp.st r38.2 p50.1 p50.2 (.int .i64 n41)).bind λH51=>(Hp.st H51 p50.1 (p50.2+1) (.int .i64 n43)).bind λH52=>(Hp.st H52 p50.1 (p50.2+1+1) (.int .i64 n45)).bind λH53=>(Hp.st H53 p50.1 (p50.2+1+1+1) (.int .i64 n47)).bind λH54=>(Hp.st H54 p50.1 (p50.2+1+1+1+1) (.int .i64 n49)).bind λH55=>b_.l29 F fY gU kg wU (wrap .i64 (ez+1)) H55) else (some ((.sl wU),H7)))
def b_.twX (fY:ath) (aa:Sl) (H:Hp):OA:=(Hp.mk H [.int .i64 0,.int .i64 0,.int .i64 0,.int .i64 0,.int .i64 0] 40 (aa.n:Int) (aa.n:Int)).bind λm2=>b_.l29 F fY F aa m2.1 0 m2.2
def b_.tw:=b_.twX F (fg.tw F)
def b_.lh29 (fY:ath) (ks:as7) (n:Nat) (tm:Tm) (H:Hp):OA:=match ks,tm 0,tm 3,tm 4 with
 | [],(.sl kg),(.sl wU),(.int .i64 ez)=>b_.l29 F fY n kg wU ez H
 | _,_,_,_=>none
def b_.lh (fY:ath) (p:Nat) (ks:as7) (n:Nat) (tm:Tm) (H:Hp):OA:=bif p.beq 29 then b_.lh29 F fY ks n tm H else (none)
def mk3 (g:as4) (args:atg) (H:Hp):OA:=match args with
 | [(.sl aa)]=>g aa H
 | _=>none
theorem mk3_E (g:as4) (aa:Sl) (H:Hp):mk3 g [(.sl aa)] H=g aa H:=rfl
def b_.cs (F:Nat) (fY:ath):Cs:=[(59,mk2 fY)]
theorem b_.loops (fY:ath):LO (aY (b_.cs F fY)) aJ (b_.lh F fY) F Try.f31:=
 (ae.rt (ae.rt (ae.lt (ae.rt (ae.block (ae.la (λn tm H r h=>by change b_.lh29 F fY [] n tm H=_ at h;unfold b_.lh29 at h;split at h;have e:bK tm [(0,_),(3,_),(4,_)]:=⟨‹_›,‹_›,‹_›,trivial⟩;obtain _ | k29:=n;cases h;exact ⟨_,rfl,by rw [<- bM e];exact Eq.trans (by kernel_rfl) h⟩;cases h) λk29=>ae.no))))))
theorem b_.eqX (fY:ath) (aa:Sl) (H:Hp):EX (aY (b_.cs F fY)) aJ (b_.lh F fY) F Try.f31 [(.sl aa)] H=b_.twX F fY aa H:=by kernel_rfl
theorem b_.k:Ok Try.prog 31 (mk3 (b_.tw F)):=by
 intro args H v H' h
 unfold mk3 at h
 split at h
 ·exact okT (TB:=aJ) Try.func31 (aM (fg.k F) bA) (b_.loops F (fg.tw F)) ((b_.eqX F (fg.tw F) _ H).trans h) (by kernel_rfl)
 ·cases h
def dM.twX (F:Nat) (rW:as4) (aa:Sl) (af:Int) (H:Hp):OA:=(Hp.new H [(.sl aa),(.int .i64 af)]).bind λH3=>(Hp.new H3 [.sl ⟨none,0,.ex 0⟩,.int .i64 0]).bind λH4=>(Hp.new H4 [.sl ⟨none,0,.ex 0⟩,.int .i64 0]).bind λH5=>(Hp.ldSl H5 H.length 0).bind λs6=>(rW s6 H5).bind λr7=>((r7.1).asSl).bind λs8=>(Hp.st r7.2 H4.length 0 (.sl s8)).bind λH9=>(Hp.ldI H9 .i64 H.length 1).bind λn10=>(Hp.st H9 H4.length 1 (.int .i64 n10)).bind λH11=>(Hp.ldSl H11 H4.length 0).bind λs12=>(Hp.ldI H11 .i64 H4.length (0+1)).bind λn13=>(Hp.st H11 H3.length 0 (.sl s12)).bind λH14=>(Hp.st H14 H3.length (0+1) (.int .i64 n13)).bind λH15=>(Hp.ldSl H15 H3.length 0).bind λs16=>(Hp.ldI H15 .i64 H3.length (0+1)).bind λn17=>some ((.agg [(.sl s16),(.int .i64 n17)]),H15)
def dM.tw:=dM.twX F (b_.tw F)
def mk4 (g:as2) (args:atg) (H:Hp):OA:=match args with
 | [(.agg [(.sl aa),(.int .i64 af)])]=>g aa af H
 | _=>none
theorem mk4_E (g:as2) (aa:Sl) (af:Int) (H:Hp):mk4 g [(.agg [(.sl aa),(.int .i64 af)])] H=g aa af H:=rfl
def dM.cs (F:Nat) (rW:as4):Cs:=[(31,mk3 rW)]
theorem dM.eqX (rW:as4) (aa:Sl) (af:Int) (H:Hp):EX (aY (dM.cs F rW)) aJ lh0 F Try.f9 [(.agg [(.sl aa),(.int .i64 af)])] H=dM.twX F rW aa af H:=by kernel_rfl
theorem dM.k:Ok Try.prog 9 (mk4 (dM.tw F)):=by
 intro args H v H' h
 unfold mk4 at h
 split at h
 ·exact okT (TB:=aJ) Try.func9 (aM (b_.k F) bA) ae.no ((dM.eqX F (b_.tw F) _ _ H).trans h) (by kernel_rfl)
 ·cases h
def cR.twX (F:Nat) (aa:Int) (aA:Int) (cL:Int) (H:Hp):OA:=(bif (decide (aa>=aA)) then (some ((.bool (decide (aa<=cL))),H)) else (some ((.bool false),H)))
def cR.tw:=cR.twX F
def mk5 (g:atc) (args:atg) (H:Hp):OA:=match args with
 | [(.int .i64 aa),(.int .i64 aA),(.int .i64 cL)]=>g aa aA cL H
 | _=>none
theorem mk5_E (g:atc) (aa:Int) (aA:Int) (cL:Int) (H:Hp):mk5 g [(.int .i64 aa),(.int .i64 aA),(.int .i64 cL)] H=g aa aA cL H:=rfl
theorem cR.k:Ok Try.prog 39 (mk5 (cR.tw F)):=by
 intro args H v H' h
 unfold mk5 at h
 split at h
 ·exact ok0 Try.func39 (Eq.trans (by kernel_rfl) h) (by kernel_rfl) (by kernel_rfl)
 ·cases h
def cW.twX (F:Nat) (aa:Int) (af:Int) (bV:Int) (bW:Int) (bQ:Int) (cD:Int) (H:Hp):OA:=(Hp.new H [(.int .i64 aa),(.int .i64 af),(.int .i64 bV),(.int .i64 bW),(.int .i64 bQ)]).bind λH7=>(Hp.ldI H7 .i64 H.length 0).bind λn8=>(Hp.ldI H7 .i64 H.length 1).bind λn9=>(Hp.ldI H7 .i64 H.length 2).bind λn10=>(Hp.ldI H7 .i64 H.length 3).bind λn11=>(Hp.new H7 [(.int .i64 n8),(.int .i64 n9),(.int .i64 n10),(.int .i64 n11)]).bind λH12=>(Sl.idx (⟨some (H7.length,0),4,.ex 4⟩:Sl) cD 1).bind λp13=>(Hp.ldI H12 .i64 p13.1 p13.2).bind λn14=>some ((.int .i64 n14),H12)
def cW.tw:=cW.twX F
def mk6 (g:ata) (args:atg) (H:Hp):OA:=match args with
 | [(.agg [(.int .i64 aa),(.int .i64 af),(.int .i64 bV),(.int .i64 bW),(.int .i64 bQ)]),(.int .i64 cD)]=>g aa af bV bW bQ cD H
 | _=>none
theorem mk6_E (g:ata) (aa:Int) (af:Int) (bV:Int) (bW:Int) (bQ:Int) (cD:Int) (H:Hp):mk6 g [(.agg [(.int .i64 aa),(.int .i64 af),(.int .i64 bV),(.int .i64 bW),(.int .i64 bQ)]),(.int .i64 cD)] H=g aa af bV bW bQ cD H:=rfl
theorem cW.k:Ok Try.prog 95 (mk6 (cW.tw F)):=by
 intro args H v H' h
 unfold mk6 at h
 split at h
 ·exact ok0 Try.func95 (Eq.trans (by kernel_rfl) h) (by kernel_rfl) (by kernel_rfl)
 ·cases h
def cX.twX (F:Nat) (aa:Int) (af:Int) (bV:Int) (bW:Int) (bQ:Int) (cD:Int) (H:Hp):OA:=(Hp.new H [(.int .i64 aa),(.int .i64 af),(.int .i64 bV),(.int .i64 bW),(.int .i64 bQ)]).bind λH7=>(bif (cD==0) then (some ((.bool true),H7)) else ((bif (cD==3) then ((Hp.ldI H7 .i64 H.length 4).bind λn8=>(bif (n8==1) then (some ((.bool true),H7)) else ((bif (cD==1) then ((Hp.ldI H7 .i64 H.length 4).bind λn9=>some ((.bool (n9==(-1))),H7)) else (some ((.bool false),H7)))))) else ((bif (cD==1) then ((Hp.ldI H7 .i64 H.length 4).bind λn10=>some ((.bool (n10==(-1))),H7)) else (some ((.bool false),H7)))))))
def cX.tw:=cX.twX F
theorem cX.k:Ok Try.prog 96 (mk6 (cX.tw F)):=by
 intro args H v H' h
 unfold mk6 at h
 split at h
 ·exact ok0 Try.func96 (Eq.trans (by kernel_rfl) h) (by kernel_rfl) (by kernel_rfl)
 ·cases h
def bc.l3927 (F:Nat) (bB:ata) (bX:atc) (bC:ata) (C61_:at0):Nat->Nat->Nat->Int->Sl->Sl->Int->Nat->Nat->Int->Hp->OA
 | 0,_,_,_,_,_,_,_,_,_,_=>none
 | UQ+1,mD,wV,gV,pu,pv,fZ,f_,iK,gm,H126=>(bif (decide (gm<4)) then ((Hp.ldI H126 .i64 f_ iK).bind λn151=>(Hp.ldI H126 .i64 f_ (iK+1)).bind λn152=>(Hp.ldI H126 .i64 f_ (iK+2)).bind λn153=>(Hp.ldI H126 .i64 f_ (iK+3)).bind λn154=>(Hp.ldI H126 .i64 f_ (iK+4)).bind λn155=>(bB n151 n152 n153 n154 n155 gm H126).bind λr156=>((r156.1).asI .i64).bind λn157=>(bX n157 0 (wrap .i64 (gV - 1)) r156.2).bind λr158=>((r158.1).asB).bind λb159=>(bif (!b159) then (some ((.bool false),r158.2)) else ((Hp.ldI r158.2 .i64 f_ iK).bind λn160=>(Hp.ldI r158.2 .i64 f_ (iK+1)).bind λn161=>(Hp.ldI r158.2 .i64 f_ (iK+2)).bind λn162=>(Hp.ldI r158.2 .i64 f_ (iK+3)).bind λn163=>(Hp.ldI r158.2 .i64 f_ (iK+4)).bind λn164=>(bC n160 n161 n162 n163 n164 gm r158.2).bind λr165=>((r165.1).asB).bind λb166=>(bif b166 then ((Sl.idx pu n157 1).bind λp167=>(Hp.ldB r165.2 p167.1 p167.2).bind λb168=>(bif b168 then (some ((.bool false),r165.2)) else ((Sl.idx pu n157 1).bind λp169=>(Hp.st r165.2 p169.1 p169.2 (.bool true)).bind λH170=>bc.l3927 F bB bX bC C61_ UQ mD wV gV pu pv fZ f_ iK (wrap .i64 (gm+1)) H170))) else ((Sl.idx pv n157 1).bind λp171=>(Hp.ldB r165.2 p171.1 p171.2).bind λb172=>(bif b172 then (some ((.bool false),r165.2)) else ((Sl.idx pv n157 1).bind λp173=>(Hp.st r165.2 p173.1 p173.2 (.bool true)).bind λH174=>bc.l3927 F bB bX bC C61_ UQ mD wV gV pu pv fZ f_ iK (wrap .i64 (gm+1)) H174))))))) else (C61_ mD wV gV pu pv (wrap .i64 (fZ+1)) H126))
termination_by structural n=>n
def bc.l61 (F:Nat) (bB:ata) (bX:atc) (bC:ata) :Nat->Nat->Nat->Int->Sl->Sl->Int->Hp->OA
 | 0,_,_,_,_,_,_,_=>none
 | bE+1,fB,d_,gn,ki,eZ,gW,H16=>(Hp.ldSl H16 fB d_).bind λs96=>(bif (decide (gW<(s96.n:Int))) then ((Hp.ldSl H16 fB d_).bind λs97=>(Sl.idx s97 gW 5).bind λp98=>(Hp.ldI H16 .i64 p98.1 p98.2).bind λn99=>(Hp.ldI H16 .i64 p98.1 (p98.2+1)).bind λn100=>(Hp.ldI H16 .i64 p98.1 (p98.2+2)).bind λn101=>(Hp.ldI H16 .i64 p98.1 (p98.2+3)).bind λn102=>(Hp.ldI H16 .i64 p98.1 (p98.2+4)).bind λn103=>(Hp.new H16 [.int .i64 0,.int .i64 0,.int .i64 0,.int .i64 0,.int .i64 0]).bind λH104=>(Hp.st H104 H16.length 0 (.int .i64 n99)).bind λH105=>(Hp.st H105 H16.length (0+1) (.int .i64 n100)).bind λH106=>(Hp.st H106 H16.length (0+1+1) (.int .i64 n101)).bind λH107=>(Hp.st H107 H16.length (0+1+1+1) (.int .i64 n102)).bind λH108=>(Hp.st H108 H16.length (0+1+1+1+1) (.int .i64 n103)).bind λH109=>(Hp.ldI H109 .i64 H16.length 4).bind λn110=>(bif (n110 != 1) then ((Hp.ldI H109 .i64 H16.length 4).bind λn111=>(bif (n111 != (-1)) then (some ((.bool false),H109)) else (bc.l3927 F bB bX bC (bc.l61 F bB bX bC bE) F fB d_ gn ki eZ gW H16.length 0 0 H109))) else (bc.l3927 F bB bX bC (bc.l61 F bB bX bC bE) F fB d_ gn ki eZ gW H16.length 0 0 H109))) else (some ((.bool true),H16)))
termination_by structural n=>n
def bc.twX (bB:ata) (bX:atc) (bC:ata) (aa:Sl) (af:Int) (H:Hp):OA:=(Hp.new H [(.sl aa),(.int .i64 af)]).bind λH3=>(Hp.ldSl H3 H.length 0).bind λs4=>(Hp.mk H3 [.bool false] 1 (wrap .i64 (2 * (s4.n:Int))) (wrap .i64 (2 * (s4.n:Int)))).bind λm5=>(Hp.mk m5.2 [.bool false] 1 (wrap .i64 (2 * (s4.n:Int))) (wrap .i64 (2 * (s4.n:Int)))).bind λm6=>bc.l61 F bB bX bC F H.length 0 (wrap .i64 (2 * (s4.n:Int))) m5.1 m6.1 0 m6.2
def bc.tw:=bc.twX F (cW.tw F) (cR.tw F) (cX.tw F)
def bc.lh61 (bB:ata) (bX:atc) (bC:ata) (ks:as7) (n:Nat) (tm:Tm) (H:Hp):OA:=match ks,tm 1,tm 3,tm 4,tm 5,tm 6 with
 | [],(.ptr fB d_),(.int .i64 gn),(.sl ki),(.sl eZ),(.int .i64 gW)=>bc.l61 F bB bX bC n fB d_ gn ki eZ gW H
 | _,_,_,_,_,_=>none
def bc.lh3927 (bB:ata) (bX:atc) (bC:ata) (ks:as7) (n:Nat) (tm:Tm) (H:Hp):OA:=match ks,tm 1,tm 3,tm 4,tm 5,tm 6,tm 7,tm 8 with
 | [bE],(.ptr mD wV),(.int .i64 gV),(.sl pu),(.sl pv),(.int .i64 fZ),(.ptr f_ iK),(.int .i64 gm)=>bc.l3927 F bB bX bC (bc.l61 F bB bX bC bE) n mD wV gV pu pv fZ f_ iK gm H
 | _,_,_,_,_,_,_,_=>none
def bc.lh (bB:ata) (bX:atc) (bC:ata) (p:Nat) (ks:as7) (n:Nat) (tm:Tm) (H:Hp):OA:=bif p.beq 3927 then bc.lh3927 F bB bX bC ks n tm H else (bif p.beq 61 then bc.lh61 F bB bX bC ks n tm H else (none))
def bc.tb:Nat->List (List Nat):=cQ [(2,[[],[0],[],[2],[0,1],[0,1,2,3,4]])]
def bc.cs (F:Nat) (bB:ata) (bX:atc) (bC:ata):Cs:=[(95,mk6 bB),(39,mk5 bX),(96,mk6 bC)]
theorem bc.loops (bB:ata) (bX:atc) (bC:ata):LO (aY (bc.cs F bB bX bC)) aJ (bc.lh F bB bX bC) F Try.f50:=
 (ae.rt (ae.rt (ae.rt (ae.lt (ae.rt (ae.block (ae.la (λn tm H r h=>by change bc.lh61 F bB bX bC [] n tm H=_ at h;unfold bc.lh61 at h;split at h;have e:bK tm [(1,_),(3,_),(4,_),(5,_),(6,_)]:=⟨‹_›,‹_›,‹_›,‹_›,‹_›,trivial⟩;obtain _ | k61:=n;cases h;exact ⟨_,rfl,by rw [<- bM e];exact Eq.trans (by kernel_rfl) h⟩;cases h) λk61=>(ae.rt (ae.lt (ae.block (ae.rt (ae.rt (ae.rt (ae.block (ae.la (λn tm H r h=>by change bc.lh3927 F bB bX bC [k61] n tm H=_ at h;unfold bc.lh3927 at h;split at h;have e:bK tm [(1,_),(3,_),(4,_),(5,_),(6,_),(7,_),(8,_)]:=⟨‹_›,‹_›,‹_›,‹_›,‹_›,‹_›,‹_›,trivial⟩;cases (show [k61]=_ from ‹_›);obtain _ | k3927:=n;cases h;exact ⟨_,rfl,by rw [<- bM e];exact Eq.trans (by kernel_rfl) h⟩;cases h) λk3927=>ae.no)))))))))))))))
theorem bc.eqX (bB:ata) (bX:atc) (bC:ata) (aa:Sl) (af:Int) (H:Hp):EX (aY (bc.cs F bB bX bC)) aJ (bc.lh F bB bX bC) F Try.f50 [(.agg [(.sl aa),(.int .i64 af)])] H=bc.twX F bB bX bC aa af H:=by kernel_rfl
theorem bc.k:Ok Try.prog 50 (mk4 (bc.tw F)):=by
 intro args H v H' h
 unfold mk4 at h
 split at h
 ·exact okT (TB:=bc.tb) Try.func50 (aM (cW.k F) (aM (cR.k F) (aM (cX.k F) bA))) (bc.loops F (cW.tw F) (cR.tw F) (cX.tw F)) ((bc.eqX F (cW.tw F) (cR.tw F) (cX.tw F) _ _ H).trans h) (by kernel_rfl)
 ·cases h
def aK.j3 (F:Nat) (bB:ata) (bC:ata) (C13_:atG) (nB:Int) (rX:Bool) (rY:Nat) (agC:Nat) (rZ:Int) (H147:Hp):OA:=C13_ nB rX rY agC (wrap .i64 (rZ+1)) H147
def aK.j4 (bB:ata) (bC:ata) (C13_:atG) (gX:Int) (r_:Bool) (AF:Nat) (agD:Nat) (sb:Int) (H134:Hp):OA:=aK.j3 F bB bC C13_ gX r_ AF agD sb H134
def aK.l213 (F:Nat) (bB:ata) (bC:ata) (C13_:atG):Nat->Int->Bool->Nat->Nat->Int->Int->Hp->OA
 | 0,_,_,_,_,_,_,_=>none
 | UR+1,gY,gZ,kj,pw,fC,cZ,H103=>(bif (decide (cZ<4)) then ((Hp.ldSl H103 kj pw).bind λs148=>(Sl.idx s148 fC 5).bind λp149=>(Hp.ldI H103 .i64 p149.1 p149.2).bind λn150=>(Hp.ldI H103 .i64 p149.1 (p149.2+1)).bind λn151=>(Hp.ldI H103 .i64 p149.1 (p149.2+2)).bind λn152=>(Hp.ldI H103 .i64 p149.1 (p149.2+3)).bind λn153=>(Hp.ldI H103 .i64 p149.1 (p149.2+4)).bind λn154=>(bB n150 n151 n152 n153 n154 cZ H103).bind λr155=>((r155.1).asI .i64).bind λn156=>(bif (n156==gY) then ((Hp.ldSl r155.2 kj pw).bind λs157=>(Sl.idx s157 fC 5).bind λp158=>(Hp.ldI r155.2 .i64 p158.1 p158.2).bind λn159=>(Hp.ldI r155.2 .i64 p158.1 (p158.2+1)).bind λn160=>(Hp.ldI r155.2 .i64 p158.1 (p158.2+2)).bind λn161=>(Hp.ldI r155.2 .i64 p158.1 (p158.2+3)).bind λn162=>(Hp.ldI r155.2 .i64 p158.1 (p158.2+4)).bind λn163=>(bC n159 n160 n161 n162 n163 cZ r155.2).bind λr164=>((r164.1).asB).bind λb165=>(bif (b165==gZ) then (some ((.tup [(.int .i64 fC),(.int .i64 cZ)]),r164.2)) else (aK.l213 F bB bC C13_ UR gY gZ kj pw fC (wrap .i64 (cZ+1)) r164.2))) else (aK.l213 F bB bC C13_ UR gY gZ kj pw fC (wrap .i64 (cZ+1)) r155.2))) else (aK.j4 F bB bC C13_ gY gZ kj pw fC H103))
termination_by structural n=>n
def aK.l13 (F:Nat) (bB:ata) (bC:ata) :Nat->Int->Bool->Nat->Nat->Int->Hp->OA
 | 0,_,_,_,_,_,_=>none
 | mE+1,ct,fD,eA,ga,kl,H15=>(Hp.ldSl H15 eA ga).bind λs91=>(bif (decide (kl<(s91.n:Int))) then (aK.l213 F bB bC (aK.l13 F bB bC mE) F ct fD eA ga kl 0 H15) else (some ((.tup [(.int .i64 (-1)),(.int .i64 (-1))]),H15)))
termination_by structural n=>n
def aK.twX (bB:ata) (bC:ata) (aa:Sl) (af:Int) (au:Int) (iL:Bool) (H:Hp):OA:=(Hp.new H [(.sl aa),(.int .i64 af)]).bind λH5=>aK.l13 F bB bC F au iL H.length 0 0 H5
def aK.tw:=aK.twX F (cW.tw F) (cX.tw F)
def aK.lh13 (bB:ata) (bC:ata) (ks:as7) (n:Nat) (tm:Tm) (H:Hp):OA:=match ks,tm 1,tm 2,tm 3,tm 8 with
 | [],(.int .i64 ct),(.bool fD),(.ptr eA ga),(.int .i64 kl)=>aK.l13 F bB bC n ct fD eA ga kl H
 | _,_,_,_,_=>none
def aK.lh213 (bB:ata) (bC:ata) (ks:as7) (n:Nat) (tm:Tm) (H:Hp):OA:=match ks,tm 1,tm 2,tm 3,tm 8,tm 9 with
 | [mE],(.int .i64 gY),(.bool gZ),(.ptr kj pw),(.int .i64 fC),(.int .i64 cZ)=>aK.l213 F bB bC (aK.l13 F bB bC mE) n gY gZ kj pw fC cZ H
 | _,_,_,_,_,_=>none
def aK.lh (bB:ata) (bC:ata) (p:Nat) (ks:as7) (n:Nat) (tm:Tm) (H:Hp):OA:=bif p.beq 213 then aK.lh213 F bB bC ks n tm H else (bif p.beq 13 then aK.lh13 F bB bC ks n tm H else (none))
def mk7 (g:atj) (args:atg) (H:Hp):OA:=match args with
 | [(.agg [(.sl aa),(.int .i64 af)]),(.int .i64 au),(.bool iL)]=>g aa af au iL H
 | _=>none
theorem mk7_E (g:atj) (aa:Sl) (af:Int) (au:Int) (iL:Bool) (H:Hp):mk7 g [(.agg [(.sl aa),(.int .i64 af)]),(.int .i64 au),(.bool iL)] H=g aa af au iL H:=rfl
def aK.cs (F:Nat) (bB:ata) (bC:ata):Cs:=[(95,mk6 bB),(96,mk6 bC)]
theorem aK.loops (bB:ata) (bC:ata):LO (aY (aK.cs F bB bC)) aJ (aK.lh F bB bC) F Try.f98:=
 (ae.rt (ae.lt (ae.rt (ae.block (ae.la (λn tm H r h=>by change aK.lh13 F bB bC [] n tm H=_ at h;unfold aK.lh13 at h;split at h;have e:bK tm [(1,_),(2,_),(3,_),(8,_)]:=⟨‹_›,‹_›,‹_›,‹_›,trivial⟩;obtain _ | k13:=n;cases h;exact ⟨_,rfl,by rw [<- bM e];exact Eq.trans (by kernel_rfl) h⟩;cases h) λk13=>(ae.rt (ae.lt (ae.block (ae.rt (ae.block (ae.la (λn tm H r h=>by change aK.lh213 F bB bC [k13] n tm H=_ at h;unfold aK.lh213 at h;split at h;have e:bK tm [(1,_),(2,_),(3,_),(8,_),(9,_)]:=⟨‹_›,‹_›,‹_›,‹_›,‹_›,trivial⟩;cases (show [k13]=_ from ‹_›);obtain _ | k213:=n;cases h;exact ⟨_,rfl,by rw [<- bM e];exact Eq.trans (by kernel_rfl) h⟩;cases h) λk213=>ae.no)))))))))))
theorem aK.eqX (bB:ata) (bC:ata) (aa:Sl) (af:Int) (au:Int) (iL:Bool) (H:Hp):EX (aY (aK.cs F bB bC)) aJ (aK.lh F bB bC) F Try.f98 [(.agg [(.sl aa),(.int .i64 af)]),(.int .i64 au),(.bool iL)] H=aK.twX F bB bC aa af au iL H:=by kernel_rfl
theorem aK.k:Ok Try.prog 98 (mk7 (aK.tw F)):=by
 intro args H v H' h
 unfold mk7 at h
 split at h
 ·exact okT (TB:=aJ) Try.func98 (aM (cW.k F) (aM (cX.k F) bA)) (aK.loops F (cW.tw F) (cX.tw F)) ((aK.eqX F (cW.tw F) (cX.tw F) _ _ _ _ H).trans h) (by kernel_rfl)
 ·cases h
def dc.twX (F:Nat) (bB:ata) (bC:ata) (ch:atj) (aa:Sl) (af:Int) (au:Int) (H:Hp):OA:=(Hp.new H [(.sl aa),(.int .i64 af)]).bind λH4=>(Hp.ldSl H4 H.length 0).bind λs5=>(Sl.idx s5 (wrap .i64 (Int.tdiv au 4)) 5).bind λp6=>(Hp.ldI H4 .i64 p6.1 p6.2).bind λn7=>(Hp.ldI H4 .i64 p6.1 (p6.2+1)).bind λn8=>(Hp.ldI H4 .i64 p6.1 (p6.2+2)).bind λn9=>(Hp.ldI H4 .i64 p6.1 (p6.2+3)).bind λn10=>(Hp.ldI H4 .i64 p6.1 (p6.2+4)).bind λn11=>(Hp.new H4 [.int .i64 0,.int .i64 0,.int .i64 0,.int .i64 0,.int .i64 0]).bind λH12=>(Hp.st H12 H4.length 0 (.int .i64 n7)).bind λH13=>(Hp.st H13 H4.length (0+1) (.int .i64 n8)).bind λH14=>(Hp.st H14 H4.length (0+1+1) (.int .i64 n9)).bind λH15=>(Hp.st H15 H4.length (0+1+1+1) (.int .i64 n10)).bind λH16=>(Hp.st H16 H4.length (0+1+1+1+1) (.int .i64 n11)).bind λH17=>(Hp.ldSl H17 H.length 0).bind λs18=>(Hp.ldI H17 .i64 H.length (0+1)).bind λn19=>(Hp.ldI H17 .i64 H4.length 0).bind λn20=>(Hp.ldI H17 .i64 H4.length (0+1)).bind λn21=>(Hp.ldI H17 .i64 H4.length (0+2)).bind λn22=>(Hp.ldI H17 .i64 H4.length (0+3)).bind λn23=>(Hp.ldI H17 .i64 H4.length (0+4)).bind λn24=>(bB n20 n21 n22 n23 n24 (Int.tmod (wrap .i64 ((Int.tmod au 4)+1)) 4) H17).bind λr25=>((r25.1).asI .i64).bind λn26=>(if aZ H17 r25.2 then ((Hp.ldI r25.2 .i64 H4.length 0).bind λn27=>(Hp.ldI r25.2 .i64 H4.length (0+1)).bind λn28=>(Hp.ldI r25.2 .i64 H4.length (0+2)).bind λn29=>(Hp.ldI r25.2 .i64 H4.length (0+3)).bind λn30=>(Hp.ldI r25.2 .i64 H4.length (0+4)).bind λn31=>(bC n27 n28 n29 n30 n31 (Int.tmod (wrap .i64 ((Int.tmod au 4)+1)) 4) r25.2).bind λr32=>((r32.1).asB).bind λb33=>(if aZ r25.2 r32.2 then ((ch s18 n19 n26 (!b33) r32.2).bind λr34=>((r34.1).asTup 2).bind λl35=>(l35[0]?).bind λv36=>((v36).asI .i64).bind λn37=>(l35[1]?).bind λv38=>((v38).asI .i64).bind λn39=>some ((.int .i64 (wrap .i64 ((wrap .i64 (4 * n37))+n39))),r34.2)) else none)) else none)
def dc.tw:=dc.twX F (cW.tw F) (cX.tw F) (aK.tw F)
def dc.pn:Nat->List Nat:=cQ [(3,[8])]
def dc.tb:Nat->List (List Nat):=cQ [(3,[[],[],[],[1,2],[],[],[1,2,3,4,5],[1,2,3,4,5,6],[0,1,2,3,4,5,6,7],[0,1,2,3,4,5,6,7,8],[0,1,2,3,4,5,6,7,8,9],[0,1,2,3,4,5,6,7,8,9],[0,1,2,3,4,5,6,7,8,9,10],[0,1,2,3,4,5,6,7,8,9,10,11,12]])]
def dc.cs (F:Nat) (bB:ata) (bC:ata) (ch:atj):Cs:=[(95,mk6 bB),(96,mk6 bC),(98,mk7 ch)]
theorem dc.eqX (bB:ata) (bC:ata) (ch:atj) (aa:Sl) (af:Int) (au:Int) (H:Hp):EX (aY (dc.cs F bB bC ch)) dc.pn lh0 F Try.f97 [(.agg [(.sl aa),(.int .i64 af)]),(.int .i64 au)] H=dc.twX F bB bC ch aa af au H:=by kernel_rfl
theorem dc.k:Ok Try.prog 97 (mk1 (dc.tw F)):=by
 intro args H v H' h
 unfold mk1 at h
 split at h
 ·exact okT (TB:=dc.tb) Try.func97 (aM (cW.k F) (aM (cX.k F) (aM (aK.k F) bA))) ae.no ((dc.eqX F (cW.tw F) (cX.tw F) (aK.tw F) _ _ _ H).trans h) (by kernel_rfl)
 ·cases h
def aP.j4 (F:Nat) (dl:ate) (C61_:ats) (fp:Nat) (Hr:Nat) (Hs:Sl) (Ht:Sl) (sd:Int) (H108:Hp):OA:=C61_ fp Hr Hs Ht (wrap .i64 (sd+1)) H108
def aP.j5 (F:Nat) (dl:ate) (C61_:ats) (AG:Nat) (agE:Nat) (agF:Sl) (agG:Sl) (se:Int) (H164:Hp):OA:=C61_ AG agE agF agG (wrap .i64 (se+1)) H164
def aP.j6 (dl:ate) (C61_:ats) (AH:Nat) (nB:Nat) (rY:Sl) (Hu:Sl) (kn:Int) (agH:Sl) (H147:Hp):OA:=(Hp.new H147 [(.sl agH)]).bind λH148=>(Sl.row H148 (⟨some (H147.length,0),1,.ex 1⟩:Sl) 1).bind λxs150=>(Hp.app H148 1 24 rY (⟨some (H147.length,0),1,.ex 1⟩:Sl).n xs150).bind λa149=>aP.j5 F dl C61_ AH nB a149.1 Hu kn a149.2
def aP.l7853 (F:Nat) (dl:ate) (C61_:ats):Nat->Nat->Nat->Sl->Sl->Int->Sl->Int->Hp->OA
 | 0,_,_,_,_,_,_,_,_=>none
 | agI+1,lL,sf,AI,si,ko,fZ,gp,H122=>(Sl.idx si gp 1).bind λp165=>(Hp.ldB H122 p165.1 p165.2).bind λb166=>(bif (!b166) then ((Sl.idx si gp 1).bind λp167=>(Hp.st H122 p167.1 p167.2 (.bool true)).bind λH168=>(Hp.new H168 [(.int .i64 gp)]).bind λH169=>(Sl.row H169 (⟨some (H168.length,0),1,.ex 1⟩:Sl) 1).bind λxs171=>(Hp.app H169 1 8 fZ (⟨some (H168.length,0),1,.ex 1⟩:Sl).n xs171).bind λa170=>(Hp.ldSl a170.2 lL sf).bind λs172=>(Hp.ldI a170.2 .i64 lL (sf+1)).bind λn173=>(dl s172 n173 gp a170.2).bind λr174=>((r174.1).asI .i64).bind λn175=>aP.l7853 F dl C61_ agI lL sf AI si ko a170.1 n175 r174.2) else (aP.j6 F dl C61_ lL sf AI si ko fZ H122))
termination_by structural n=>n
def aP.l61 (F:Nat) (dl:ate) :Nat->Nat->Nat->Sl->Sl->Int->Hp->OA
 | 0,_,_,_,_,_,_=>none
 | bE+1,fB,d_,gn,ki,eZ,H15=>(bif (decide (eZ<(ki.n:Int))) then ((Sl.idx ki eZ 1).bind λp96=>(Hp.ldB H15 p96.1 p96.2).bind λb97=>(bif b97 then (aP.j4 F dl (aP.l61 F dl bE) fB d_ gn ki eZ H15) else ((Hp.new H15 []).bind λH109=>aP.l7853 F dl (aP.l61 F dl bE) F fB d_ gn ki eZ (⟨some (H15.length,0),0,.ex 0⟩:Sl) eZ H109))) else (some ((.sl gn),H15)))
termination_by structural n=>n
def aP.twX (dl:ate) (aa:Sl) (af:Int) (H:Hp):OA:=(Hp.new H [(.sl aa),(.int .i64 af)]).bind λH3=>(Hp.new H3 []).bind λH4=>(Hp.ldSl H4 H.length 0).bind λs5=>(Hp.mk H4 [.bool false] 1 (wrap .i64 (4 * (s5.n:Int))) (wrap .i64 (4 * (s5.n:Int)))).bind λm6=>aP.l61 F dl F H.length 0 (⟨some (H3.length,0),0,.ex 0⟩:Sl) m6.1 0 m6.2
def aP.tw:=aP.twX F (dc.tw F)
def aP.lh61 (dl:ate) (ks:as7) (n:Nat) (tm:Tm) (H:Hp):OA:=match ks,tm 1,tm 3,tm 4,tm 5 with
 | [],(.ptr fB d_),(.sl gn),(.sl ki),(.int .i64 eZ)=>aP.l61 F dl n fB d_ gn ki eZ H
 | _,_,_,_,_=>none
def aP.lh7853 (dl:ate) (ks:as7) (n:Nat) (tm:Tm) (H:Hp):OA:=match ks,tm 1,tm 3,tm 4,tm 5,tm 6,tm 7 with
 | [bE],(.ptr lL sf),(.sl AI),(.sl si),(.int .i64 ko),(.sl fZ),(.int .i64 gp)=>aP.l7853 F dl (aP.l61 F dl bE) n lL sf AI si ko fZ gp H
 | _,_,_,_,_,_,_=>none
def aP.lh (dl:ate) (p:Nat) (ks:as7) (n:Nat) (tm:Tm) (H:Hp):OA:=bif p.beq 7853 then aP.lh7853 F dl ks n tm H else (bif p.beq 61 then aP.lh61 F dl ks n tm H else (none))
def aP.cs (F:Nat) (dl:ate):Cs:=[(97,mk1 dl)]
theorem aP.loops (dl:ate):LO (aY (aP.cs F dl)) aJ (aP.lh F dl) F Try.f51:=
 (ae.rt (ae.rt (ae.rt (ae.lt (ae.rt (ae.block (ae.la (λn tm H r h=>by change aP.lh61 F dl [] n tm H=_ at h;unfold aP.lh61 at h;split at h;have e:bK tm [(1,_),(3,_),(4,_),(5,_)]:=⟨‹_›,‹_›,‹_›,‹_›,trivial⟩;obtain _ | k61:=n;cases h;exact ⟨_,rfl,by rw [<- bM e];exact Eq.trans (by kernel_rfl) h⟩;cases h) λk61=>(ae.rt (ae.lt (ae.block (ae.rt (ae.rt (ae.lt (ae.rt (ae.block (ae.la (λn tm H r h=>by change aP.lh7853 F dl [k61] n tm H=_ at h;unfold aP.lh7853 at h;split at h;have e:bK tm [(1,_),(3,_),(4,_),(5,_),(6,_),(7,_)]:=⟨‹_›,‹_›,‹_›,‹_›,‹_›,‹_›,trivial⟩;cases (show [k61]=_ from ‹_›);obtain _ | k7853:=n;cases h;exact ⟨_,rfl,by rw [<- bM e];exact Eq.trans (by kernel_rfl) h⟩;cases h) λk7853=>ae.no))))))))))))))))
theorem aP.eqX (dl:ate) (aa:Sl) (af:Int) (H:Hp):EX (aY (aP.cs F dl)) aJ (aP.lh F dl) F Try.f51 [(.agg [(.sl aa),(.int .i64 af)])] H=aP.twX F dl aa af H:=by kernel_rfl
theorem aP.k:Ok Try.prog 51 (mk4 (aP.tw F)):=by
 intro args H v H' h
 unfold mk4 at h
 split at h
 ·exact okT (TB:=aJ) Try.func51 (aM (dc.k F) bA) (aP.loops F (dc.tw F)) ((aP.eqX F (dc.tw F) _ _ H).trans h) (by kernel_rfl)
 ·cases h
def aD.j6 (F:Nat) (ch:atj) (C61_:atp) (AJ:Nat) (agJ:Nat) (agK:Sl) (sj:Int) (H243:Hp):OA:=C61_ AJ agJ agK (wrap .i64 (sj+1)) H243
def aD.j7 (ch:atj) (C61_:atp) (AK:Nat) (agL:Nat) (sk:Sl) (nC:Int) (H226:Hp):OA:=aD.j6 F ch C61_ AK agL sk nC H226
def aD.j8 (F:Nat) (ch:atj) (C7855_:atU) (AL:Nat) (agM:Nat) (agN:Sl) (sq:Int) (su:Int) (sv:Int) (sw:Int) (H265:Hp):OA:=C7855_ AL agM agN sq su sv (wrap .i64 (sw+1)) H265
def aD.l7855 (F:Nat) (ch:atj) (C61_:atp):Nat->Nat->Nat->Sl->Int->Int->Int->Int->Hp->OA
 | 0,_,_,_,_,_,_,_,_=>none
 | US+1,mF,wW,nD,iX,fE,fF,gq,H187=>(bif (decide (gq<(nD.n:Int))) then ((Sl.idx nD gq 1).bind λp244=>(Hp.ldI H187 .i64 p244.1 p244.2).bind λn245=>(bif (n245==(if fF>fE then fF else fE)) then ((Sl.idx nD gq 1).bind λp246=>(Hp.st H187 p246.1 p246.2 (.int .i64 (if fF<fE then fF else fE))).bind λH247=>aD.j8 F ch (aD.l7855 F ch C61_ US) mF wW nD iX fE fF gq H247) else (aD.j8 F ch (aD.l7855 F ch C61_ US) mF wW nD iX fE fF gq H187))) else (aD.j7 F ch C61_ mF wW nD iX H187))
termination_by structural n=>n
def aD.l61 (F:Nat) (ch:atj) :Nat->Nat->Nat->Sl->Int->Hp->OA
 | 0,_,_,_,_,_=>none
 | bE+1,jL,nE,sx,g_,H35=>(Hp.ldSl H35 jL nE).bind λs151=>(bif (decide (g_<(wrap .i64 (2 * (s151.n:Int))))) then ((Hp.ldSl H35 jL nE).bind λs152=>(Hp.ldI H35 .i64 jL (nE+1)).bind λn153=>(ch s152 n153 g_ true H35).bind λr154=>((r154.1).asTup 2).bind λl155=>(l155[0]?).bind λv156=>((v156).asI .i64).bind λn157=>(l155[1]?).bind λv158=>((v158).asI .i64).bind λn159=>(Hp.ldSl r154.2 jL nE).bind λs160=>(Hp.ldI r154.2 .i64 jL (nE+1)).bind λn161=>(ch s160 n161 g_ false r154.2).bind λr162=>((r162.1).asTup 2).bind λl163=>(l163[0]?).bind λv164=>((v164).asI .i64).bind λn165=>(l163[1]?).bind λv166=>((v166).asI .i64).bind λn167=>(Sl.idx sx n157 1).bind λp168=>(Hp.ldI r162.2 .i64 p168.1 p168.2).bind λn169=>(Sl.idx sx n165 1).bind λp170=>(Hp.ldI r162.2 .i64 p170.1 p170.2).bind λn171=>aD.l7855 F ch (aD.l61 F ch bE) F jL nE sx g_ n169 n171 0 r162.2) else (some ((.sl sx),H35)))
termination_by structural n=>n
def aD.j9 (ch:atj) (AN:Nat) (sy:Nat) (agO:Sl) (H25:Hp):OA:=aD.l61 F ch F AN sy agO 0 H25
def aD.l29 (F:Nat) (ch:atj) :Nat->Nat->Nat->Sl->Int->Hp->OA
 | 0,_,_,_,_,_=>none
 | gU+1,dd,ct,eA,dN,H12=>(Hp.ldSl H12 dd ct).bind λs266=>(bif (decide (dN<(s266.n:Int))) then ((Hp.new H12 [(.int .i64 dN)]).bind λH267=>(Sl.row H267 (⟨some (H12.length,0),1,.ex 1⟩:Sl) 1).bind λxs269=>(Hp.app H267 1 8 eA (⟨some (H12.length,0),1,.ex 1⟩:Sl).n xs269).bind λa268=>aD.l29 F ch gU dd ct a268.1 (wrap .i64 (dN+1)) a268.2) else (aD.j9 F ch dd ct eA H12))
termination_by structural n=>n
def aD.twX (ch:atj) (aa:Sl) (af:Int) (H:Hp):OA:=(Hp.new H [(.sl aa),(.int .i64 af)]).bind λH3=>(Hp.new H3 []).bind λH4=>aD.l29 F ch F H.length 0 (⟨some (H3.length,0),0,.ex 0⟩:Sl) 0 H4
def aD.tw:=aD.twX F (aK.tw F)
def aD.lh29 (ch:atj) (ks:as7) (n:Nat) (tm:Tm) (H:Hp):OA:=match ks,tm 1,tm 3,tm 4 with
 | [],(.ptr dd ct),(.sl eA),(.int .i64 dN)=>aD.l29 F ch n dd ct eA dN H
 | _,_,_,_=>none
def aD.lh61 (ch:atj) (ks:as7) (n:Nat) (tm:Tm) (H:Hp):OA:=match ks,tm 1,tm 3,tm 5 with
 | [],(.ptr jL nE),(.sl sx),(.int .i64 g_)=>aD.l61 F ch n jL nE sx g_ H
 | _,_,_,_=>none
def aD.lh7855 (ch:atj) (ks:as7) (n:Nat) (tm:Tm) (H:Hp):OA:=match ks,tm 1,tm 3,tm 5,tm 10,tm 11,tm 12 with
 | [bE],(.ptr mF wW),(.sl nD),(.int .i64 iX),(.int .i64 fE),(.int .i64 fF),(.int .i64 gq)=>aD.l7855 F ch (aD.l61 F ch bE) n mF wW nD iX fE fF gq H
 | _,_,_,_,_,_,_=>none
def aD.lh (ch:atj) (p:Nat) (ks:as7) (n:Nat) (tm:Tm) (H:Hp):OA:=bif p.beq 7855 then aD.lh7855 F ch ks n tm H else (bif p.beq 61 then aD.lh61 F ch ks n tm H else (bif p.beq 29 then aD.lh29 F ch ks n tm H else (none)))
def aD.tb:Nat->List (List Nat):=cQ [(11,[[],[],[0,1],[0,1,2],[],[],[4,5],[4,5,6],[0,1,2,3],[0,1,2,3,4,5,6,7,8]])]
def aD.cs (F:Nat) (ch:atj):Cs:=[(98,mk7 ch)]
theorem aD.loops (ch:atj):LO (aY (aD.cs F ch)) aJ (aD.lh F ch) F Try.f52:=
 (ae.rt (ae.rt (ae.seq (ae.rt (ae.block (ae.la (λn tm H r h=>by change aD.lh29 F ch [] n tm H=_ at h;unfold aD.lh29 at h;split at h;have e:bK tm [(1,_),(3,_),(4,_)]:=⟨‹_›,‹_›,‹_›,trivial⟩;obtain _ | k29:=n;cases h;exact ⟨_,rfl,by rw [<- bM e];exact Eq.trans (by kernel_rfl) h⟩;cases h) λk29=>ae.no))) (ae.lt (ae.rt (ae.block (ae.la (λn tm H r h=>by change aD.lh61 F ch [] n tm H=_ at h;unfold aD.lh61 at h;split at h;have e:bK tm [(1,_),(3,_),(5,_)]:=⟨‹_›,‹_›,‹_›,trivial⟩;obtain _ | k61:=n;cases h;exact ⟨_,rfl,by rw [<- bM e];exact Eq.trans (by kernel_rfl) h⟩;cases h) λk61=>(ae.rt (ae.lt (ae.block (ae.rt (ae.rt (ae.rt (ae.rt (ae.block (ae.la (λn tm H r h=>by change aD.lh7855 F ch [k61] n tm H=_ at h;unfold aD.lh7855 at h;split at h;have e:bK tm [(1,_),(3,_),(5,_),(10,_),(11,_),(12,_)]:=⟨‹_›,‹_›,‹_›,‹_›,‹_›,‹_›,trivial⟩;cases (show [k61]=_ from ‹_›);obtain _ | k7855:=n;cases h;exact ⟨_,rfl,by rw [<- bM e];exact Eq.trans (by kernel_rfl) h⟩;cases h) λk7855=>ae.no))))))))))))))))
theorem aD.eqX (ch:atj) (aa:Sl) (af:Int) (H:Hp):EX (aY (aD.cs F ch)) aJ (aD.lh F ch) F Try.f52 [(.agg [(.sl aa),(.int .i64 af)])] H=aD.twX F ch aa af H:=by kernel_rfl
theorem aD.k:Ok Try.prog 52 (mk4 (aD.tw F)):=by
 intro args H v H' h
 unfold mk4 at h
 split at h
 ·exact okT (TB:=aD.tb) Try.func52 (aM (aK.k F) bA) (aD.loops F (aK.tw F)) ((aD.eqX F (aK.tw F) _ _ H).trans h) (by kernel_rfl)
 ·cases h
def bw.j2 (F:Nat) (e_:as2) (C61_:atu) (sB:Int) (agP:Sl) (sC:Int) (H42:Hp):OA:=C61_ sB agP (wrap .i64 (sC+1)) H42
def bw.l61 (F:Nat) (e_:as2) :Nat->Int->Sl->Int->Hp->OA
 | 0,_,_,_,_=>none
 | bE+1,iY,sD,gr,H16=>(bif (decide (gr<(sD.n:Int))) then ((Sl.idx sD gr 1).bind λp30=>(Hp.ldI H16 .i64 p30.1 p30.2).bind λn31=>(bif (n31==gr) then (bw.j2 F e_ (bw.l61 F e_ bE) (wrap .i64 (iY+1)) sD gr H16) else (bw.j2 F e_ (bw.l61 F e_ bE) iY sD gr H16))) else (some ((.int .i64 iY),H16)))
def bw.twX (e_:as2) (aa:Sl) (af:Int) (H:Hp):OA:=(Hp.new H [(.sl aa),(.int .i64 af)]).bind λH3=>(Hp.ldSl H3 H.length 0).bind λs4=>(Hp.ldI H3 .i64 H.length (0+1)).bind λn5=>(e_ s4 n5 H3).bind λr6=>((r6.1).asSl).bind λs7=>bw.l61 F e_ F 0 s7 0 r6.2
def bw.tw:=bw.twX F (aD.tw F)
def bw.lh61 (e_:as2) (ks:as7) (n:Nat) (tm:Tm) (H:Hp):OA:=match ks,tm 3,tm 4,tm 5 with
 | [],(.int .i64 iY),(.sl sD),(.int .i64 gr)=>bw.l61 F e_ n iY sD gr H
 | _,_,_,_=>none
def bw.lh (e_:as2) (p:Nat) (ks:as7) (n:Nat) (tm:Tm) (H:Hp):OA:=bif p.beq 61 then bw.lh61 F e_ ks n tm H else (none)
def bw.cs (F:Nat) (e_:as2):Cs:=[(52,mk4 e_)]
theorem bw.loops (e_:as2):LO (aY (bw.cs F e_)) aJ (bw.lh F e_) F Try.f27:=
 (ae.rt (ae.rt (ae.rt (ae.lt (ae.rt (ae.block (ae.la (λn tm H r h=>by change bw.lh61 F e_ [] n tm H=_ at h;unfold bw.lh61 at h;split at h;have e:bK tm [(3,_),(4,_),(5,_)]:=⟨‹_›,‹_›,‹_›,trivial⟩;obtain _ | k61:=n;cases h;exact ⟨_,rfl,by rw [<- bM e];exact Eq.trans (by kernel_rfl) h⟩;cases h) λk61=>ae.no)))))))
theorem bw.eqX (e_:as2) (aa:Sl) (af:Int) (H:Hp):EX (aY (bw.cs F e_)) aJ (bw.lh F e_) F Try.f27 [(.agg [(.sl aa),(.int .i64 af)])] H=bw.twX F e_ aa af H:=by kernel_rfl
theorem bw.k:Ok Try.prog 27 (mk4 (bw.tw F)):=by
 intro args H v H' h
 unfold mk4 at h
 split at h
 ·exact okT (TB:=aJ) Try.func27 (aM (aD.k F) bA) (bw.loops F (aD.tw F)) ((bw.eqX F (aD.tw F) _ _ H).trans h) (by kernel_rfl)
 ·cases h
def dE.twX (F:Nat) (bX:atc) (sE:as2) (sF:as2) (sG:as2) (aa:Sl) (af:Int) (H:Hp):OA:=(Hp.new H [(.sl aa),(.int .i64 af)]).bind λH3=>(Hp.ldSl H3 H.length 0).bind λs4=>(bif (decide ((s4.n:Int)>10)) then (some ((.bool false),H3)) else ((Hp.ldI H3 .i64 H.length 1).bind λn5=>(bX n5 0 8 H3).bind λr6=>((r6.1).asB).bind λb7=>(bif (!b7) then (some ((.bool false),r6.2)) else ((Hp.ldSl r6.2 H.length 0).bind λs8=>(Hp.ldI r6.2 .i64 H.length (0+1)).bind λn9=>(sE s8 n9 r6.2).bind λr10=>((r10.1).asB).bind λb11=>(bif (!b11) then (some ((.bool false),r10.2)) else ((Hp.ldSl r10.2 H.length 0).bind λs12=>(Hp.ldI r10.2 .i64 H.length (0+1)).bind λn13=>(sF s12 n13 r10.2).bind λr14=>((r14.1).asSl).bind λs15=>(if aZ r10.2 r14.2 then ((Hp.ldSl r14.2 H.length 0).bind λs16=>(Hp.ldSl r14.2 H.length 0).bind λs17=>(Hp.ldI r14.2 .i64 H.length (0+1)).bind λn18=>(sG s17 n18 r14.2).bind λr19=>((r19.1).asI .i64).bind λn20=>(if aZ r14.2 r19.2 then (some ((.bool ((s15.n:Int)==(wrap .i64 ((s16.n:Int)+(wrap .i64 (2 * n20)))))),r19.2)) else none)) else none)))))))
def dE.tw:=dE.twX F (cR.tw F) (bc.tw F) (aP.tw F) (bw.tw F)
def dE.tb:Nat->List (List Nat):=cQ [(3,[[],[0],[0,1],[],[3],[3,4],[],[0,1,6],[0,1,6,7],[0,1,3,4,5,6,7,8],[0,1,2,3,4,5,6,7,8,9],[0,1,2,3,4,5,6,7,8,9,10]])]
def dE.cs (F:Nat) (bX:atc) (sE:as2) (sF:as2) (sG:as2):Cs:=[(39,mk5 bX),(50,mk4 sE),(51,mk4 sF),(27,mk4 sG)]
theorem dE.eqX (bX:atc) (sE:as2) (sF:as2) (sG:as2) (aa:Sl) (af:Int) (H:Hp):EX (aY (dE.cs F bX sE sF sG)) aJ lh0 F Try.f26 [(.agg [(.sl aa),(.int .i64 af)])] H=dE.twX F bX sE sF sG aa af H:=by kernel_rfl
theorem dE.k:Ok Try.prog 26 (mk4 (dE.tw F)):=by
 intro args H v H' h
 unfold mk4 at h
 split at h
 ·exact okT (TB:=dE.tb) Try.func26 (aM (cR.k F) (aM (bc.k F) (aM (aP.k F) (aM (bw.k F) bA)))) ae.no ((dE.eqX F (cR.tw F) (bc.tw F) (aP.tw F) (bw.tw F) _ _ H).trans h) (by kernel_rfl)
 ·cases h
def aj.j6 (F:Nat) (AO:Nat) (agQ:Nat) (agR:Sl) (sH:Int) (H211:Hp):OA:=(Hp.ldI H211 .i64 AO (agQ+1)).bind λn212=>some ((.tup [(.sl agR),(.int .i64 (wrap .i64 (sH+n212)))]),H211)
def aj.j7 (F:Nat) (C509_:atW) (AP:Nat) (agS:Nat) (agT:Sl) (agU:Sl) (sI:Int) (sJ:Int) (H234:Hp):OA:=C509_ AP agS agT agU sI (wrap .i64 (sJ+1)) H234
def aj.l509 (F:Nat) :Nat->Nat->Nat->Sl->Sl->Int->Int->Hp->OA
 | 0,_,_,_,_,_,_,_=>none
 | AQ+1,mG,wX,pz,sK,gu,fG,H166=>(bif (decide (fG<(pz.n:Int))) then ((Sl.idx pz fG 1).bind λp213=>(Hp.ldI H166 .i64 p213.1 p213.2).bind λn214=>(bif (n214==fG) then ((Hp.new H166 [(.int .i64 gu)]).bind λH215=>(Sl.row H215 (⟨some (H166.length,0),1,.ex 1⟩:Sl) 1).bind λxs217=>(Hp.app H215 1 8 sK (⟨some (H166.length,0),1,.ex 1⟩:Sl).n xs217).bind λa216=>aj.j7 F (aj.l509 F AQ) mG wX pz a216.1 (wrap .i64 (gu+1)) fG a216.2) else ((Sl.idx pz fG 1).bind λp235=>(Hp.ldI H166 .i64 p235.1 p235.2).bind λn236=>(Sl.idx sK n236 1).bind λp237=>(Hp.ldI H166 .i64 p237.1 p237.2).bind λn238=>(Hp.new H166 [(.int .i64 n238)]).bind λH239=>(Sl.row H239 (⟨some (H166.length,0),1,.ex 1⟩:Sl) 1).bind λxs241=>(Hp.app H239 1 8 sK (⟨some (H166.length,0),1,.ex 1⟩:Sl).n xs241).bind λa240=>aj.j7 F (aj.l509 F AQ) mG wX pz a240.1 gu fG a240.2))) else (aj.j6 F mG wX sK gu H166))
termination_by structural n=>n
def aj.j8 (AR:Nat) (agV:Nat) (agW:Sl) (H150:Hp):OA:=(Hp.new H150 []).bind λH151=>aj.l509 F F AR agV agW (⟨some (H150.length,0),0,.ex 0⟩:Sl) 0 0 H151
def aj.j10 (F:Nat) (C61_:atp) (AS:Nat) (agX:Nat) (agY:Sl) (sL:Int) (H320:Hp):OA:=C61_ AS agX agY (wrap .i64 (sL+1)) H320
def aj.j11 (C61_:atp) (AT:Nat) (agZ:Nat) (ag0:Sl) (sM:Int) (H304:Hp):OA:=aj.j10 F C61_ AT agZ ag0 sM H304
def aj.j12 (F:Nat) (C1963_:atU) (AU:Nat) (ag2:Nat) (ag3:Sl) (sO:Int) (sQ:Int) (sS:Int) (sT:Int) (H341:Hp):OA:=C1963_ AU ag2 ag3 sO sQ sS (wrap .i64 (sT+1)) H341
def aj.l1963 (F:Nat) (C61_:atp):Nat->Nat->Nat->Sl->Int->Int->Int->Int->Hp->OA
 | 0,_,_,_,_,_,_,_,_=>none
 | UT+1,mH,wY,nF,iZ,fH,fI,gv,H267=>(bif (decide (gv<(nF.n:Int))) then ((Sl.idx nF gv 1).bind λp321=>(Hp.ldI H267 .i64 p321.1 p321.2).bind λn322=>(bif (n322==(if fI>fH then fI else fH)) then ((Sl.idx nF gv 1).bind λp323=>(Hp.st H267 p323.1 p323.2 (.int .i64 (if fI<fH then fI else fH))).bind λH324=>aj.j12 F (aj.l1963 F C61_ UT) mH wY nF iZ fH fI gv H324) else (aj.j12 F (aj.l1963 F C61_ UT) mH wY nF iZ fH fI gv H267))) else (aj.j11 F C61_ mH wY nF iZ H267))
termination_by structural n=>n
def aj.l61 (F:Nat) :Nat->Nat->Nat->Sl->Int->Hp->OA
 | 0,_,_,_,_,_=>none
 | bE+1,kp,eS,sU,hG,H38=>(Hp.ldSl H38 kp eS).bind λs242=>(bif (decide (hG<(s242.n:Int))) then ((Hp.ldSl H38 kp eS).bind λs243=>(Sl.idx s243 hG 5).bind λp244=>(Hp.ldI H38 .i64 p244.1 (p244.2+1)).bind λn245=>(Sl.idx sU n245 1).bind λp246=>(Hp.ldI H38 .i64 p246.1 p246.2).bind λn247=>(Hp.ldSl H38 kp eS).bind λs248=>(Sl.idx s248 hG 5).bind λp249=>(Hp.ldI H38 .i64 p249.1 (p249.2+3)).bind λn250=>(Sl.idx sU n250 1).bind λp251=>(Hp.ldI H38 .i64 p251.1 p251.2).bind λn252=>aj.l1963 F (aj.l61 F bE) F kp eS sU hG n247 n252 0 H38) else (aj.j8 F kp eS sU H38))
termination_by structural n=>n
def aj.j13 (sy:Nat) (ag4:Nat) (ag5:Sl) (H27:Hp):OA:=aj.l61 F F sy ag4 ag5 0 H27
def aj.l29 (F:Nat) :Nat->Nat->Nat->Sl->Int->Hp->OA
 | 0,_,_,_,_,_=>none
 | gU+1,dd,ct,dN,et,H13=>(Hp.ldSl H13 dd ct).bind λs342=>(bif (decide (et<(wrap .i64 (2 * (s342.n:Int))))) then ((Hp.new H13 [(.int .i64 et)]).bind λH343=>(Sl.row H343 (⟨some (H13.length,0),1,.ex 1⟩:Sl) 1).bind λxs345=>(Hp.app H343 1 8 dN (⟨some (H13.length,0),1,.ex 1⟩:Sl).n xs345).bind λa344=>aj.l29 F gU dd ct a344.1 (wrap .i64 (et+1)) a344.2) else (aj.j13 F dd ct dN H13))
termination_by structural n=>n
def aj.twX (aa:Sl) (af:Int) (H:Hp):OA:=(Hp.new H [(.sl aa),(.int .i64 af)]).bind λH3=>(Hp.new H3 []).bind λH4=>aj.l29 F F H.length 0 (⟨some (H3.length,0),0,.ex 0⟩:Sl) 0 H4
def aj.tw:=aj.twX F
def aj.lh29 (ks:as7) (n:Nat) (tm:Tm) (H:Hp):OA:=match ks,tm 1,tm 4,tm 5 with
 | [],(.ptr dd ct),(.sl dN),(.int .i64 et)=>aj.l29 F n dd ct dN et H
 | _,_,_,_=>none
def aj.lh61 (ks:as7) (n:Nat) (tm:Tm) (H:Hp):OA:=match ks,tm 1,tm 4,tm 6 with
 | [],(.ptr kp eS),(.sl sU),(.int .i64 hG)=>aj.l61 F n kp eS sU hG H
 | _,_,_,_=>none
def aj.lh509 (ks:as7) (n:Nat) (tm:Tm) (H:Hp):OA:=match ks,tm 1,tm 4,tm 10,tm 11,tm 12 with
 | [],(.ptr mG wX),(.sl pz),(.sl sK),(.int .i64 gu),(.int .i64 fG)=>aj.l509 F n mG wX pz sK gu fG H
 | _,_,_,_,_,_=>none
def aj.lh1963 (ks:as7) (n:Nat) (tm:Tm) (H:Hp):OA:=match ks,tm 1,tm 4,tm 6,tm 7,tm 8,tm 9 with
 | [bE],(.ptr mH wY),(.sl nF),(.int .i64 iZ),(.int .i64 fH),(.int .i64 fI),(.int .i64 gv)=>aj.l1963 F (aj.l61 F bE) n mH wY nF iZ fH fI gv H
 | _,_,_,_,_,_,_=>none
def aj.lh (p:Nat) (ks:as7) (n:Nat) (tm:Tm) (H:Hp):OA:=bif p.beq 1963 then aj.lh1963 F ks n tm H else (bif p.beq 509 then aj.lh509 F ks n tm H else (bif p.beq 61 then aj.lh61 F ks n tm H else (bif p.beq 29 then aj.lh29 F ks n tm H else (none))))
def aj.tb:Nat->List (List Nat):=cQ [(9,[[],[],[1],[],[1,2,3],[1,2,3,4],[1,2,3,4,5],[0,1,2,3,4,5,6],[0,1,2,3,4,5,6,7],[],[],[10],[],[10,11,12],[10,11,12,13],[10,11,12,13,14],[9,10,11,12,13,14,15],[9,10,11,12,13,14,15,16],[0,1,2,3,4,5,6,7,8],[0,1,2,3,4,5,6,7,8,9,10,11,12,13,14,15,16,17,18]]),(24,[[],[],[],[2],[1,2,3],[0],[0,1,2,3,4,5]])]
theorem aj.loops:LO (aY []) aJ (aj.lh F) F Try.f77:=
 (ae.rt (ae.rt (ae.seq (ae.rt (ae.block (ae.la (λn tm H r h=>by change aj.lh29 F [] n tm H=_ at h;unfold aj.lh29 at h;split at h;have e:bK tm [(1,_),(4,_),(5,_)]:=⟨‹_›,‹_›,‹_›,trivial⟩;obtain _ | k29:=n;cases h;exact ⟨_,rfl,by rw [<- bM e];exact Eq.trans (by kernel_rfl) h⟩;cases h) λk29=>ae.no))) (ae.seq (ae.rt (ae.block (ae.la (λn tm H r h=>by change aj.lh61 F [] n tm H=_ at h;unfold aj.lh61 at h;split at h;have e:bK tm [(1,_),(4,_),(6,_)]:=⟨‹_›,‹_›,‹_›,trivial⟩;obtain _ | k61:=n;cases h;exact ⟨_,rfl,by rw [<- bM e];exact Eq.trans (by kernel_rfl) h⟩;cases h) λk61=>(ae.rt (ae.lt (ae.block (ae.rt (ae.rt (ae.block (ae.la (λn tm H r h=>by change aj.lh1963 F [k61] n tm H=_ at h;unfold aj.lh1963 at h;split at h;have e:bK tm [(1,_),(4,_),(6,_),(7,_),(8,_),(9,_)]:=⟨‹_›,‹_›,‹_›,‹_›,‹_›,‹_›,trivial⟩;cases (show [k61]=_ from ‹_›);obtain _ | k1963:=n;cases h;exact ⟨_,rfl,by rw [<- bM e];exact Eq.trans (by kernel_rfl) h⟩;cases h) λk1963=>ae.no)))))))))) (ae.rt (ae.rt (ae.lt (ae.rt (ae.block (ae.la (λn tm H r h=>by change aj.lh509 F [] n tm H=_ at h;unfold aj.lh509 at h;split at h;have e:bK tm [(1,_),(4,_),(10,_),(11,_),(12,_)]:=⟨‹_›,‹_›,‹_›,‹_›,‹_›,trivial⟩;obtain _ | k509:=n;cases h;exact ⟨_,rfl,by rw [<- bM e];exact Eq.trans (by kernel_rfl) h⟩;cases h) λk509=>ae.no))))))))))
theorem aj.k:Ok Try.prog 77 (mk4 (aj.tw F)):=by
 intro args H v H' h
 unfold mk4 at h
 split at h
 ·exact okT (PN:=aJ) (LH:=(aj.lh F)) (F:=F) (TB:=aj.tb) Try.func77 bA (aj.loops F) (Eq.trans (by kernel_rfl) h) (by kernel_rfl)
 ·cases h
def bi.j2 (F:Nat) (bR:as2) (C61_:ats) (fp:Nat) (Hr:Nat) (Hs:Sl) (Ht:Sl) (gw:Int) (H113:Hp):OA:=C61_ fp Hr Hs Ht (wrap .i64 (gw+1)) H113
def bi.l61 (F:Nat) (bR:as2) :Nat->Nat->Nat->Sl->Sl->Int->Hp->OA
 | 0,_,_,_,_,_,_=>none
 | bE+1,lM,sV,jM,pA,hJ,H21=>(Hp.ldSl H21 lM sV).bind λs70=>(bif (decide (hJ<(s70.n:Int))) then ((Hp.ldSl H21 lM sV).bind λs71=>(Sl.idx s71 hJ 5).bind λp72=>(Hp.ldI H21 .i64 p72.1 p72.2).bind λn73=>(Hp.ldI H21 .i64 p72.1 (p72.2+1)).bind λn74=>(Hp.ldI H21 .i64 p72.1 (p72.2+2)).bind λn75=>(Hp.ldI H21 .i64 p72.1 (p72.2+3)).bind λn76=>(Hp.ldI H21 .i64 p72.1 (p72.2+4)).bind λn77=>(Hp.new H21 [.int .i64 0,.int .i64 0,.int .i64 0,.int .i64 0,.int .i64 0]).bind λH78=>(Hp.st H78 H21.length 0 (.int .i64 n73)).bind λH79=>(Hp.st H79 H21.length (0+1) (.int .i64 n74)).bind λH80=>(Hp.st H80 H21.length (0+1+1) (.int .i64 n75)).bind λH81=>(Hp.st H81 H21.length (0+1+1+1) (.int .i64 n76)).bind λH82=>(Hp.st H82 H21.length (0+1+1+1+1) (.int .i64 n77)).bind λH83=>(Hp.ldI H83 .i64 H21.length 0).bind λn84=>(Sl.idx pA n84 1).bind λp85=>(Hp.ldI H83 .i64 p85.1 p85.2).bind λn86=>(Hp.ldI H83 .i64 H21.length 2).bind λn87=>(Sl.idx pA n87 1).bind λp88=>(Hp.ldI H83 .i64 p88.1 p88.2).bind λn89=>(Hp.ldI H83 .i64 H21.length 1).bind λn90=>(Sl.idx pA n90 1).bind λp91=>(Hp.ldI H83 .i64 p91.1 p91.2).bind λn92=>(Hp.ldI H83 .i64 H21.length 4).bind λn93=>(bif (n93==1) then ((Hp.new H83 [(.int .i64 (wrap .i64 (n89+1))),(.int .i64 (wrap .i64 (n92+1))),(.int .i64 (wrap .i64 (0 - (wrap .i64 (n86+1))))),(.int .i64 (wrap .i64 (0 - (wrap .i64 (n92+1)))))]).bind λH94=>(Hp.new H94 [(.sl (⟨some (H83.length,0),4,.ex 4⟩:Sl))]).bind λH95=>(Sl.row H95 (⟨some (H94.length,0),1,.ex 1⟩:Sl) 1).bind λxs97=>(Hp.app H95 1 24 jM (⟨some (H94.length,0),1,.ex 1⟩:Sl).n xs97).bind λa96=>bi.j2 F bR (bi.l61 F bR bE) lM sV a96.1 pA hJ a96.2) else ((Hp.new H83 [(.int .i64 (wrap .i64 (n89+1))),(.int .i64 (wrap .i64 (0 - (wrap .i64 (n92+1))))),(.int .i64 (wrap .i64 (0 - (wrap .i64 (n86+1))))),(.int .i64 (wrap .i64 (n92+1)))]).bind λH114=>(Hp.new H114 [(.sl (⟨some (H83.length,0),4,.ex 4⟩:Sl))]).bind λH115=>(Sl.row H115 (⟨some (H114.length,0),1,.ex 1⟩:Sl) 1).bind λxs117=>(Hp.app H115 1 24 jM (⟨some (H114.length,0),1,.ex 1⟩:Sl).n xs117).bind λa116=>bi.j2 F bR (bi.l61 F bR bE) lM sV a116.1 pA hJ a116.2))) else (some ((.sl jM),H21)))
termination_by structural n=>n
def bi.twX (bR:as2) (aa:Sl) (af:Int) (H:Hp):OA:=(Hp.new H [(.sl aa),(.int .i64 af)]).bind λH3=>(Hp.new H3 []).bind λH4=>(Hp.ldSl H4 H.length 0).bind λs5=>(Hp.ldI H4 .i64 H.length (0+1)).bind λn6=>(bR s5 n6 H4).bind λr7=>((r7.1).asTup 2).bind λl8=>(l8[0]?).bind λv9=>((v9).asSl).bind λs10=>(l8[1]?).bind λv11=>((v11).asI .i64).bind λn12=>bi.l61 F bR F H.length 0 (⟨some (H3.length,0),0,.ex 0⟩:Sl) s10 0 r7.2
def bi.tw:=bi.twX F (aj.tw F)
def bi.lh61 (bR:as2) (ks:as7) (n:Nat) (tm:Tm) (H:Hp):OA:=match ks,tm 1,tm 3,tm 4,tm 6 with
 | [],(.ptr lM sV),(.sl jM),(.sl pA),(.int .i64 hJ)=>bi.l61 F bR n lM sV jM pA hJ H
 | _,_,_,_,_=>none
def bi.lh (bR:as2) (p:Nat) (ks:as7) (n:Nat) (tm:Tm) (H:Hp):OA:=bif p.beq 61 then bi.lh61 F bR ks n tm H else (none)
def bi.tb:Nat->List (List Nat):=cQ [(7,[[],[],[1],[0,1,2],[0,1,2,3],[0,1,2,3,4],[],[],[7],[6,7,8],[6,7,8,9],[6,7,8,9,10],[],[],[13],[12,13,14],[12,13,14,15],[12,13,14,15,16],[0,1,2,3,4,5],[0,1,2,3,4,5,6,7,8,9,10,11,18],[0,1,2,3,4,5,6,7,8,9,10,11,12,13,14,15,16,17,18,19]])]
def bi.cs (F:Nat) (bR:as2):Cs:=[(77,mk4 bR)]
theorem bi.loops (bR:as2):LO (aY (bi.cs F bR)) aJ (bi.lh F bR) F Try.f122:=
 (ae.rt (ae.rt (ae.rt (ae.lt (ae.rt (ae.block (ae.la (λn tm H r h=>by change bi.lh61 F bR [] n tm H=_ at h;unfold bi.lh61 at h;split at h;have e:bK tm [(1,_),(3,_),(4,_),(6,_)]:=⟨‹_›,‹_›,‹_›,‹_›,trivial⟩;obtain _ | k61:=n;cases h;exact ⟨_,rfl,by rw [<- bM e];exact Eq.trans (by kernel_rfl) h⟩;cases h) λk61=>ae.no)))))))
theorem bi.eqX (bR:as2) (aa:Sl) (af:Int) (H:Hp):EX (aY (bi.cs F bR)) aJ (bi.lh F bR) F Try.f122 [(.agg [(.sl aa),(.int .i64 af)])] H=bi.twX F bR aa af H:=by kernel_rfl
theorem bi.k:Ok Try.prog 122 (mk4 (bi.tw F)):=by
 intro args H v H' h
 unfold mk4 at h
 split at h
 ·exact okT (TB:=bi.tb) Try.func122 (aM (aj.k F) bA) (bi.loops F (aj.tw F)) ((bi.eqX F (aj.tw F) _ _ H).trans h) (by kernel_rfl)
 ·cases h
def aR.j1 (F:Nat) (sW:Int) (ag6:Sl) (kq:Nat) (nG:Nat) (lN:Int) (nH:Int) (H39:Hp):OA:=(bif (lN==nH) then ((Hp.st H39 kq nG (.int .i64 0)).bind λH40=>(Hp.st H40 kq (nG+1) (.sl (⟨none,0,.ex 0⟩:Sl))).bind λH41=>(Hp.ldI H41 .i64 kq nG).bind λn42=>(Hp.ldSl H41 kq (nG+1)).bind λs43=>some ((.agg [(.int .i64 n42),(.sl s43)]),H41)) else ((Hp.new H39 []).bind λH44=>(Sl.cut ag6 1 lN nH).bind λs45=>(Sl.row H44 s45 1).bind λxs47=>(Hp.app H44 1 8 (⟨some (H39.length,0),0,.ex 0⟩:Sl) s45.n xs47).bind λa46=>(Hp.st a46.2 kq nG (.int .i64 (wrap .i64 (sW+lN)))).bind λH48=>(Hp.st H48 kq (nG+1) (.sl a46.1)).bind λH49=>(Hp.ldI H49 .i64 kq nG).bind λn50=>(Hp.ldSl H49 kq (nG+1)).bind λs51=>some ((.agg [(.int .i64 n50),(.sl s51)]),H49)))
def aR.l30 (F:Nat) :Nat->Int->Sl->Nat->Nat->Int->Int->Hp->OA
 | 0,_,_,_,_,_,_,_=>none
 | ag7+1,i_,sX,mI,fJ,fh,gy,H28=>(bif (decide (fh<gy)) then ((Sl.idx sX (wrap .i64 (gy - 1)) 1).bind λp52=>(Hp.ldI H28 .i64 p52.1 p52.2).bind λn53=>(bif (n53==0) then (aR.l30 F ag7 i_ sX mI fJ fh (wrap .i64 (gy - 1)) H28) else (aR.j1 F i_ sX mI fJ fh gy H28))) else (aR.j1 F i_ sX mI fJ fh gy H28))
termination_by structural n=>n
def aR.j2 (sY:Int) (ag8:Sl) (AW:Nat) (ag9:Nat) (sZ:Int) (s_:Int) (H20:Hp):OA:=aR.l30 F F sY ag8 AW ag9 sZ s_ H20
def aR.l14 (F:Nat) :Nat->Int->Sl->Nat->Nat->Int->Int->Hp->OA
 | 0,_,_,_,_,_,_,_=>none
 | Hv+1,ja,ta,ez,fK,gz,hK,H10=>(bif (decide (gz<hK)) then ((Sl.idx ta gz 1).bind λp54=>(Hp.ldI H10 .i64 p54.1 p54.2).bind λn55=>(bif (n55==0) then (aR.l14 F Hv ja ta ez fK (wrap .i64 (gz+1)) hK H10) else (aR.j2 F ja ta ez fK gz hK H10))) else (aR.j2 F ja ta ez fK gz hK H10))
termination_by structural n=>n
def aR.twX (aa:Int) (aA:Sl) (H:Hp):OA:=(Hp.new H [.int .i64 0,.sl ⟨none,0,.ex 0⟩]).bind λH3=>aR.l14 F F aa aA H.length 0 0 (aA.n:Int) H3
def aR.tw:=aR.twX F
def aR.lh14 (ks:as7) (n:Nat) (tm:Tm) (H:Hp):OA:=match ks,tm 0,tm 1,tm 4,tm 5,tm 6 with
 | [],(.int .i64 ja),(.sl ta),(.ptr ez fK),(.int .i64 gz),(.int .i64 hK)=>aR.l14 F n ja ta ez fK gz hK H
 | _,_,_,_,_,_=>none
def aR.lh30 (ks:as7) (n:Nat) (tm:Tm) (H:Hp):OA:=match ks,tm 0,tm 1,tm 4,tm 5,tm 6 with
 | [],(.int .i64 i_),(.sl sX),(.ptr mI fJ),(.int .i64 fh),(.int .i64 gy)=>aR.l30 F n i_ sX mI fJ fh gy H
 | _,_,_,_,_,_=>none
def aR.lh (p:Nat) (ks:as7) (n:Nat) (tm:Tm) (H:Hp):OA:=bif p.beq 30 then aR.lh30 F ks n tm H else (bif p.beq 14 then aR.lh14 F ks n tm H else (none))
def mk8 (g:as5) (args:atg) (H:Hp):OA:=match args with
 | [(.int .i64 aa),(.sl aA)]=>g aa aA H
 | _=>none
theorem mk8_E (g:as5) (aa:Int) (aA:Sl) (H:Hp):mk8 g [(.int .i64 aa),(.sl aA)] H=g aa aA H:=rfl
theorem aR.loops:LO (aY []) aJ (aR.lh F) F Try.f142:=
 (ae.rt (ae.rt (ae.seq (ae.block (ae.la (λn tm H r h=>by change aR.lh14 F [] n tm H=_ at h;unfold aR.lh14 at h;split at h;have e:bK tm [(0,_),(1,_),(4,_),(5,_),(6,_)]:=⟨‹_›,‹_›,‹_›,‹_›,‹_›,trivial⟩;obtain _ | k14:=n;cases h;exact ⟨_,rfl,by rw [<- bM e];exact Eq.trans (by kernel_rfl) h⟩;cases h) λk14=>ae.no)) (ae.lt (ae.block (ae.la (λn tm H r h=>by change aR.lh30 F [] n tm H=_ at h;unfold aR.lh30 at h;split at h;have e:bK tm [(0,_),(1,_),(4,_),(5,_),(6,_)]:=⟨‹_›,‹_›,‹_›,‹_›,‹_›,trivial⟩;obtain _ | k30:=n;cases h;exact ⟨_,rfl,by rw [<- bM e];exact Eq.trans (by kernel_rfl) h⟩;cases h) λk30=>ae.no))))))
theorem aR.k:Ok Try.prog 142 (mk8 (aR.tw F)):=by
 intro args H v H' h
 unfold mk8 at h
 split at h
 ·exact okT (PN:=aJ) (LH:=(aR.lh F)) (F:=F) (TB:=aJ) Try.func142 bA (aR.loops F) (Eq.trans (by kernel_rfl) h) (by kernel_rfl)
 ·cases h
def aI.j1 (F:Nat) (bJ:as5) (pB:Nat) (AY:Nat) (jb:Int) (nI:Sl) (H132:Hp):OA:=(bJ jb nI H132).bind λr133=>((r133.1).asAgg 2).bind λl134=>(l134[0]?).bind λv135=>((v135).asI .i64).bind λn136=>(l134[1]?).bind λv137=>((v137).asSl).bind λs138=>(Hp.st r133.2 pB AY (.int .i64 n136)).bind λH139=>(Hp.st H139 pB (AY+1) (.sl s138)).bind λH140=>(Hp.ldI H140 .i64 pB AY).bind λn141=>(Hp.ldSl H140 pB (AY+1)).bind λs142=>some ((.agg [(.int .i64 n141),(.sl s142)]),H140)
def aI.l1021 (F:Nat) (bJ:as5) :Nat->Nat->Nat->Nat->Nat->Int->Sl->Int->Hp->OA
 | 0,_,_,_,_,_,_,_,_=>none
 | ag_+1,lO,tc,nJ,AZ,hO,td,cZ,H103=>(Hp.ldSl H103 lO (tc+1)).bind λs143=>(bif (decide (cZ<(s143.n:Int))) then ((Hp.ldI H103 .i64 lO tc).bind λn144=>(Sl.idx td (wrap .i64 ((wrap .i64 (n144 - hO))+cZ)) 1).bind λp145=>(Hp.ldI H103 .i64 p145.1 p145.2).bind λn146=>(Hp.ldSl H103 lO (tc+1)).bind λs147=>(Sl.idx s147 cZ 1).bind λp148=>(Hp.ldI H103 .i64 p148.1 p148.2).bind λn149=>(Sl.idx td (wrap .i64 ((wrap .i64 (n144 - hO))+cZ)) 1).bind λp150=>(Hp.st H103 p150.1 p150.2 (.int .i64 (wrap .i64 (n146+n149)))).bind λH151=>aI.l1021 F bJ ag_ lO tc nJ AZ hO td (wrap .i64 (cZ+1)) H151) else (aI.j1 F bJ nJ AZ hO td H103))
termination_by structural n=>n
def aI.j2 (bJ:as5) (A_:Nat) (aha:Nat) (Ba:Nat) (ahb:Nat) (te:Int) (ahc:Sl) (H84:Hp):OA:=aI.l1021 F bJ F A_ aha Ba ahb te ahc 0 H84
def aI.l509 (F:Nat) (bJ:as5) :Nat->Nat->Nat->Nat->Nat->Nat->Nat->Int->Sl->Int->Hp->OA
 | 0,_,_,_,_,_,_,_,_,_,_=>none
 | AQ+1,lP,tf,nK,Bb,nL,Bc,hP,tg,gA,H57=>(Hp.ldSl H57 lP (tf+1)).bind λs152=>(bif (decide (gA<(s152.n:Int))) then ((Hp.ldI H57 .i64 lP tf).bind λn153=>(Sl.idx tg (wrap .i64 ((wrap .i64 (n153 - hP))+gA)) 1).bind λp154=>(Hp.ldI H57 .i64 p154.1 p154.2).bind λn155=>(Hp.ldSl H57 lP (tf+1)).bind λs156=>(Sl.idx s156 gA 1).bind λp157=>(Hp.ldI H57 .i64 p157.1 p157.2).bind λn158=>(Sl.idx tg (wrap .i64 ((wrap .i64 (n153 - hP))+gA)) 1).bind λp159=>(Hp.st H57 p159.1 p159.2 (.int .i64 (wrap .i64 (n155+n158)))).bind λH160=>aI.l509 F bJ AQ lP tf nK Bb nL Bc hP tg (wrap .i64 (gA+1)) H160) else (aI.j2 F bJ nK Bb nL Bc hP tg H57))
termination_by structural n=>n
def aI.twX (bJ:as5) (aa:Int) (af:Sl) (au:Int) (bu:Sl) (H:Hp):OA:=(Hp.new H [(.int .i64 aa),(.sl af)]).bind λH5=>(Hp.new H5 [(.int .i64 au),(.sl bu)]).bind λH6=>(Hp.new H6 [.int .i64 0,.sl ⟨none,0,.ex 0⟩]).bind λH7=>(Hp.ldSl H7 H.length 1).bind λs8=>(bif ((s8.n:Int)==0) then ((Hp.ldI H7 .i64 H5.length 0).bind λn9=>(Hp.ldSl H7 H5.length 1).bind λs10=>(bJ n9 s10 H7).bind λr11=>((r11.1).asAgg 2).bind λl12=>(l12[0]?).bind λv13=>((v13).asI .i64).bind λn14=>(l12[1]?).bind λv15=>((v15).asSl).bind λs16=>(Hp.st r11.2 H6.length 0 (.int .i64 n14)).bind λH17=>(Hp.st H17 H6.length (0+1) (.sl s16)).bind λH18=>(Hp.ldI H18 .i64 H6.length 0).bind λn19=>(Hp.ldSl H18 H6.length (0+1)).bind λs20=>some ((.agg [(.int .i64 n19),(.sl s20)]),H18)) else ((Hp.ldSl H7 H5.length 1).bind λs21=>(bif ((s21.n:Int)==0) then ((Hp.ldI H7 .i64 H.length 0).bind λn22=>(Hp.ldSl H7 H.length 1).bind λs23=>(bJ n22 s23 H7).bind λr24=>((r24.1).asAgg 2).bind λl25=>(l25[0]?).bind λv26=>((v26).asI .i64).bind λn27=>(l25[1]?).bind λv28=>((v28).asSl).bind λs29=>(Hp.st r24.2 H6.length 0 (.int .i64 n27)).bind λH30=>(Hp.st H30 H6.length (0+1) (.sl s29)).bind λH31=>(Hp.ldI H31 .i64 H6.length 0).bind λn32=>(Hp.ldSl H31 H6.length (0+1)).bind λs33=>some ((.agg [(.int .i64 n32),(.sl s33)]),H31)) else ((Hp.ldI H7 .i64 H.length 0).bind λn34=>(Hp.ldI H7 .i64 H5.length 0).bind λn35=>(Hp.ldI H7 .i64 H.length 0).bind λn36=>(Hp.ldSl H7 H.length 1).bind λs37=>(Hp.ldI H7 .i64 H5.length 0).bind λn38=>(Hp.ldSl H7 H5.length 1).bind λs39=>(Hp.mk H7 [.int .i64 0] 8 (wrap .i64 ((if (wrap .i64 (n38+(s39.n:Int)))>(wrap .i64 (n36+(s37.n:Int))) then (wrap .i64 (n38+(s39.n:Int))) else (wrap .i64 (n36+(s37.n:Int)))) - (if n35<n34 then n35 else n34))) (wrap .i64 ((if (wrap .i64 (n38+(s39.n:Int)))>(wrap .i64 (n36+(s37.n:Int))) then (wrap .i64 (n38+(s39.n:Int))) else (wrap .i64 (n36+(s37.n:Int)))) - (if n35<n34 then n35 else n34)))).bind λm40=>aI.l509 F bJ F H.length 0 H5.length 0 H6.length 0 (if n35<n34 then n35 else n34) m40.1 0 m40.2))))
def aI.tw:=aI.twX F (aR.tw F)
def aI.lh509 (bJ:as5) (ks:as7) (n:Nat) (tm:Tm) (H:Hp):OA:=match ks,tm 2,tm 3,tm 4,tm 5,tm 7,tm 8 with
 | [],(.ptr lP tf),(.ptr nK Bb),(.ptr nL Bc),(.int .i64 hP),(.sl tg),(.int .i64 gA)=>aI.l509 F bJ n lP tf nK Bb nL Bc hP tg gA H
 | _,_,_,_,_,_,_=>none
def aI.lh1021 (bJ:as5) (ks:as7) (n:Nat) (tm:Tm) (H:Hp):OA:=match ks,tm 3,tm 4,tm 5,tm 7,tm 9 with
 | [],(.ptr lO tc),(.ptr nJ AZ),(.int .i64 hO),(.sl td),(.int .i64 cZ)=>aI.l1021 F bJ n lO tc nJ AZ hO td cZ H
 | _,_,_,_,_,_=>none
def aI.lh (bJ:as5) (p:Nat) (ks:as7) (n:Nat) (tm:Tm) (H:Hp):OA:=bif p.beq 1021 then aI.lh1021 F bJ ks n tm H else (bif p.beq 509 then aI.lh509 F bJ ks n tm H else (none))
def aI.pn:Nat->List Nat:=cQ [(11,[16]),(15,[16])]
def aI.tb:Nat->List (List Nat):=cQ [(11,[[],[],[1],[],[1,2,3],[],[1,2,3,4,5],[0,1,2,3,4,5,6],[0,1,2,3,4,5,6,7],[],[9],[],[9,10,11],[9,10,11,12],[0,1,2,3,4,5,6,7,8,9,10,11,12,13],[0,1,2,3,4,5,6,7,8,9,10,11,12,13,14],[0,1,2,3,4,5,6,7,8,9,10,11,12,13,14,15]]),(15,[[],[],[1],[],[1,2,3],[],[1,2,3,4,5],[0,1,2,3,4,5,6],[0,1,2,3,4,5,6,7],[],[9],[],[9,10,11],[9,10,11,12],[0,1,2,3,4,5,6,7,8,9,10,11,12,13],[0,1,2,3,4,5,6,7,8,9,10,11,12,13,14],[0,1,2,3,4,5,6,7,8,9,10,11,12,13,14,15]])]
def mk9 (g:as8) (args:atg) (H:Hp):OA:=match args with
 | [(.agg [(.int .i64 aa),(.sl af)]),(.agg [(.int .i64 au),(.sl bu)])]=>g aa af au bu H
 | _=>none
theorem mk9_E (g:as8) (aa:Int) (af:Sl) (au:Int) (bu:Sl) (H:Hp):mk9 g [(.agg [(.int .i64 aa),(.sl af)]),(.agg [(.int .i64 au),(.sl bu)])] H=g aa af au bu H:=rfl
def aI.cs (F:Nat) (bJ:as5):Cs:=[(142,mk8 bJ)]
theorem aI.loops (bJ:as5):LO (aY (aI.cs F bJ)) aI.pn (aI.lh F bJ) F Try.f121:=
 (ae.rt (ae.rt (ae.rt (ae.rt (ae.rt (ae.rt (ae.seq (ae.rt (ae.block (ae.la (λn tm H r h=>by change aI.lh509 F bJ [] n tm H=_ at h;unfold aI.lh509 at h;split at h;have e:bK tm [(2,_),(3,_),(4,_),(5,_),(7,_),(8,_)]:=⟨‹_›,‹_›,‹_›,‹_›,‹_›,‹_›,trivial⟩;obtain _ | k509:=n;cases h;exact ⟨_,rfl,by rw [<- bM e];exact Eq.trans (by kernel_rfl) h⟩;cases h) λk509=>ae.no))) (ae.lt (ae.rt (ae.block (ae.la (λn tm H r h=>by change aI.lh1021 F bJ [] n tm H=_ at h;unfold aI.lh1021 at h;split at h;have e:bK tm [(3,_),(4,_),(5,_),(7,_),(9,_)]:=⟨‹_›,‹_›,‹_›,‹_›,‹_›,trivial⟩;obtain _ | k1021:=n;cases h;exact ⟨_,rfl,by rw [<- bM e];exact Eq.trans (by kernel_rfl) h⟩;cases h) λk1021=>ae.no)))))))))))
theorem aI.eqX (bJ:as5) (aa:Int) (af:Sl) (au:Int) (bu:Sl) (H:Hp):EX (aY (aI.cs F bJ)) aI.pn (aI.lh F bJ) F Try.f121 [(.agg [(.int .i64 aa),(.sl af)]),(.agg [(.int .i64 au),(.sl bu)])] H=aI.twX F bJ aa af au bu H:=by kernel_rfl
theorem aI.k:Ok Try.prog 121 (mk9 (aI.tw F)):=by
 intro args H v H' h
 unfold mk9 at h
 split at h
 ·exact okT (TB:=aI.tb) Try.func121 (aM (aR.k F) bA) (aI.loops F (aR.tw F)) ((aI.eqX F (aR.tw F) _ _ _ _ H).trans h) (by kernel_rfl)
 ·cases h
def aT.j4 (F:Nat) (bl:as8) (C61_:atH) (ahd:Sl) (th:Int) (Bd:Nat) (Hu:Nat) (kn:Nat) (nM:Nat) (nN:Int) (jc:Int) (H149:Hp):OA:=C61_ ahd th Bd Hu kn nM nN (wrap .i64 (jc+1)) H149
def aT.j5 (bl:as8) (C61_:atH) (Hw:Sl) (gX:Int) (wZ:Nat) (UU:Nat) (w_:Nat) (UV:Nat) (nO:Int) (lQ:Int) (H134:Hp):OA:=(Sl.idx Hw lQ 1).bind λp135=>(Hp.ldI H134 .i64 p135.1 p135.2).bind λn136=>(bif (decide (n136>0)) then (aT.j4 F bl C61_ Hw gX wZ UU w_ UV (wrap .i64 (nO+1)) lQ H134) else (aT.j4 F bl C61_ Hw gX wZ UU w_ UV (wrap .i64 (nO - 1)) lQ H134))
def aT.j6 (bl:as8) (C61_:atH) (Hy:Sl) (fp:Int) (xa:Nat) (UW:Nat) (mJ:Nat) (ti:Nat) (gw:Int) (lR:Int) (H109:Hp):OA:=(Sl.idx Hy lR 1).bind λp110=>(Hp.ldI H109 .i64 p110.1 p110.2).bind λn111=>(bif (n111==(wrap .i64 (0 - fp))) then ((Hp.ldI H109 .i64 mJ ti).bind λn112=>(Hp.ldSl H109 mJ (ti+1)).bind λs113=>(Hp.new H109 [(.int .i64 (-1))]).bind λH114=>(bl n112 s113 (wrap .i64 (gw - 1)) (⟨some (H109.length,0),1,.ex 1⟩:Sl) H114).bind λr115=>((r115.1).asAgg 2).bind λl116=>(l116[0]?).bind λv117=>((v117).asI .i64).bind λn118=>(l116[1]?).bind λv119=>((v119).asSl).bind λs120=>(Hp.st r115.2 mJ ti (.int .i64 n118)).bind λH121=>(Hp.st H121 mJ (ti+1) (.sl s120)).bind λH122=>aT.j5 F bl C61_ Hy fp xa UW mJ ti gw lR H122) else (aT.j5 F bl C61_ Hy fp xa UW mJ ti gw lR H109))
def aT.l61 (F:Nat) (bl:as8) :Nat->Sl->Int->Nat->Nat->Nat->Nat->Int->Int->Hp->OA
 | 0,_,_,_,_,_,_,_,_,_=>none
 | bE+1,tj,ct,jN,nP,iM,et,jd,hQ,H15=>(bif (decide (hQ<(tj.n:Int))) then ((Sl.idx tj hQ 1).bind λp86=>(Hp.ldI H15 .i64 p86.1 p86.2).bind λn87=>(bif (n87==ct) then ((Hp.ldI H15 .i64 iM et).bind λn88=>(Hp.ldSl H15 iM (et+1)).bind λs89=>(Hp.new H15 [(.int .i64 1)]).bind λH90=>(bl n88 s89 jd (⟨some (H15.length,0),1,.ex 1⟩:Sl) H90).bind λr91=>((r91.1).asAgg 2).bind λl92=>(l92[0]?).bind λv93=>((v93).asI .i64).bind λn94=>(l92[1]?).bind λv95=>((v95).asSl).bind λs96=>(Hp.st r91.2 iM et (.int .i64 n94)).bind λH97=>(Hp.st H97 iM (et+1) (.sl s96)).bind λH98=>aT.j6 F bl (aT.l61 F bl bE) tj ct jN nP iM et jd hQ H98) else (aT.j6 F bl (aT.l61 F bl bE) tj ct jN nP iM et jd hQ H15))) else ((Hp.ldI H15 .i64 iM et).bind λn150=>(Hp.ldSl H15 iM (et+1)).bind λs151=>(Hp.st H15 jN nP (.int .i64 n150)).bind λH152=>(Hp.st H152 jN (nP+1) (.sl s151)).bind λH153=>(Hp.ldI H153 .i64 jN nP).bind λn154=>(Hp.ldSl H153 jN (nP+1)).bind λs155=>some ((.agg [(.int .i64 n154),(.sl s155)]),H153)))
termination_by structural n=>n
def aT.twX (bl:as8) (aa:Sl) (aA:Int) (H:Hp):OA:=(Hp.new H [.int .i64 0,.sl ⟨none,0,.ex 0⟩]).bind λH3=>(Hp.new H3 [.int .i64 0,.sl ⟨none,0,.ex 0⟩]).bind λH4=>(Hp.st H4 H3.length 0 (.int .i64 0)).bind λH5=>(Hp.st H5 H3.length (0+1) (.sl (⟨none,0,.ex 0⟩:Sl))).bind λH6=>aT.l61 F bl F aa aA H.length 0 H3.length 0 0 0 H6
def aT.tw:=aT.twX F (aI.tw F)
def aT.lh61 (bl:as8) (ks:as7) (n:Nat) (tm:Tm) (H:Hp):OA:=match ks,tm 0,tm 1,tm 4,tm 5,tm 6,tm 7 with
 | [],(.sl tj),(.int .i64 ct),(.ptr jN nP),(.ptr iM et),(.int .i64 jd),(.int .i64 hQ)=>aT.l61 F bl n tj ct jN nP iM et jd hQ H
 | _,_,_,_,_,_,_=>none
def aT.lh (bl:as8) (p:Nat) (ks:as7) (n:Nat) (tm:Tm) (H:Hp):OA:=bif p.beq 61 then aT.lh61 F bl ks n tm H else (none)
def aT.cs (F:Nat) (bl:as8):Cs:=[(121,mk9 bl)]
theorem aT.loops (bl:as8):LO (aY (aT.cs F bl)) aJ (aT.lh F bl) F Try.f123:=
 (ae.rt (ae.rt (ae.rt (ae.lt (ae.rt (ae.block (ae.la (λn tm H r h=>by change aT.lh61 F bl [] n tm H=_ at h;unfold aT.lh61 at h;split at h;have e:bK tm [(0,_),(1,_),(4,_),(5,_),(6,_),(7,_)]:=⟨‹_›,‹_›,‹_›,‹_›,‹_›,‹_›,trivial⟩;obtain _ | k61:=n;cases h;exact ⟨_,rfl,by rw [<- bM e];exact Eq.trans (by kernel_rfl) h⟩;cases h) λk61=>ae.no)))))))
theorem aT.eqX (bl:as8) (aa:Sl) (aA:Int) (H:Hp):EX (aY (aT.cs F bl)) aJ (aT.lh F bl) F Try.f123 [(.sl aa),(.int .i64 aA)] H=aT.twX F bl aa aA H:=by kernel_rfl
theorem aT.k:Ok Try.prog 123 (mk0 (aT.tw F)):=by
 intro args H v H' h
 unfold mk0 at h
 split at h
 ·exact okT (TB:=aJ) Try.func123 (aM (aI.k F) bA) (aT.loops F (aI.tw F)) ((aT.eqX F (aI.tw F) _ _ H).trans h) (by kernel_rfl)
 ·cases h
def a_.j3 (F:Nat) (bR:as2) (dG:as2) (dH:as2) (C125_:att) (ahe:Sl) (nM:Int) (nN:Sl) (jc:Int) (H149:Hp):OA:=C125_ ahe nM nN (wrap .i64 (jc+1)) H149
def a_.j4 (bR:as2) (dG:as2) (dH:as2) (C125_:att) (ahf:Sl) (jb:Int) (ahg:Sl) (nI:Int) (ahh:Sl) (H132:Hp):OA:=(Hp.new H132 [(.sl ahh)]).bind λH133=>(Sl.row H133 (⟨some (H132.length,0),1,.ex 1⟩:Sl) 1).bind λxs135=>(Hp.app H133 1 24 ahf (⟨some (H132.length,0),1,.ex 1⟩:Sl).n xs135).bind λa134=>a_.j3 F bR dG dH C125_ a134.1 jb ahg nI a134.2
def a_.l8021 (F:Nat) (bR:as2) (dG:as2) (dH:as2) (C125_:att):Nat->Sl->Int->Sl->Int->Sl->Int->Hp->OA
 | 0,_,_,_,_,_,_,_=>none
 | Be+1,Bf,je,xb,jf,Bg,jg,H107=>(bif (decide (jg<=je)) then ((Sl.idx xb jf 1).bind λp150=>(Hp.ldSl H107 p150.1 p150.2).bind λs151=>(dH s151 jg H107).bind λr152=>((r152.1).asAgg 2).bind λl153=>(l153[0]?).bind λv154=>((v154).asI .i64).bind λn155=>(l153[1]?).bind λv156=>((v156).asSl).bind λs157=>(Hp.new r152.2 [(.int .i64 n155),(.sl s157)]).bind λH158=>(Sl.row H158 (⟨some (r152.2.length,0),1,.ex 1⟩:Sl) 2).bind λxs160=>(Hp.app H158 2 32 Bg (⟨some (r152.2.length,0),1,.ex 1⟩:Sl).n xs160).bind λa159=>a_.l8021 F bR dG dH C125_ Be Bf je xb jf a159.1 (wrap .i64 (jg+1)) a159.2) else (a_.j4 F bR dG dH C125_ Bf je xb jf Bg H107))
def a_.l125 (F:Nat) (bR:as2) (dG:as2) (dH:as2) :Nat->Sl->Int->Sl->Int->Hp->OA
 | 0,_,_,_,_,_=>none
 | fL+1,gP,mK,Bh,kr,H26=>(bif (decide (kr<(Bh.n:Int))) then ((Hp.new H26 []).bind λH94=>a_.l8021 F bR dG dH (a_.l125 F bR dG dH fL) F gP mK Bh kr (⟨some (H26.length,0),0,.ex 0⟩:Sl) 1 H94) else (some ((.sl gP),H26)))
def a_.twX (bR:as2) (dG:as2) (dH:as2) (aa:Sl) (af:Int) (H:Hp):OA:=(Hp.new H [(.sl aa),(.int .i64 af)]).bind λH3=>(Hp.new H3 []).bind λH4=>(Hp.ldSl H4 H.length 0).bind λs5=>(Hp.ldI H4 .i64 H.length (0+1)).bind λn6=>(bR s5 n6 H4).bind λr7=>((r7.1).asTup 2).bind λl8=>(l8[0]?).bind λv9=>((v9).asSl).bind λs10=>(l8[1]?).bind λv11=>((v11).asI .i64).bind λn12=>(Hp.ldSl r7.2 H.length 0).bind λs13=>(Hp.ldI r7.2 .i64 H.length (0+1)).bind λn14=>(dG s13 n14 r7.2).bind λr15=>((r15.1).asSl).bind λs16=>a_.l125 F bR dG dH F (⟨some (H3.length,0),0,.ex 0⟩:Sl) n12 s16 0 r15.2
def a_.tw:=a_.twX F (aj.tw F) (bi.tw F) (aT.tw F)
def a_.lh125 (bR:as2) (dG:as2) (dH:as2) (ks:as7) (n:Nat) (tm:Tm) (H:Hp):OA:=match ks,tm 3,tm 5,tm 6,tm 7 with
 | [],(.sl gP),(.int .i64 mK),(.sl Bh),(.int .i64 kr)=>a_.l125 F bR dG dH n gP mK Bh kr H
 | _,_,_,_,_=>none
def a_.lh8021 (bR:as2) (dG:as2) (dH:as2) (ks:as7) (n:Nat) (tm:Tm) (H:Hp):OA:=match ks,tm 3,tm 5,tm 6,tm 7,tm 8,tm 9 with
 | [fL],(.sl Bf),(.int .i64 je),(.sl xb),(.int .i64 jf),(.sl Bg),(.int .i64 jg)=>a_.l8021 F bR dG dH (a_.l125 F bR dG dH fL) n Bf je xb jf Bg jg H
 | _,_,_,_,_,_,_=>none
def a_.lh (bR:as2) (dG:as2) (dH:as2) (p:Nat) (ks:as7) (n:Nat) (tm:Tm) (H:Hp):OA:=bif p.beq 8021 then a_.lh8021 F bR dG dH ks n tm H else (bif p.beq 125 then a_.lh125 F bR dG dH ks n tm H else (none))
def a_.cs (F:Nat) (bR:as2) (dG:as2) (dH:as2):Cs:=[(77,mk4 bR),(122,mk4 dG),(123,mk0 dH)]
theorem a_.loops (bR:as2) (dG:as2) (dH:as2):LO (aY (a_.cs F bR dG dH)) aJ (a_.lh F bR dG dH) F Try.f89:=
 (ae.rt (ae.rt (ae.rt (ae.rt (ae.lt (ae.rt (ae.block (ae.la (λn tm H r h=>by change a_.lh125 F bR dG dH [] n tm H=_ at h;unfold a_.lh125 at h;split at h;have e:bK tm [(3,_),(5,_),(6,_),(7,_)]:=⟨‹_›,‹_›,‹_›,‹_›,trivial⟩;obtain _ | k125:=n;cases h;exact ⟨_,rfl,by rw [<- bM e];exact Eq.trans (by kernel_rfl) h⟩;cases h) λk125=>(ae.rt (ae.lt (ae.block (ae.rt (ae.lt (ae.rt (ae.block (ae.la (λn tm H r h=>by change a_.lh8021 F bR dG dH [k125] n tm H=_ at h;unfold a_.lh8021 at h;split at h;have e:bK tm [(3,_),(5,_),(6,_),(7,_),(8,_),(9,_)]:=⟨‹_›,‹_›,‹_›,‹_›,‹_›,‹_›,trivial⟩;cases (show [k125]=_ from ‹_›);obtain _ | k8021:=n;cases h;exact ⟨_,rfl,by rw [<- bM e];exact Eq.trans (by kernel_rfl) h⟩;cases h) λk8021=>ae.no))))))))))))))))
theorem a_.eqX (bR:as2) (dG:as2) (dH:as2) (aa:Sl) (af:Int) (H:Hp):EX (aY (a_.cs F bR dG dH)) aJ (a_.lh F bR dG dH) F Try.f89 [(.agg [(.sl aa),(.int .i64 af)])] H=a_.twX F bR dG dH aa af H:=by kernel_rfl
theorem a_.k:Ok Try.prog 89 (mk4 (a_.tw F)):=by
 intro args H v H' h
 unfold mk4 at h
 split at h
 ·exact okT (TB:=aJ) Try.func89 (aM (aj.k F) (aM (bi.k F) (aM (aT.k F) bA))) (a_.loops F (aj.tw F) (bi.tw F) (aT.tw F)) ((a_.eqX F (aj.tw F) (bi.tw F) (aT.tw F) _ _ H).trans h) (by kernel_rfl)
 ·cases h
def aH.j3 (F:Nat) (bJ:as5) (Bi:Nat) (ahi:Nat) (Bj:Nat) (ahj:Nat) (pD:Nat) (Bk:Nat) (ahk:Sl) (H122:Hp):OA:=(Hp.ldI H122 .i64 Bi ahi).bind λn123=>(Hp.ldI H122 .i64 Bj ahj).bind λn124=>(bJ (wrap .i64 (n123+n124)) ahk H122).bind λr125=>((r125.1).asAgg 2).bind λl126=>(l126[0]?).bind λv127=>((v127).asI .i64).bind λn128=>(l126[1]?).bind λv129=>((v129).asSl).bind λs130=>(Hp.st r125.2 pD Bk (.int .i64 n128)).bind λH131=>(Hp.st H131 pD (Bk+1) (.sl s130)).bind λH132=>(Hp.ldI H132 .i64 pD Bk).bind λn133=>(Hp.ldSl H132 pD (Bk+1)).bind λs134=>some ((.agg [(.int .i64 n133),(.sl s134)]),H132)
def aH.j4 (F:Nat) (bJ:as5) (C61_:atI) (Bl:Nat) (ahl:Nat) (Bm:Nat) (ahm:Nat) (Bn:Nat) (ahn:Nat) (aho:Sl) (tl:Int) (H196:Hp):OA:=C61_ Bl ahl Bm ahm Bn ahn aho (wrap .i64 (tl+1)) H196
def aH.j5 (bJ:as5) (C61_:atI) (Bo:Nat) (ahp:Nat) (Bp:Nat) (ahq:Nat) (jO:Nat) (tn:Nat) (ahr:Sl) (tp:Int) (H179:Hp):OA:=aH.j4 F bJ C61_ Bo ahp Bp ahq jO tn ahr tp H179
def aH.l981 (F:Nat) (bJ:as5) (C61_:atI):Nat->Nat->Nat->Nat->Nat->Nat->Nat->Sl->Int->Int->Hp->OA
 | 0,_,_,_,_,_,_,_,_,_,_=>none
 | ahs+1,mL,xc,lT,tq,nQ,Bq,tt,gB,gC,H151=>(Hp.ldSl H151 lT (tq+1)).bind λs197=>(bif (decide (gC<(s197.n:Int))) then ((Sl.idx tt (wrap .i64 (gB+gC)) 1).bind λp198=>(Hp.ldI H151 .i64 p198.1 p198.2).bind λn199=>(Hp.ldSl H151 mL (xc+1)).bind λs200=>(Sl.idx s200 gB 1).bind λp201=>(Hp.ldI H151 .i64 p201.1 p201.2).bind λn202=>(Hp.ldSl H151 lT (tq+1)).bind λs203=>(Sl.idx s203 gC 1).bind λp204=>(Hp.ldI H151 .i64 p204.1 p204.2).bind λn205=>(Sl.idx tt (wrap .i64 (gB+gC)) 1).bind λp206=>(Hp.st H151 p206.1 p206.2 (.int .i64 (wrap .i64 (n199+(wrap .i64 (n202 * n205)))))).bind λH207=>aH.l981 F bJ C61_ ahs mL xc lT tq nQ Bq tt gB (wrap .i64 (gC+1)) H207) else (aH.j5 F bJ C61_ mL xc lT tq nQ Bq tt gB H151))
termination_by structural n=>n
def aH.l61 (F:Nat) (bJ:as5) :Nat->Nat->Nat->Nat->Nat->Nat->Nat->Sl->Int->Hp->OA
 | 0,_,_,_,_,_,_,_,_,_=>none
 | bE+1,fa,iN,nR,hU,nS,fq,Br,kt,H34=>(Hp.ldSl H34 fa (iN+1)).bind λs135=>(bif (decide (kt<(s135.n:Int))) then (aH.l981 F bJ (aH.l61 F bJ bE) F fa iN nR hU nS fq Br kt 0 H34) else (aH.j3 F bJ fa iN nR hU nS fq Br H34))
termination_by structural n=>n
def aH.twX (bJ:as5) (aa:Int) (af:Sl) (au:Int) (bu:Sl) (H:Hp):OA:=(Hp.new H [(.int .i64 aa),(.sl af)]).bind λH5=>(Hp.new H5 [(.int .i64 au),(.sl bu)]).bind λH6=>(Hp.new H6 [.int .i64 0,.sl ⟨none,0,.ex 0⟩]).bind λH7=>(Hp.ldSl H7 H.length 1).bind λs8=>(bif ((s8.n:Int)==0) then ((Hp.st H7 H6.length 0 (.int .i64 0)).bind λH9=>(Hp.st H9 H6.length (0+1) (.sl (⟨none,0,.ex 0⟩:Sl))).bind λH10=>(Hp.ldI H10 .i64 H6.length 0).bind λn11=>(Hp.ldSl H10 H6.length (0+1)).bind λs12=>some ((.agg [(.int .i64 n11),(.sl s12)]),H10)) else ((Hp.ldSl H7 H5.length 1).bind λs13=>(bif ((s13.n:Int)==0) then ((Hp.st H7 H6.length 0 (.int .i64 0)).bind λH14=>(Hp.st H14 H6.length (0+1) (.sl (⟨none,0,.ex 0⟩:Sl))).bind λH15=>(Hp.ldI H15 .i64 H6.length 0).bind λn16=>(Hp.ldSl H15 H6.length (0+1)).bind λs17=>some ((.agg [(.int .i64 n16),(.sl s17)]),H15)) else ((Hp.ldSl H7 H.length 1).bind λs18=>(Hp.ldSl H7 H5.length 1).bind λs19=>(Hp.mk H7 [.int .i64 0] 8 (wrap .i64 ((wrap .i64 ((s18.n:Int)+(s19.n:Int))) - 1)) (wrap .i64 ((wrap .i64 ((s18.n:Int)+(s19.n:Int))) - 1))).bind λm20=>aH.l61 F bJ F H.length 0 H5.length 0 H6.length 0 m20.1 0 m20.2))))
def aH.tw:=aH.twX F (aR.tw F)
def aH.lh61 (bJ:as5) (ks:as7) (n:Nat) (tm:Tm) (H:Hp):OA:=match ks,tm 2,tm 3,tm 4,tm 5,tm 6 with
 | [],(.ptr fa iN),(.ptr nR hU),(.ptr nS fq),(.sl Br),(.int .i64 kt)=>aH.l61 F bJ n fa iN nR hU nS fq Br kt H
 | _,_,_,_,_,_=>none
def aH.lh981 (bJ:as5) (ks:as7) (n:Nat) (tm:Tm) (H:Hp):OA:=match ks,tm 2,tm 3,tm 4,tm 5,tm 6,tm 7 with
 | [bE],(.ptr mL xc),(.ptr lT tq),(.ptr nQ Bq),(.sl tt),(.int .i64 gB),(.int .i64 gC)=>aH.l981 F bJ (aH.l61 F bJ bE) n mL xc lT tq nQ Bq tt gB gC H
 | _,_,_,_,_,_,_=>none
def aH.lh (bJ:as5) (p:Nat) (ks:as7) (n:Nat) (tm:Tm) (H:Hp):OA:=bif p.beq 981 then aH.lh981 F bJ ks n tm H else (bif p.beq 61 then aH.lh61 F bJ ks n tm H else (none))
def aH.pn:Nat->List Nat:=cQ [(10,[19])]
def aH.tb:Nat->List (List Nat):=cQ [(10,[[],[],[],[1,2],[0,1,2,3],[0,1,2,3,4],[],[6],[],[6,7,8],[6,7,8,9],[],[11],[],[11,12,13],[11,12,13,14],[6,7,8,9,10,11,12,13,14,15],[0,1,2,3,4,5,6,7,8,9,10,11,12,13,14,15,16],[0,1,2,3,4,5,6,7,8,9,10,11,12,13,14,15,16,17],[0,1,2,3,4,5,6,7,8,9,10,11,12,13,14,15,16,17,18]])]
def aH.cs (F:Nat) (bJ:as5):Cs:=[(142,mk8 bJ)]
theorem aH.loops (bJ:as5):LO (aY (aH.cs F bJ)) aH.pn (aH.lh F bJ) F Try.f120:=
 (ae.rt (ae.rt (ae.rt (ae.lt (ae.rt (ae.block (ae.la (λn tm H r h=>by change aH.lh61 F bJ [] n tm H=_ at h;unfold aH.lh61 at h;split at h;have e:bK tm [(2,_),(3,_),(4,_),(5,_),(6,_)]:=⟨‹_›,‹_›,‹_›,‹_›,‹_›,trivial⟩;obtain _ | k61:=n;cases h;exact ⟨_,rfl,by rw [<- bM e];exact Eq.trans (by kernel_rfl) h⟩;cases h) λk61=>(ae.rt (ae.lt (ae.block (ae.rt (ae.block (ae.la (λn tm H r h=>by change aH.lh981 F bJ [k61] n tm H=_ at h;unfold aH.lh981 at h;split at h;have e:bK tm [(2,_),(3,_),(4,_),(5,_),(6,_),(7,_)]:=⟨‹_›,‹_›,‹_›,‹_›,‹_›,‹_›,trivial⟩;cases (show [k61]=_ from ‹_›);obtain _ | k981:=n;cases h;exact ⟨_,rfl,by rw [<- bM e];exact Eq.trans (by kernel_rfl) h⟩;cases h) λk981=>ae.no)))))))))))))
theorem aH.eqX (bJ:as5) (aa:Int) (af:Sl) (au:Int) (bu:Sl) (H:Hp):EX (aY (aH.cs F bJ)) aH.pn (aH.lh F bJ) F Try.f120 [(.agg [(.int .i64 aa),(.sl af)]),(.agg [(.int .i64 au),(.sl bu)])] H=aH.twX F bJ aa af au bu H:=by kernel_rfl
theorem aH.k:Ok Try.prog 120 (mk9 (aH.tw F)):=by
 intro args H v H' h
 unfold mk9 at h
 split at h
 ·exact okT (TB:=aH.tb) Try.func120 (aM (aR.k F) bA) (aH.loops F (aR.tw F)) ((aH.eqX F (aR.tw F) _ _ _ _ H).trans h) (by kernel_rfl)
 ·cases h
def av.j8 (F:Nat) (cn:as8) (bl:as8) (nT:Int) (pE:Nat) (Bs:Nat) (aht:Sl) (H243:Hp):OA:=(if (IntKind.u64.wrap nT)<0 then none else ((Sl.idx aht (wrap .i64 ((wrap .i64 (1 * 2 ^ (min ((IntKind.u64.wrap nT):Int).toNat (IntKind.i64).bits))) - 1)) 2).bind λp244=>(Hp.ldI H243 .i64 p244.1 p244.2).bind λn245=>(Hp.ldSl H243 p244.1 (p244.2+1)).bind λs246=>(Hp.st H243 pE Bs (.int .i64 n245)).bind λH247=>(Hp.st H247 pE (Bs+1) (.sl s246)).bind λH248=>(Hp.ldI H248 .i64 pE Bs).bind λn249=>(Hp.ldSl H248 pE (Bs+1)).bind λs250=>some ((.agg [(.int .i64 n249),(.sl s250)]),H248)))
def av.j11 (F:Nat) (cn:as8) (bl:as8) (C61_:atv) (ahu:Sl) (tu:Int) (Bt:Nat) (ahv:Nat) (ahw:Sl) (tv:Int) (H398:Hp):OA:=C61_ ahu tu Bt ahv ahw (wrap .i64 (tv+1)) H398
def av.j12 (cn:as8) (bl:as8) (C61_:atv) (ahx:Sl) (tz:Int) (Bu:Nat) (ahy:Nat) (UX:Sl) (nU:Int) (xd:Nat) (UY:Nat) (H377:Hp):OA:=(Hp.ldI H377 .i64 xd UY).bind λn378=>(Hp.ldSl H377 xd (UY+1)).bind λs379=>(Sl.idx UX nU 2).bind λp380=>(Hp.st H377 p380.1 p380.2 (.int .i64 n378)).bind λH381=>(Hp.st H381 p380.1 (p380.2+1) (.sl s379)).bind λH382=>av.j11 F cn bl C61_ ahx tz Bu ahy UX nU H382
def av.j13 (F:Nat) (cn:as8) (bl:as8) (C31421_:atX) (ahz:Sl) (tB:Int) (Bv:Nat) (ahA:Nat) (ahB:Sl) (tC:Int) (tD:Int) (Bw:Nat) (ahC:Nat) (tE:Int) (tF:Int) (H415:Hp):OA:=C31421_ ahz tB Bv ahA ahB tC tD Bw ahC tE (wrap .i64 (tF - 1)) H415
def av.j14 (F:Nat) (cn:as8) (bl:as8) (C31421_:atX) (ahD:Sl) (tG:Int) (Bx:Nat) (ahE:Nat) (ahF:Sl) (tH:Int) (tI:Int) (By:Nat) (ahG:Nat) (tJ:Int) (tK:Int) (H470:Hp):OA:=C31421_ ahD tG Bx ahE ahF tH tI By ahG tJ (wrap .i64 (tK - 1)) H470
def av.l31421 (F:Nat) (cn:as8) (bl:as8) (C61_:atv):Nat->Sl->Int->Nat->Nat->Sl->Int->Int->Nat->Nat->Int->Int->Hp->OA
 | 0,_,_,_,_,_,_,_,_,_,_,_,_=>none
 | UZ+1,tL,jh,mM,xe,tM,gD,ji,jj,mN,hY,eT,H289=>(bif (decide (eT>=0)) then ((if (IntKind.u64.wrap eT)<0 then none else ((bif ((Go.bits .and .i64 (Int.fdiv gD (2 ^ (min ((IntKind.u64.wrap eT):Int).toNat (IntKind.i64).bits))) 1)==0) then (av.j13 F cn bl (av.l31421 F cn bl C61_ UZ) tL jh mM xe tM gD ji jj mN hY eT H289) else ((Sl.idx tL ji 1).bind λp416=>(Hp.ldSl H289 p416.1 p416.2).bind λs417=>(Sl.idx s417 eT 2).bind λp418=>(Hp.ldI H289 .i64 p418.1 p418.2).bind λn419=>(Hp.ldSl H289 p418.1 (p418.2+1)).bind λs420=>(if (IntKind.u64.wrap eT)<0 then none else ((Sl.idx tM (wrap .i64 (gD - (wrap .i64 (1 * 2 ^ (min ((IntKind.u64.wrap eT):Int).toNat (IntKind.i64).bits))))) 2).bind λp421=>(Hp.ldI H289 .i64 p421.1 p421.2).bind λn422=>(Hp.ldSl H289 p421.1 (p421.2+1)).bind λs423=>(cn n419 s420 n422 s423 H289).bind λr424=>((r424.1).asAgg 2).bind λl425=>(l425[0]?).bind λv426=>((v426).asI .i64).bind λn427=>(l425[1]?).bind λv428=>((v428).asSl).bind λs429=>(if aZ H289 r424.2 then ((Hp.new r424.2 [.int .i64 0,.sl ⟨none,0,.ex 0⟩]).bind λH430=>(Hp.st H430 r424.2.length 0 (.int .i64 n427)).bind λH431=>(Hp.st H431 r424.2.length (0+1) (.sl s429)).bind λH432=>(Hp.ldI H432 .i64 jj mN).bind λn433=>(Hp.ldSl H432 jj (mN+1)).bind λs434=>(Hp.ldI H432 .i64 r424.2.length 0).bind λn435=>(Hp.ldSl H432 r424.2.length (0+1)).bind λs436=>(Hp.new H432 [(.int .i64 hY)]).bind λH437=>(cn n435 s436 0 (⟨some (H432.length,0),1,.ex 1⟩:Sl) H437).bind λr438=>((r438.1).asAgg 2).bind λl439=>(l439[0]?).bind λv440=>((v440).asI .i64).bind λn441=>(l439[1]?).bind λv442=>((v442).asSl).bind λs443=>(if aZ H437 r438.2 then ((bl n433 s434 n441 s443 r438.2).bind λr444=>((r444.1).asAgg 2).bind λl445=>(l445[0]?).bind λv446=>((v446).asI .i64).bind λn447=>(l445[1]?).bind λv448=>((v448).asSl).bind λs449=>(Hp.st r444.2 jj mN (.int .i64 n447)).bind λH450=>(Hp.st H450 jj (mN+1) (.sl s449)).bind λH451=>av.j14 F cn bl (av.l31421 F cn bl C61_ UZ) tL jh mM xe tM gD ji jj mN (wrap .i64 (0 - hY)) eT H451) else none)) else none)))))))) else (av.j12 F cn bl C61_ tL jh mM xe tM gD jj mN H289))
termination_by structural n=>n
def av.j15 (cn:as8) (bl:as8) (C61_:atv) (ahH:Sl) (nV:Int) (Bz:Nat) (ahI:Nat) (ahJ:Sl) (tO:Int) (tP:Int) (H271:Hp):OA:=(Hp.new H271 [.int .i64 0,.sl ⟨none,0,.ex 0⟩]).bind λH272=>(Hp.st H272 H271.length 0 (.int .i64 0)).bind λH273=>(Hp.st H273 H271.length (0+1) (.sl (⟨none,0,.ex 0⟩:Sl))).bind λH274=>av.l31421 F cn bl C61_ F ahH nV Bz ahI ahJ tO tP H271.length 0 1 (wrap .i64 (nV - 1)) H274
def av.l3925 (F:Nat) (cn:as8) (bl:as8) (C61_:atv):Nat->Sl->Int->Nat->Nat->Sl->Int->Int->Int->Hp->OA
 | 0,_,_,_,_,_,_,_,_,_=>none
 | ahK+1,BA,jk,nW,BB,BC,jl,ku,hZ,H260=>(bif (decide (hZ<jk)) then ((if (IntKind.u64.wrap hZ)<0 then none else (av.l3925 F cn bl C61_ ahK BA jk nW BB BC jl (wrap .i64 (ku+(Go.bits .and .i64 (Int.fdiv jl (2 ^ (min ((IntKind.u64.wrap hZ):Int).toNat (IntKind.i64).bits))) 1))) (wrap .i64 (hZ+1)) H260))) else (av.j15 F cn bl C61_ BA jk nW BB BC jl ku H260))
termination_by structural n=>n
def av.l61 (F:Nat) (cn:as8) (bl:as8) :Nat->Sl->Int->Nat->Nat->Sl->Int->Hp->OA
 | 0,_,_,_,_,_,_,_=>none
 | bE+1,Hz,d_,dN,gb,BD,kv,H15=>(if (IntKind.u64.wrap d_)<0 then none else ((bif (decide (kv<(wrap .i64 (1 * 2 ^ (min ((IntKind.u64.wrap d_):Int).toNat (IntKind.i64).bits))))) then (av.l3925 F cn bl (av.l61 F cn bl bE) F Hz d_ dN gb BD kv (-1) 0 H15) else (av.j8 F cn bl d_ dN gb BD H15))))
termination_by structural n=>n
def av.twX (cn:as8) (bl:as8) (aa:Sl) (aA:Int) (H:Hp):OA:=(Hp.new H [.int .i64 0,.sl ⟨none,0,.ex 0⟩]).bind λH3=>(if (IntKind.u64.wrap aA)<0 then none else ((Hp.mk H3 [.int .i64 0,.sl ⟨none,0,.ex 0⟩] 32 (wrap .i64 (1 * 2 ^ (min ((IntKind.u64.wrap aA):Int).toNat (IntKind.i64).bits))) (wrap .i64 (1 * 2 ^ (min ((IntKind.u64.wrap aA):Int).toNat (IntKind.i64).bits)))).bind λm4=>(Hp.new m4.2 [(.int .i64 1)]).bind λH5=>(Sl.idx m4.1 0 2).bind λp6=>(Hp.st H5 p6.1 p6.2 (.int .i64 0)).bind λH7=>(Hp.st H7 p6.1 (p6.2+1) (.sl (⟨some (m4.2.length,0),1,.ex 1⟩:Sl))).bind λH8=>av.l61 F cn bl F aa aA H.length 0 m4.1 1 H8))
def av.tw:=av.twX F (aH.tw F) (aI.tw F)
def av.lh61 (cn:as8) (bl:as8) (ks:as7) (n:Nat) (tm:Tm) (H:Hp):OA:=match ks,tm 0,tm 1,tm 4,tm 5,tm 6 with
 | [],(.sl Hz),(.int .i64 d_),(.ptr dN gb),(.sl BD),(.int .i64 kv)=>av.l61 F cn bl n Hz d_ dN gb BD kv H
 | _,_,_,_,_,_=>none
def av.lh3925 (cn:as8) (bl:as8) (ks:as7) (n:Nat) (tm:Tm) (H:Hp):OA:=match ks,tm 0,tm 1,tm 4,tm 5,tm 6,tm 7,tm 8 with
 | [bE],(.sl BA),(.int .i64 jk),(.ptr nW BB),(.sl BC),(.int .i64 jl),(.int .i64 ku),(.int .i64 hZ)=>av.l3925 F cn bl (av.l61 F cn bl bE) n BA jk nW BB BC jl ku hZ H
 | _,_,_,_,_,_,_,_=>none
def av.lh31421 (cn:as8) (bl:as8) (ks:as7) (n:Nat) (tm:Tm) (H:Hp):OA:=match ks,tm 0,tm 1,tm 4,tm 5,tm 6,tm 7,tm 9,tm 10,tm 11 with
 | [bE],(.sl tL),(.int .i64 jh),(.ptr mM xe),(.sl tM),(.int .i64 gD),(.int .i64 ji),(.ptr jj mN),(.int .i64 hY),(.int .i64 eT)=>av.l31421 F cn bl (av.l61 F cn bl bE) n tL jh mM xe tM gD ji jj mN hY eT H
 | _,_,_,_,_,_,_,_,_,_=>none
def av.lh (cn:as8) (bl:as8) (p:Nat) (ks:as7) (n:Nat) (tm:Tm) (H:Hp):OA:=bif p.beq 31421 then av.lh31421 F cn bl ks n tm H else (bif p.beq 3925 then av.lh3925 F cn bl ks n tm H else (bif p.beq 61 then av.lh61 F cn bl ks n tm H else (none)))
def av.pn:Nat->List Nat:=cQ [(17,[17]),(18,[6,7])]
def av.tb:Nat->List (List Nat):=cQ [(17,[[],[],[0,1],[0,1,2],[],[0,1,2,3,4],[0,1,2,3,4,5],[],[],[],[9],[9,10],[8,9,10,11],[7,8,9,10,11,12],[7,8,9,10,11,12,13],[0,1,2,3,4,5,6,7,8,9,10,11,12,13,14],[],[0,1,2,3,4,5,6,7,8,9,10,11,12,13,14,15,16]]),(18,[[],[],[],[2],[2,3],[1,2,3,4],[0,1,2,3,4,5],[0,1,2,3,4,5,6]])]
def av.cs (F:Nat) (cn:as8) (bl:as8):Cs:=[(120,mk9 cn),(121,mk9 bl)]
theorem av.loops (cn:as8) (bl:as8):LO (aY (av.cs F cn bl)) av.pn (av.lh F cn bl) F Try.f88:=
 (ae.rt (ae.rt (ae.rt (ae.lt (ae.rt (ae.block (ae.la (λn tm H r h=>by change av.lh61 F cn bl [] n tm H=_ at h;unfold av.lh61 at h;split at h;have e:bK tm [(0,_),(1,_),(4,_),(5,_),(6,_)]:=⟨‹_›,‹_›,‹_›,‹_›,‹_›,trivial⟩;obtain _ | k61:=n;cases h;exact ⟨_,rfl,by rw [<- bM e];exact Eq.trans (by kernel_rfl) h⟩;cases h) λk61=>(ae.rt (ae.lt (ae.block (ae.rt (ae.seq (ae.rt (ae.block (ae.la (λn tm H r h=>by change av.lh3925 F cn bl [k61] n tm H=_ at h;unfold av.lh3925 at h;split at h;have e:bK tm [(0,_),(1,_),(4,_),(5,_),(6,_),(7,_),(8,_)]:=⟨‹_›,‹_›,‹_›,‹_›,‹_›,‹_›,‹_›,trivial⟩;cases (show [k61]=_ from ‹_›);obtain _ | k3925:=n;cases h;exact ⟨_,rfl,by rw [<- bM e];exact Eq.trans (by kernel_rfl) h⟩;cases h) λk3925=>ae.no))) (ae.rt (ae.rt (ae.lt (ae.rt (ae.block (ae.la (λn tm H r h=>by change av.lh31421 F cn bl [k61] n tm H=_ at h;unfold av.lh31421 at h;split at h;have e:bK tm [(0,_),(1,_),(4,_),(5,_),(6,_),(7,_),(9,_),(10,_),(11,_)]:=⟨‹_›,‹_›,‹_›,‹_›,‹_›,‹_›,‹_›,‹_›,‹_›,trivial⟩;cases (show [k61]=_ from ‹_›);obtain _ | k31421:=n;cases h;exact ⟨_,rfl,by rw [<- bM e];exact Eq.trans (by kernel_rfl) h⟩;cases h) λk31421=>ae.no))))))))))))))))))
theorem av.eqX (cn:as8) (bl:as8) (aa:Sl) (aA:Int) (H:Hp):EX (aY (av.cs F cn bl)) av.pn (av.lh F cn bl) F Try.f88 [(.sl aa),(.int .i64 aA)] H=av.twX F cn bl aa aA H:=by kernel_rfl
theorem av.k:Ok Try.prog 88 (mk0 (av.tw F)):=by
 intro args H v H' h
 unfold mk0 at h
 split at h
 ·exact okT (TB:=av.tb) Try.func88 (aM (aH.k F) (aM (aI.k F) bA)) (av.loops F (aH.tw F) (aI.tw F)) ((av.eqX F (aH.tw F) (aI.tw F) _ _ H).trans h) (by kernel_rfl)
 ·cases h
def bF.l125 (F:Nat) (bX:atc) :Nat->Nat->Nat->Int->Hp->OA
 | 0,_,_,_,_=>none
 | fL+1,mO,xf,fJ,H25=>(Hp.ldSl H25 mO (xf+1)).bind λs32=>(bif (decide (fJ<(s32.n:Int))) then ((Hp.ldSl H25 mO (xf+1)).bind λs33=>(Sl.idx s33 fJ 1).bind λp34=>(Hp.ldI H25 .i64 p34.1 p34.2).bind λn35=>(bX n35 (-1000000000000) 1000000000000 H25).bind λr36=>((r36.1).asB).bind λb37=>(bif (!b37) then (some ((.bool false),r36.2)) else (bF.l125 F bX fL mO xf (wrap .i64 (fJ+1)) r36.2))) else (some ((.bool true),H25)))
termination_by structural n=>n
def bF.twX (bX:atc) (aa:Int) (af:Sl) (H:Hp):OA:=(Hp.new H [(.int .i64 aa),(.sl af)]).bind λH3=>(Hp.ldSl H3 H.length 1).bind λs4=>(bif ((s4.n:Int)==0) then ((Hp.ldI H3 .i64 H.length 0).bind λn5=>some ((.bool (n5==0)),H3)) else ((bif (decide ((s4.n:Int)>160)) then (some ((.bool false),H3)) else ((Hp.ldI H3 .i64 H.length 0).bind λn6=>(bX n6 (-240) 240 H3).bind λr7=>((r7.1).asB).bind λb8=>(bif (!b8) then (some ((.bool false),r7.2)) else ((Hp.ldI r7.2 .i64 H.length 0).bind λn9=>(bif (decide ((wrap .i64 ((wrap .i64 (n9+(s4.n:Int))) - 1))>240)) then (some ((.bool false),r7.2)) else ((Hp.ldSl r7.2 H.length 1).bind λs10=>(Sl.idx s10 0 1).bind λp11=>(Hp.ldI r7.2 .i64 p11.1 p11.2).bind λn12=>(bif (n12==0) then (some ((.bool false),r7.2)) else ((Hp.ldSl r7.2 H.length 1).bind λs13=>(Sl.idx s13 (wrap .i64 ((s4.n:Int) - 1)) 1).bind λp14=>(Hp.ldI r7.2 .i64 p14.1 p14.2).bind λn15=>(bif (n15==0) then (some ((.bool false),r7.2)) else (bF.l125 F bX F H.length 0 0 r7.2))))))))))))
def bF.tw:=bF.twX F (cR.tw F)
def bF.lh125 (bX:atc) (ks:as7) (n:Nat) (tm:Tm) (H:Hp):OA:=match ks,tm 1,tm 4 with
 | [],(.ptr mO xf),(.int .i64 fJ)=>bF.l125 F bX n mO xf fJ H
 | _,_,_=>none
def bF.lh (bX:atc) (p:Nat) (ks:as7) (n:Nat) (tm:Tm) (H:Hp):OA:=bif p.beq 125 then bF.lh125 F bX ks n tm H else (none)
def mk10 (g:as5) (args:atg) (H:Hp):OA:=match args with
 | [(.agg [(.int .i64 aa),(.sl af)])]=>g aa af H
 | _=>none
theorem mk10_E (g:as5) (aa:Int) (af:Sl) (H:Hp):mk10 g [(.agg [(.int .i64 aa),(.sl af)])] H=g aa af H:=rfl
def bF.cs (F:Nat) (bX:atc):Cs:=[(39,mk5 bX)]
theorem bF.loops (bX:atc):LO (aY (bF.cs F bX)) aJ (bF.lh F bX) F Try.f85:=
 (ae.rt (ae.rt (ae.rt (ae.rt (ae.lt (ae.rt (ae.block (ae.la (λn tm H r h=>by change bF.lh125 F bX [] n tm H=_ at h;unfold bF.lh125 at h;split at h;have e:bK tm [(1,_),(4,_)]:=⟨‹_›,‹_›,trivial⟩;obtain _ | k125:=n;cases h;exact ⟨_,rfl,by rw [<- bM e];exact Eq.trans (by kernel_rfl) h⟩;cases h) λk125=>ae.no))))))))
theorem bF.eqX (bX:atc) (aa:Int) (af:Sl) (H:Hp):EX (aY (bF.cs F bX)) aJ (bF.lh F bX) F Try.f85 [(.agg [(.int .i64 aa),(.sl af)])] H=bF.twX F bX aa af H:=by kernel_rfl
theorem bF.k:Ok Try.prog 85 (mk10 (bF.tw F)):=by
 intro args H v H' h
 unfold mk10 at h
 split at h
 ·exact okT (TB:=aJ) Try.func85 (aM (cR.k F) bA) (bF.loops F (cR.tw F)) ((bF.eqX F (cR.tw F) _ _ H).trans h) (by kernel_rfl)
 ·cases h
def bm.j2 (F:Nat) (cu:as5) (C61_:at1) (BE:Nat) (ahL:Nat) (BF:Nat) (ahM:Nat) (tQ:Nat) (HA:Nat) (tR:Int) (nX:Int) (H84:Hp):OA:=(Hp.ldSl H84 tQ (HA+1)).bind λs85=>(Hp.new H84 [(.int .i64 nX)]).bind λH86=>(Sl.row H86 (⟨some (H84.length,0),1,.ex 1⟩:Sl) 1).bind λxs88=>(Hp.app H86 1 8 s85 (⟨some (H84.length,0),1,.ex 1⟩:Sl).n xs88).bind λa87=>(Hp.st a87.2 tQ (HA+1) (.sl a87.1)).bind λH89=>C61_ BE ahL BF ahM tQ HA (wrap .i64 (tR+1)) H89
def bm.l61 (F:Nat) (cu:as5) :Nat->Nat->Nat->Nat->Nat->Nat->Nat->Int->Hp->OA
 | 0,_,_,_,_,_,_,_,_=>none
 | bE+1,kw,pF,fa,iN,hU,tS,fq,H31=>(Hp.ldSl H31 kw (pF+1)).bind λs64=>(bif (decide (fq<(s64.n:Int))) then ((Hp.ldSl H31 kw (pF+1)).bind λs65=>(Sl.idx s65 fq 1).bind λp66=>(Hp.ldI H31 .i64 p66.1 p66.2).bind λn67=>(Hp.ldSl H31 kw (pF+1)).bind λs68=>(Sl.idx s68 0 1).bind λp69=>(Hp.ldI H31 .i64 p69.1 p69.2).bind λn70=>(bif (decide (n70<0)) then (bm.j2 F cu (bm.l61 F cu bE) kw pF fa iN hU tS fq (wrap .i64 (0 - n67)) H31) else (bm.j2 F cu (bm.l61 F cu bE) kw pF fa iN hU tS fq n67 H31))) else ((Hp.ldI H31 .i64 hU tS).bind λn90=>(Hp.ldSl H31 hU (tS+1)).bind λs91=>(Hp.st H31 fa iN (.int .i64 n90)).bind λH92=>(Hp.st H92 fa (iN+1) (.sl s91)).bind λH93=>(Hp.ldI H93 .i64 fa iN).bind λn94=>(Hp.ldSl H93 fa (iN+1)).bind λs95=>some ((.agg [(.int .i64 n94),(.sl s95)]),H93)))
termination_by structural n=>n
def bm.twX (cu:as5) (aa:Int) (af:Sl) (H:Hp):OA:=(Hp.new H [(.int .i64 aa),(.sl af)]).bind λH3=>(Hp.new H3 [.int .i64 0,.sl ⟨none,0,.ex 0⟩]).bind λH4=>(Hp.ldI H4 .i64 H.length 0).bind λn5=>(Hp.ldSl H4 H.length (0+1)).bind λs6=>(cu n5 s6 H4).bind λr7=>((r7.1).asB).bind λb8=>(bif (!b8) then ((Hp.st r7.2 H3.length 0 (.int .i64 0)).bind λH9=>(Hp.st H9 H3.length (0+1) (.sl (⟨none,0,.ex 0⟩:Sl))).bind λH10=>(Hp.ldI H10 .i64 H3.length 0).bind λn11=>(Hp.ldSl H10 H3.length (0+1)).bind λs12=>some ((.agg [(.int .i64 n11),(.sl s12)]),H10)) else ((Hp.ldSl r7.2 H.length 1).bind λs13=>(bif ((s13.n:Int)==0) then ((Hp.st r7.2 H3.length 0 (.int .i64 0)).bind λH14=>(Hp.st H14 H3.length (0+1) (.sl (⟨none,0,.ex 0⟩:Sl))).bind λH15=>(Hp.ldI H15 .i64 H3.length 0).bind λn16=>(Hp.ldSl H15 H3.length (0+1)).bind λs17=>some ((.agg [(.int .i64 n16),(.sl s17)]),H15)) else ((Hp.new r7.2 [.int .i64 0,.sl ⟨none,0,.ex 0⟩]).bind λH18=>(Hp.st H18 r7.2.length 0 (.int .i64 0)).bind λH19=>(Hp.st H19 r7.2.length (0+1) (.sl (⟨none,0,.ex 0⟩:Sl))).bind λH20=>bm.l61 F cu F H.length 0 H3.length 0 r7.2.length 0 0 H20))))
def bm.tw:=bm.twX F (bF.tw F)
def bm.lh61 (cu:as5) (ks:as7) (n:Nat) (tm:Tm) (H:Hp):OA:=match ks,tm 1,tm 2,tm 3,tm 4 with
 | [],(.ptr kw pF),(.ptr fa iN),(.ptr hU tS),(.int .i64 fq)=>bm.l61 F cu n kw pF fa iN hU tS fq H
 | _,_,_,_,_=>none
def bm.lh (cu:as5) (p:Nat) (ks:as7) (n:Nat) (tm:Tm) (H:Hp):OA:=bif p.beq 61 then bm.lh61 F cu ks n tm H else (none)
def bm.cs (F:Nat) (cu:as5):Cs:=[(85,mk10 cu)]
theorem bm.loops (cu:as5):LO (aY (bm.cs F cu)) aJ (bm.lh F cu) F Try.f87:=
 (ae.rt (ae.rt (ae.rt (ae.lt (ae.rt (ae.block (ae.la (λn tm H r h=>by change bm.lh61 F cu [] n tm H=_ at h;unfold bm.lh61 at h;split at h;have e:bK tm [(1,_),(2,_),(3,_),(4,_)]:=⟨‹_›,‹_›,‹_›,‹_›,trivial⟩;obtain _ | k61:=n;cases h;exact ⟨_,rfl,by rw [<- bM e];exact Eq.trans (by kernel_rfl) h⟩;cases h) λk61=>ae.no)))))))
theorem bm.eqX (cu:as5) (aa:Int) (af:Sl) (H:Hp):EX (aY (bm.cs F cu)) aJ (bm.lh F cu) F Try.f87 [(.agg [(.int .i64 aa),(.sl af)])] H=bm.twX F cu aa af H:=by kernel_rfl
theorem bm.k:Ok Try.prog 87 (mk10 (bm.tw F)):=by
 intro args H v H' h
 unfold mk10 at h
 split at h
 ·exact okT (TB:=aJ) Try.func87 (aM (bF.k F) bA) (bm.loops F (bF.tw F)) ((bm.eqX F (bF.tw F) _ _ H).trans h) (by kernel_rfl)
 ·cases h
def eb.twX (F:Nat) (bR:as2) (pG:as2) (pH:as2) (pI:as5) (aa:Sl) (af:Int) (H:Hp):OA:=(Hp.new H [(.sl aa),(.int .i64 af)]).bind λH3=>(Hp.new H3 [.int .i64 0,.sl ⟨none,0,.ex 0⟩]).bind λH4=>(Hp.ldSl H4 H.length 0).bind λs5=>(Hp.ldI H4 .i64 H.length (0+1)).bind λn6=>(bR s5 n6 H4).bind λr7=>((r7.1).asTup 2).bind λl8=>(l8[0]?).bind λv9=>((v9).asSl).bind λs10=>(l8[1]?).bind λv11=>((v11).asI .i64).bind λn12=>(Hp.ldSl r7.2 H.length 0).bind λs13=>(bif ((s13.n:Int) != n12) then ((bif ((s13.n:Int) != (wrap .i64 (n12 - 1))) then ((Hp.st r7.2 H3.length 0 (.int .i64 0)).bind λH14=>(Hp.st H14 H3.length (0+1) (.sl (⟨none,0,.ex 0⟩:Sl))).bind λH15=>(Hp.ldI H15 .i64 H3.length 0).bind λn16=>(Hp.ldSl H15 H3.length (0+1)).bind λs17=>some ((.agg [(.int .i64 n16),(.sl s17)]),H15)) else ((Hp.ldSl r7.2 H.length 0).bind λs18=>(Hp.ldI r7.2 .i64 H.length (0+1)).bind λn19=>(pG s18 n19 r7.2).bind λr20=>((r20.1).asSl).bind λs21=>(pH s21 (wrap .i64 (n12 - 1)) r20.2).bind λr22=>((r22.1).asAgg 2).bind λl23=>(l23[0]?).bind λv24=>((v24).asI .i64).bind λn25=>(l23[1]?).bind λv26=>((v26).asSl).bind λs27=>(pI n25 s27 r22.2).bind λr28=>((r28.1).asAgg 2).bind λl29=>(l29[0]?).bind λv30=>((v30).asI .i64).bind λn31=>(l29[1]?).bind λv32=>((v32).asSl).bind λs33=>(Hp.st r28.2 H3.length 0 (.int .i64 n31)).bind λH34=>(Hp.st H34 H3.length (0+1) (.sl s33)).bind λH35=>(Hp.ldI H35 .i64 H3.length 0).bind λn36=>(Hp.ldSl H35 H3.length (0+1)).bind λs37=>some ((.agg [(.int .i64 n36),(.sl s37)]),H35)))) else ((Hp.ldSl r7.2 H.length 0).bind λs38=>(Hp.ldI r7.2 .i64 H.length (0+1)).bind λn39=>(pG s38 n39 r7.2).bind λr40=>((r40.1).asSl).bind λs41=>(pH s41 (wrap .i64 (n12 - 1)) r40.2).bind λr42=>((r42.1).asAgg 2).bind λl43=>(l43[0]?).bind λv44=>((v44).asI .i64).bind λn45=>(l43[1]?).bind λv46=>((v46).asSl).bind λs47=>(pI n45 s47 r42.2).bind λr48=>((r48.1).asAgg 2).bind λl49=>(l49[0]?).bind λv50=>((v50).asI .i64).bind λn51=>(l49[1]?).bind λv52=>((v52).asSl).bind λs53=>(Hp.st r48.2 H3.length 0 (.int .i64 n51)).bind λH54=>(Hp.st H54 H3.length (0+1) (.sl s53)).bind λH55=>(Hp.ldI H55 .i64 H3.length 0).bind λn56=>(Hp.ldSl H55 H3.length (0+1)).bind λs57=>some ((.agg [(.int .i64 n56),(.sl s57)]),H55)))
def eb.tw:=eb.twX F (aj.tw F) (a_.tw F) (av.tw F) (bm.tw F)
def eb.cs (F:Nat) (bR:as2) (pG:as2) (pH:as2) (pI:as5):Cs:=[(77,mk4 bR),(89,mk4 pG),(88,mk0 pH),(87,mk10 pI)]
theorem eb.eqX (bR:as2) (pG:as2) (pH:as2) (pI:as5) (aa:Sl) (af:Int) (H:Hp):EX (aY (eb.cs F bR pG pH pI)) aJ lh0 F Try.f48 [(.agg [(.sl aa),(.int .i64 af)])] H=eb.twX F bR pG pH pI aa af H:=by kernel_rfl
theorem eb.k:Ok Try.prog 48 (mk4 (eb.tw F)):=by
 intro args H v H' h
 unfold mk4 at h
 split at h
 ·exact okT (TB:=aJ) Try.func48 (aM (aj.k F) (aM (a_.k F) (aM (av.k F) (aM (bm.k F) bA)))) ae.no ((eb.eqX F (aj.tw F) (a_.tw F) (av.tw F) (bm.tw F) _ _ H).trans h) (by kernel_rfl)
 ·cases h
def eB.twX (F:Nat) (tT:as2) (pJ:as2) (aa:Sl) (af:Int) (H:Hp):OA:=(Hp.new H [(.sl aa),(.int .i64 af)]).bind λH3=>(Hp.new H3 [.int .i64 0,.sl ⟨none,0,.ex 0⟩]).bind λH4=>(Hp.ldSl H4 H.length 0).bind λs5=>(Hp.ldI H4 .i64 H.length (0+1)).bind λn6=>(tT s5 n6 H4).bind λr7=>((r7.1).asB).bind λb8=>(bif (!b8) then ((Hp.st r7.2 H3.length 0 (.int .i64 0)).bind λH9=>(Hp.st H9 H3.length (0+1) (.sl (⟨none,0,.ex 0⟩:Sl))).bind λH10=>(Hp.ldI H10 .i64 H3.length 0).bind λn11=>(Hp.ldSl H10 H3.length (0+1)).bind λs12=>some ((.tup [(.agg [(.int .i64 n11),(.sl s12)]),(.int .i64 1)]),H10)) else ((Hp.ldSl r7.2 H.length 0).bind λs13=>(bif ((s13.n:Int)==0) then ((Hp.ldI r7.2 .i64 H.length 1).bind λn14=>(bif (n14==0) then ((Hp.st r7.2 H3.length 0 (.int .i64 0)).bind λH15=>(Hp.st H15 H3.length (0+1) (.sl (⟨none,0,.ex 0⟩:Sl))).bind λH16=>(Hp.ldI H16 .i64 H3.length 0).bind λn17=>(Hp.ldSl H16 H3.length (0+1)).bind λs18=>some ((.tup [(.agg [(.int .i64 n17),(.sl s18)]),(.int .i64 5)]),H16)) else ((Hp.ldSl r7.2 H.length 0).bind λs19=>(Hp.ldI r7.2 .i64 H.length (0+1)).bind λn20=>(pJ s19 n20 r7.2).bind λr21=>((r21.1).asAgg 2).bind λl22=>(l22[0]?).bind λv23=>((v23).asI .i64).bind λn24=>(l22[1]?).bind λv25=>((v25).asSl).bind λs26=>(Hp.st r21.2 H3.length 0 (.int .i64 n24)).bind λH27=>(Hp.st H27 H3.length (0+1) (.sl s26)).bind λH28=>(Hp.ldI H28 .i64 H3.length 0).bind λn29=>(Hp.ldSl H28 H3.length (0+1)).bind λs30=>some ((.tup [(.agg [(.int .i64 n29),(.sl s30)]),(.int .i64 0)]),H28)))) else ((Hp.ldSl r7.2 H.length 0).bind λs31=>(Hp.ldI r7.2 .i64 H.length (0+1)).bind λn32=>(pJ s31 n32 r7.2).bind λr33=>((r33.1).asAgg 2).bind λl34=>(l34[0]?).bind λv35=>((v35).asI .i64).bind λn36=>(l34[1]?).bind λv37=>((v37).asSl).bind λs38=>(Hp.st r33.2 H3.length 0 (.int .i64 n36)).bind λH39=>(Hp.st H39 H3.length (0+1) (.sl s38)).bind λH40=>(Hp.ldI H40 .i64 H3.length 0).bind λn41=>(Hp.ldSl H40 H3.length (0+1)).bind λs42=>some ((.tup [(.agg [(.int .i64 n41),(.sl s42)]),(.int .i64 0)]),H40)))))
def eB.tw:=eB.twX F (dE.tw F) (eb.tw F)
def eB.cs (F:Nat) (tT:as2) (pJ:as2):Cs:=[(26,mk4 tT),(48,mk4 pJ)]
theorem eB.eqX (tT:as2) (pJ:as2) (aa:Sl) (af:Int) (H:Hp):EX (aY (eB.cs F tT pJ)) aJ lh0 F Try.f20 [(.agg [(.sl aa),(.int .i64 af)])] H=eB.twX F tT pJ aa af H:=by kernel_rfl
theorem eB.k:Ok Try.prog 20 (mk4 (eB.tw F)):=by
 intro args H v H' h
 unfold mk4 at h
 split at h
 ·exact okT (TB:=aJ) Try.func20 (aM (dE.k F) (aM (eb.k F) bA)) ae.no ((eB.eqX F (dE.tw F) (eb.tw F) _ _ H).trans h) (by kernel_rfl)
 ·cases h
def bk.j2 (F:Nat) (cu:as5) (C61_:at2) (tU:Int) (BG:Nat) (ahN:Nat) (tV:Int) (tW:Int) (H61:Hp):OA:=C61_ tU BG ahN tV (wrap .i64 (tW+1)) H61
def bk.l61 (F:Nat) (cu:as5) :Nat->Int->Nat->Nat->Int->Int->Hp->OA
 | 0,_,_,_,_,_,_=>none
 | bE+1,h_,iO,dR,ia,eU,H19=>(Hp.ldSl H19 iO (dR+1)).bind λs44=>(bif (decide (eU<(s44.n:Int))) then ((bif (decide (h_<0)) then ((Hp.ldI H19 .i64 iO dR).bind λn45=>(bif ((Int.tmod (wrap .i64 (n45+eU)) 2) != 0) then ((Hp.ldSl H19 iO (dR+1)).bind λs46=>(Sl.idx s46 eU 1).bind λp47=>(Hp.ldI H19 .i64 p47.1 p47.2).bind λn48=>bk.j2 F cu (bk.l61 F cu bE) h_ iO dR (wrap .i64 (ia - n48)) eU H19) else ((Hp.ldSl H19 iO (dR+1)).bind λs62=>(Sl.idx s62 eU 1).bind λp63=>(Hp.ldI H19 .i64 p63.1 p63.2).bind λn64=>bk.j2 F cu (bk.l61 F cu bE) h_ iO dR (wrap .i64 (ia+n64)) eU H19))) else ((Hp.ldSl H19 iO (dR+1)).bind λs65=>(Sl.idx s65 eU 1).bind λp66=>(Hp.ldI H19 .i64 p66.1 p66.2).bind λn67=>bk.l61 F cu bE h_ iO dR (wrap .i64 (ia+n67)) (wrap .i64 (eU+1)) H19))) else (some ((.tup [(.int .i64 ia),(.bool true)]),H19)))
termination_by structural n=>n
def bk.twX (cu:as5) (aa:Int) (af:Sl) (au:Int) (H:Hp):OA:=(Hp.new H [(.int .i64 aa),(.sl af)]).bind λH4=>(Hp.ldI H4 .i64 H.length 0).bind λn5=>(Hp.ldSl H4 H.length (0+1)).bind λs6=>(cu n5 s6 H4).bind λr7=>((r7.1).asB).bind λb8=>(bif (!b8) then (some ((.tup [(.int .i64 0),(.bool false)]),r7.2)) else ((bif (au != 1) then ((bif (au != (-1)) then (some ((.tup [(.int .i64 0),(.bool false)]),r7.2)) else (bk.l61 F cu F au H.length 0 0 0 r7.2))) else (bk.l61 F cu F au H.length 0 0 0 r7.2))))
def bk.tw:=bk.twX F (bF.tw F)
def bk.lh61 (cu:as5) (ks:as7) (n:Nat) (tm:Tm) (H:Hp):OA:=match ks,tm 1,tm 2,tm 6,tm 7 with
 | [],(.int .i64 h_),(.ptr iO dR),(.int .i64 ia),(.int .i64 eU)=>bk.l61 F cu n h_ iO dR ia eU H
 | _,_,_,_,_=>none
def bk.lh (cu:as5) (p:Nat) (ks:as7) (n:Nat) (tm:Tm) (H:Hp):OA:=bif p.beq 61 then bk.lh61 F cu ks n tm H else (none)
def mk11 (g:atu) (args:atg) (H:Hp):OA:=match args with
 | [(.agg [(.int .i64 aa),(.sl af)]),(.int .i64 au)]=>g aa af au H
 | _=>none
theorem mk11_E (g:atu) (aa:Int) (af:Sl) (au:Int) (H:Hp):mk11 g [(.agg [(.int .i64 aa),(.sl af)]),(.int .i64 au)] H=g aa af au H:=rfl
def bk.cs (F:Nat) (cu:as5):Cs:=[(85,mk10 cu)]
theorem bk.loops (cu:as5):LO (aY (bk.cs F cu)) aJ (bk.lh F cu) F Try.f46:=
 (ae.rt (ae.rt (ae.rt (ae.lt (ae.rt (ae.block (ae.la (λn tm H r h=>by change bk.lh61 F cu [] n tm H=_ at h;unfold bk.lh61 at h;split at h;have e:bK tm [(1,_),(2,_),(6,_),(7,_)]:=⟨‹_›,‹_›,‹_›,‹_›,trivial⟩;obtain _ | k61:=n;cases h;exact ⟨_,rfl,by rw [<- bM e];exact Eq.trans (by kernel_rfl) h⟩;cases h) λk61=>ae.no)))))))
theorem bk.eqX (cu:as5) (aa:Int) (af:Sl) (au:Int) (H:Hp):EX (aY (bk.cs F cu)) aJ (bk.lh F cu) F Try.f46 [(.agg [(.int .i64 aa),(.sl af)]),(.int .i64 au)] H=bk.twX F cu aa af au H:=by kernel_rfl
theorem bk.k:Ok Try.prog 46 (mk11 (bk.tw F)):=by
 intro args H v H' h
 unfold mk11 at h
 split at h
 ·exact okT (TB:=aJ) Try.func46 (aM (bF.k F) bA) (bk.loops F (bF.tw F)) ((bk.eqX F (bF.tw F) _ _ _ H).trans h) (by kernel_rfl)
 ·cases h
def fM.twX (F:Nat) (aa:Int) (H:Hp):OA:=some ((.int .i64 (if (wrap .i64 (0 - aa))>aa then (wrap .i64 (0 - aa)) else aa)),H)
def fM.tw:=fM.twX F
def mk12 (g:as_) (args:atg) (H:Hp):OA:=match args with
 | [(.int .i64 aa)]=>g aa H
 | _=>none
theorem mk12_E (g:as_) (aa:Int) (H:Hp):mk12 g [(.int .i64 aa)] H=g aa H:=rfl
theorem fM.k:Ok Try.prog 28 (mk12 (fM.tw F)):=by
 intro args H v H' h
 unfold mk12 at h
 split at h
 ·exact ok0 Try.func28 (Eq.trans (by kernel_rfl) h) (by kernel_rfl) (by kernel_rfl)
 ·cases h
def eC.twX (F:Nat) (tX:as2) (tY:atu) (tZ:as_) (aa:Sl) (af:Int) (H:Hp):OA:=(Hp.new H [(.sl aa),(.int .i64 af)]).bind λH3=>(Hp.ldSl H3 H.length 0).bind λs4=>(Hp.ldI H3 .i64 H.length (0+1)).bind λn5=>(tX s4 n5 H3).bind λr6=>((r6.1).asTup 2).bind λl7=>(l7[0]?).bind λv8=>((v8).asAgg 2).bind λl9=>(l9[0]?).bind λv10=>((v10).asI .i64).bind λn11=>(l9[1]?).bind λv12=>((v12).asSl).bind λs13=>(l7[1]?).bind λv14=>((v14).asI .i64).bind λn15=>(Hp.new r6.2 [.int .i64 0,.sl ⟨none,0,.ex 0⟩]).bind λH16=>(Hp.st H16 r6.2.length 0 (.int .i64 n11)).bind λH17=>(Hp.st H17 r6.2.length (0+1) (.sl s13)).bind λH18=>(bif (n15 != 0) then (some ((.tup [(.int .i64 0),(.int .i64 n15)]),H18)) else ((Hp.ldI H18 .i64 r6.2.length 0).bind λn19=>(Hp.ldSl H18 r6.2.length (0+1)).bind λs20=>(tY n19 s20 (-1) H18).bind λr21=>((r21.1).asTup 2).bind λl22=>(l22[0]?).bind λv23=>((v23).asI .i64).bind λn24=>(l22[1]?).bind λv25=>((v25).asB).bind λb26=>(tZ n24 r21.2).bind λr27=>((r27.1).asI .i64).bind λn28=>some ((.tup [(.int .i64 n28),(.int .i64 0)]),r27.2)))
def eC.tw:=eC.twX F (eB.tw F) (bk.tw F) (fM.tw F)
def eC.cs (F:Nat) (tX:as2) (tY:atu) (tZ:as_):Cs:=[(20,mk4 tX),(46,mk11 tY),(28,mk12 tZ)]
theorem eC.eqX (tX:as2) (tY:atu) (tZ:as_) (aa:Sl) (af:Int) (H:Hp):EX (aY (eC.cs F tX tY tZ)) aJ lh0 F Try.f18 [(.agg [(.sl aa),(.int .i64 af)])] H=eC.twX F tX tY tZ aa af H:=by kernel_rfl
theorem eC.k:Ok Try.prog 18 (mk4 (eC.tw F)):=by
 intro args H v H' h
 unfold mk4 at h
 split at h
 ·exact okT (TB:=aJ) Try.func18 (aM (eB.k F) (aM (bk.k F) (aM (fM.k F) bA))) ae.no ((eC.eqX F (eB.tw F) (bk.tw F) (fM.tw F) _ _ H).trans h) (by kernel_rfl)
 ·cases h
def cM.twX (F:Nat) (aa:Sl) (H:Hp):OA:=some ((.int .i64 (aa.n:Int)),H)
def cM.tw:=cM.twX F
theorem cM.k:Ok Try.prog 62 (mk3 (cM.tw F)):=by
 intro args H v H' h
 unfold mk3 at h
 split at h
 ·exact ok0 Try.func62 (Eq.trans (by kernel_rfl) h) (by kernel_rfl) (by kernel_rfl)
 ·cases h
def dw.twX (F:Nat) (aa:Int) (aA:Int) (cL:Int) (H:Hp):OA:=(bif (decide (aA<=aa)) then (some ((.bool (decide (aa<=cL))),H)) else (some ((.bool false),H)))
def dw.tw:=dw.twX F
theorem dw.k:Ok Try.prog 63 (mk5 (dw.tw F)):=by
 intro args H v H' h
 unfold mk5 at h
 split at h
 ·exact ok0 Try.func63 (Eq.trans (by kernel_rfl) h) (by kernel_rfl) (by kernel_rfl)
 ·cases h
def fi.twX (F:Nat) (aa:Int) (af:Int) (bV:Int) (bW:Int) (bQ:Int) (H:Hp):OA:=(Hp.new H [(.int .i64 aa),(.int .i64 af),(.int .i64 bV),(.int .i64 bW),(.int .i64 bQ)]).bind λH6=>(Hp.ldI H6 .i64 H.length 4).bind λn7=>(bif (n7 != 1) then ((Hp.ldI H6 .i64 H.length 4).bind λn8=>some ((.bool (n8 != (-1))),H6)) else (some ((.bool false),H6)))
def fi.tw:=fi.twX F
theorem fi.k:Ok Try.prog 65 (mk2 (fi.tw F)):=by
 intro args H v H' h
 unfold mk2 at h
 split at h
 ·exact ok0 Try.func65 (Eq.trans (by kernel_rfl) h) (by kernel_rfl) (by kernel_rfl)
 ·cases h
def bY.l13 (F:Nat) (gc:ath) :Nat->Sl->Int->Int->Hp->OA
 | 0,_,_,_,_=>none
 | mE+1,iQ,de,cv,H6=>(bif (decide (cv<de)) then ((Sl.idx iQ cv 5).bind λp15=>(Hp.ldI H6 .i64 p15.1 p15.2).bind λn16=>(Hp.ldI H6 .i64 p15.1 (p15.2+1)).bind λn17=>(Hp.ldI H6 .i64 p15.1 (p15.2+2)).bind λn18=>(Hp.ldI H6 .i64 p15.1 (p15.2+3)).bind λn19=>(Hp.ldI H6 .i64 p15.1 (p15.2+4)).bind λn20=>(gc n16 n17 n18 n19 n20 H6).bind λr21=>((r21.1).asB).bind λb22=>(bif b22 then (some ((.int .i64 cv),r21.2)) else (bY.l13 F gc mE iQ de (wrap .i64 (cv+1)) r21.2))) else (some ((.int .i64 (-1)),H6)))
def bY.twX (gc:ath) (aa:Sl) (H:Hp):OA:=bY.l13 F gc F aa (aa.n:Int) 0 H
def bY.tw:=bY.twX F (fi.tw F)
def bY.lh13 (gc:ath) (ks:as7) (n:Nat) (tm:Tm) (H:Hp):OA:=match ks,tm 0,tm 1,tm 7,tm 8 with
 | [],(.sl iQ),(.fn 65 []),(.int .i64 de),(.int .i64 cv)=>bY.l13 F gc n iQ de cv H
 | _,_,_,_,_=>none
def bY.lh (gc:ath) (p:Nat) (ks:as7) (n:Nat) (tm:Tm) (H:Hp):OA:=bif p.beq 13 then bY.lh13 F gc ks n tm H else (none)
def mk13 (g:as4) (args:atg) (H:Hp):OA:=match args with
 | [(.sl aa),(.fn 65 [])]=>g aa H
 | _=>none
theorem mk13_E (g:as4) (aa:Sl) (H:Hp):mk13 g [(.sl aa),(.fn 65 [])] H=g aa H:=rfl
def bY.cs (F:Nat) (gc:ath):Cs:=[(65,mk2 gc)]
theorem bY.loops (gc:ath):LO (aY (bY.cs F gc)) aJ (bY.lh F gc) F Try.f99:=
 (ae.rt (ae.lt (ae.rt (ae.block (ae.la (λn tm H r h=>by change bY.lh13 F gc [] n tm H=_ at h;unfold bY.lh13 at h;split at h;have e:bK tm [(0,_),(1,_),(7,_),(8,_)]:=⟨‹_›,‹_›,‹_›,‹_›,trivial⟩;obtain _ | k13:=n;cases h;exact ⟨_,rfl,by rw [<- bM e];exact Eq.trans (by kernel_rfl) h⟩;cases h) λk13=>ae.no)))))
theorem bY.eqX (gc:ath) (aa:Sl) (H:Hp):EX (aY (bY.cs F gc)) aJ (bY.lh F gc) F Try.f99 [(.sl aa),(.fn 65 [])] H=bY.twX F gc aa H:=by kernel_rfl
theorem bY.k:Ok Try.prog 99 (mk13 (bY.tw F)):=by
 intro args H v H' h
 unfold mk13 at h
 split at h
 ·exact okT (TB:=aJ) Try.func99 (aM (fi.k F) bA) (bY.loops F (fi.tw F)) ((bY.eqX F (fi.tw F) _ H).trans h) (by kernel_rfl)
 ·cases h
def eD.twX (F:Nat) (t_:as4) (aa:Sl) (H:Hp):OA:=(t_ aa H).bind λr2=>((r2.1).asI .i64).bind λn3=>some ((.bool (decide (n3>=0))),r2.2)
def eD.tw:=eD.twX F (bY.tw F)
def eD.cs (F:Nat) (t_:as4):Cs:=[(99,mk13 t_)]
theorem eD.eqX (t_:as4) (aa:Sl) (H:Hp):EX (aY (eD.cs F t_)) aJ lh0 F Try.f64 [(.sl aa),(.fn 65 [])] H=eD.twX F t_ aa H:=by kernel_rfl
theorem eD.k:Ok Try.prog 64 (mk13 (eD.tw F)):=by
 intro args H v H' h
 unfold mk13 at h
 split at h
 ·exact okT (TB:=aJ) Try.func64 (aM (bY.k F) bA) ae.no ((eD.eqX F (bY.tw F) _ H).trans h) (by kernel_rfl)
 ·cases h
def bits_Mul64.twX (F:Nat) (aa:Int) (aA:Int) (H:Hp):OA:=some ((.tup [(.int .u64 (IntKind.u64.wrap ((IntKind.u64.wrap ((IntKind.u64.wrap ((Int.fdiv aa (2 ^ (min (32:Int).toNat (IntKind.u64).bits))) * (Int.fdiv aA (2 ^ (min (32:Int).toNat (IntKind.u64).bits)))))+(Int.fdiv (IntKind.u64.wrap ((IntKind.u64.wrap ((Int.fdiv aa (2 ^ (min (32:Int).toNat (IntKind.u64).bits))) * (Go.bits .and .u64 aA 4294967295)))+(Int.fdiv (IntKind.u64.wrap ((Go.bits .and .u64 aa 4294967295) * (Go.bits .and .u64 aA 4294967295))) (2 ^ (min (32:Int).toNat (IntKind.u64).bits))))) (2 ^ (min (32:Int).toNat (IntKind.u64).bits)))))+(Int.fdiv (IntKind.u64.wrap ((Go.bits .and .u64 (IntKind.u64.wrap ((IntKind.u64.wrap ((Int.fdiv aa (2 ^ (min (32:Int).toNat (IntKind.u64).bits))) * (Go.bits .and .u64 aA 4294967295)))+(Int.fdiv (IntKind.u64.wrap ((Go.bits .and .u64 aa 4294967295) * (Go.bits .and .u64 aA 4294967295))) (2 ^ (min (32:Int).toNat (IntKind.u64).bits))))) 4294967295)+(IntKind.u64.wrap ((Go.bits .and .u64 aa 4294967295) * (Int.fdiv aA (2 ^ (min (32:Int).toNat (IntKind.u64).bits))))))) (2 ^ (min (32:Int).toNat (IntKind.u64).bits)))))),(.int .u64 (IntKind.u64.wrap (aa * aA)))]),H)
def bits_Mul64.tw:=bits_Mul64.twX F
def mk14 (g:atd) (args:atg) (H:Hp):OA:=match args with
 | [(.int .u64 aa),(.int .u64 aA)]=>g aa aA H
 | _=>none
theorem mk14_E (g:atd) (aa:Int) (aA:Int) (H:Hp):mk14 g [(.int .u64 aa),(.int .u64 aA)] H=g aa aA H:=rfl
theorem bits_Mul64.k:Ok Try.prog 139 (mk14 (bits_Mul64.tw F)):=by
 intro args H v H' h
 unfold mk14 at h
 split at h
 ·exact ok0 Try.func139 (Eq.trans (by kernel_rfl) h) (by kernel_rfl) (by kernel_rfl)
 ·cases h
def bits_Mul.twX (F:Nat) (g_bits_Mul64:atd) (aa:Int) (aA:Int) (H:Hp):OA:=(g_bits_Mul64 aa aA H).bind λr3=>((r3.1).asTup 2).bind λl4=>(l4[0]?).bind λv5=>((v5).asI .u64).bind λn6=>(l4[1]?).bind λv7=>((v7).asI .u64).bind λn8=>some ((.tup [(.int .u64 n6),(.int .u64 n8)]),r3.2)
def bits_Mul.tw:=bits_Mul.twX F (bits_Mul64.tw F)
def bits_Mul.cs (F:Nat) (g_bits_Mul64:atd):Cs:=[(139,mk14 g_bits_Mul64)]
theorem bits_Mul.eqX (g_bits_Mul64:atd) (aa:Int) (aA:Int) (H:Hp):EX (aY (bits_Mul.cs F g_bits_Mul64)) aJ lh0 F Try.f112 [(.int .u64 aa),(.int .u64 aA)] H=bits_Mul.twX F g_bits_Mul64 aa aA H:=by kernel_rfl
theorem bits_Mul.k:Ok Try.prog 112 (mk14 (bits_Mul.tw F)):=by
 intro args H v H' h
 unfold mk14 at h
 split at h
 ·exact okT (TB:=aJ) Try.func112 (aM (bits_Mul64.k F) bA) ae.no ((bits_Mul.eqX F (bits_Mul64.tw F) _ _ H).trans h) (by kernel_rfl)
 ·cases h
def bv.l254 (F:Nat) (g_bits_Mul:atd) :Nat->Sl->Int->Hp->OA
 | 0,_,_,_=>none
 | ahO+1,nY,ua,H33=>(bif (decide (ua<(nY.n:Int))) then ((Sl.cut nY 2 ua (nY.n:Int)).bind λs37=>(Sl.cut nY 2 0 ua).bind λs38=>(Hp.cpy H33 2 s37 s38).bind λc39=>bv.l254 F g_bits_Mul ahO nY (wrap .i64 (ua+(c39.1:Int))) c39.2) else (some ((.sl nY),H33)))
def bv.j1 (g_bits_Mul:atd) (ahP:Sl) (pK:Int) (H21:Hp):OA:=(Hp.mk H21 [.int .i64 0,.int .i64 0] 16 (wrap .i64 pK) (wrap .i64 pK)).bind λm22=>(Hp.cpy m22.2 2 m22.1 ahP).bind λc23=>bv.l254 F g_bits_Mul F m22.1 (c23.1:Int) c23.2
def bv.j2 (g_bits_Mul:atd) (U_:Sl) (ub:Int) (H7:Hp):OA:=(g_bits_Mul (IntKind.u64.wrap (U_.n:Int)) (IntKind.u64.wrap ub) H7).bind λr8=>((r8.1).asTup 2).bind λl9=>(l9[0]?).bind λv10=>((v10).asI .u64).bind λn11=>(l9[1]?).bind λv12=>((v12).asI .u64).bind λn13=>(bif (decide (n11>0)) then (none) else ((bif (decide (n13>9223372036854775807)) then (none) else (bv.j1 F g_bits_Mul U_ n13 r8.2))))
def bv.twX (g_bits_Mul:atd) (aa:Sl) (aA:Int) (H:Hp):OA:=(bif (decide (aA<0)) then (none) else (bv.j2 F g_bits_Mul aa aA H))
def bv.tw:=bv.twX F (bits_Mul.tw F)
def bv.lh254 (g_bits_Mul:atd) (ks:as7) (n:Nat) (tm:Tm) (H:Hp):OA:=match ks,tm 7,tm 8 with
 | [],(.sl nY),(.int .i64 ua)=>bv.l254 F g_bits_Mul n nY ua H
 | _,_,_=>none
def bv.lh (g_bits_Mul:atd) (p:Nat) (ks:as7) (n:Nat) (tm:Tm) (H:Hp):OA:=bif p.beq 254 then bv.lh254 F g_bits_Mul ks n tm H else (none)
def bv.pn:Nat->List Nat:=cQ [(9,[7])]
def bv.tb:Nat->List (List Nat):=cQ [(9,[[],[],[],[1,2],[],[],[4,5],[1,2,3,4,5,6],[0,1,2,3,4,5,6,7],[0,1,2,3,4,5,6,7,8]])]
def bv.cs (F:Nat) (g_bits_Mul:atd):Cs:=[(112,mk14 g_bits_Mul)]
theorem bv.loops (g_bits_Mul:atd):LO (aY (bv.cs F g_bits_Mul)) bv.pn (bv.lh F g_bits_Mul) F Try.f100:=
 (ae.rt (ae.rt (ae.rt (ae.rt (ae.rt (ae.rt (ae.lt (ae.block (ae.la (λn tm H r h=>by change bv.lh254 F g_bits_Mul [] n tm H=_ at h;unfold bv.lh254 at h;split at h;have e:bK tm [(7,_),(8,_)]:=⟨‹_›,‹_›,trivial⟩;obtain _ | k254:=n;cases h;exact ⟨_,rfl,by rw [<- bM e];exact Eq.trans (by kernel_rfl) h⟩;cases h) λk254=>ae.no)))))))))
theorem bv.eqX (g_bits_Mul:atd) (aa:Sl) (aA:Int) (H:Hp):EX (aY (bv.cs F g_bits_Mul)) bv.pn (bv.lh F g_bits_Mul) F Try.f100 [(.sl aa),(.int .i64 aA)] H=bv.twX F g_bits_Mul aa aA H:=by kernel_rfl
theorem bv.k:Ok Try.prog 100 (mk0 (bv.tw F)):=by
 intro args H v H' h
 unfold mk0 at h
 split at h
 ·exact okT (TB:=bv.tb) Try.func100 (aM (bits_Mul.k F) bA) (bv.loops F (bits_Mul.tw F)) ((bv.eqX F (bits_Mul.tw F) _ _ H).trans h) (by kernel_rfl)
 ·cases h
def dS.twX (F:Nat) (aa:Int) (af:Int) (bV:Int) (bW:Int) (bQ:Int) (H:Hp):OA:=(Hp.new H [(.int .i64 aa),(.int .i64 af),(.int .i64 bV),(.int .i64 bW),(.int .i64 bQ)]).bind λH6=>(Hp.new H6 [.int .i64 0,.int .i64 0,.int .i64 0,.int .i64 0]).bind λH7=>(Hp.ldI H7 .i64 H.length 0).bind λn8=>(Hp.ldI H7 .i64 H.length 1).bind λn9=>(Hp.ldI H7 .i64 H.length 2).bind λn10=>(Hp.ldI H7 .i64 H.length 3).bind λn11=>(Hp.st H7 H6.length 0 (.int .i64 n8)).bind λH12=>(Hp.st H12 H6.length (0+1) (.int .i64 n9)).bind λH13=>(Hp.st H13 H6.length (0+1+1) (.int .i64 n10)).bind λH14=>(Hp.st H14 H6.length (0+1+1+1) (.int .i64 n11)).bind λH15=>(Hp.ldI H15 .i64 H6.length 0).bind λn16=>(Hp.ldI H15 .i64 H6.length (0+1)).bind λn17=>(Hp.ldI H15 .i64 H6.length (0+2)).bind λn18=>(Hp.ldI H15 .i64 H6.length (0+3)).bind λn19=>some ((.agg [(.int .i64 n16),(.int .i64 n17),(.int .i64 n18),(.int .i64 n19)]),H15)
def dS.tw:=dS.twX F
theorem dS.k:Ok Try.prog 101 (mk2 (dS.tw F)):=by
 intro args H v H' h
 unfold mk2 at h
 split at h
 ·exact ok0 Try.func101 (Eq.trans (by kernel_rfl) h) (by kernel_rfl) (by kernel_rfl)
 ·cases h
def dU.twX (F:Nat) (aa:Int) (af:Int) (bV:Int) (bW:Int) (bQ:Int) (cD:Int) (H:Hp):OA:=(Hp.new H [(.int .i64 aa),(.int .i64 af),(.int .i64 bV),(.int .i64 bW),(.int .i64 bQ)]).bind λH7=>(bif (cD==0) then (some ((.bool true),H7)) else ((Hp.ldI H7 .i64 H.length 4).bind λn8=>some ((.bool (cD==(wrap .i64 (2+n8)))),H7)))
def dU.tw:=dU.twX F
theorem dU.k:Ok Try.prog 102 (mk6 (dU.tw F)):=by
 intro args H v H' h
 unfold mk6 at h
 split at h
 ·exact ok0 Try.func102 (Eq.trans (by kernel_rfl) h) (by kernel_rfl) (by kernel_rfl)
 ·cases h
def fN.twX (F:Nat) (aa:Sl) (H:Hp):OA:=some ((.int .i64 (aa.n:Int)),H)
def fN.tw:=fN.twX F
theorem fN.k:Ok Try.prog 131 (mk3 (fN.tw F)):=by
 intro args H v H' h
 unfold mk3 at h
 split at h
 ·exact ok0 Try.func131 (Eq.trans (by kernel_rfl) h) (by kernel_rfl) (by kernel_rfl)
 ·cases h
def dI.twX (F:Nat) (uc:as4) (ft:atc) (aa:Sl) (aA:Int) (H:Hp):OA:=(uc aa H).bind λr3=>((r3.1).asI .i64).bind λn4=>(ft aA 0 (wrap .i64 (n4 - 1)) r3.2).bind λr5=>((r5.1).asB).bind λb6=>some ((.bool b6),r5.2)
def dI.tw:=dI.twX F (fN.tw F) (dw.tw F)
def dI.cs (F:Nat) (uc:as4) (ft:atc):Cs:=[(131,mk3 uc),(63,mk5 ft)]
theorem dI.eqX (uc:as4) (ft:atc) (aa:Sl) (aA:Int) (H:Hp):EX (aY (dI.cs F uc ft)) aJ lh0 F Try.f103 [(.sl aa),(.int .i64 aA)] H=dI.twX F uc ft aa aA H:=by kernel_rfl
theorem dI.k:Ok Try.prog 103 (mk0 (dI.tw F)):=by
 intro args H v H' h
 unfold mk0 at h
 split at h
 ·exact okT (TB:=aJ) Try.func103 (aM (fN.k F) (aM (dw.k F) bA)) ae.no ((dI.eqX F (fN.tw F) (dw.tw F) _ _ H).trans h) (by kernel_rfl)
 ·cases h
def bf.l3931 (F:Nat) (dV:as2) (dh:ath) (di:ata) (dW:as2) (C61_:at3):Nat->Nat->Nat->Nat->Nat->Sl->Int->Int->Nat->Nat->Int->Int->Int->Int->Int->Int->Hp->OA
 | 0,_,_,_,_,_,_,_,_,_,_,_,_,_,_,_,_=>none
 | Va+1,eE,fj,fO,ib,xg,jm,jn,jo,mP,ic,fu,fv,fx,fy,dz,H233=>(bif (decide (dz<4)) then ((if 0<=dz/\dz<(4:Int) then (([(.int .i64 fu),(.int .i64 fv),(.int .i64 fx),(.int .i64 fy)]:List AV)[(dz:Int).toNat * 1]?).bind λv283=>((v283).asI .i64).bind λn284=>(Hp.ldSl H233 fO ib).bind λs285=>(Hp.ldI H233 .i64 jo mP).bind λn286=>(Hp.ldI H233 .i64 jo (mP+1)).bind λn287=>(Hp.ldI H233 .i64 jo (mP+2)).bind λn288=>(Hp.ldI H233 .i64 jo (mP+3)).bind λn289=>(Hp.ldI H233 .i64 jo (mP+4)).bind λn290=>(di n286 n287 n288 n289 n290 dz H233).bind λr291=>((r291.1).asB).bind λb292=>(bif b292 then ((Hp.ldSl r291.2 fO (ib+1)).bind λs293=>(dW s293 n284 r291.2).bind λr294=>((r294.1).asB).bind λb295=>(bif (!b295) then ((Hp.ldSl r294.2 fO ib).bind λs296=>(Hp.ldSl r294.2 fO (ib+1)).bind λs297=>(Hp.st r294.2 eE fj (.sl s296)).bind λH298=>(Hp.st H298 eE (fj+1) (.sl s297)).bind λH299=>(Hp.ldSl H299 eE fj).bind λs300=>(Hp.ldSl H299 eE (fj+1)).bind λs301=>some ((.tup [(.agg [(.sl s300),(.sl s301)]),(.bool false)]),H299)) else ((Sl.idx s293 n284 2).bind λp302=>(Hp.ldI r294.2 .i64 p302.1 p302.2).bind λn303=>(bif (decide (n303>=0)) then ((Hp.ldSl r294.2 fO ib).bind λs304=>(Hp.ldSl r294.2 fO (ib+1)).bind λs305=>(Hp.st r294.2 eE fj (.sl s304)).bind λH306=>(Hp.st H306 eE (fj+1) (.sl s305)).bind λH307=>(Hp.ldSl H307 eE fj).bind λs308=>(Hp.ldSl H307 eE (fj+1)).bind λs309=>some ((.tup [(.agg [(.sl s308),(.sl s309)]),(.bool false)]),H307)) else ((Sl.idx s293 n284 2).bind λp310=>(Hp.st r294.2 p310.1 p310.2 (.int .i64 ic)).bind λH311=>(Hp.st H311 p310.1 (p310.2+1) (.int .i64 dz)).bind λH312=>bf.l3931 F dV dh di dW C61_ Va eE fj fO ib xg jm jn jo mP ic fu fv fx fy (wrap .i64 (dz+1)) H312))))) else ((dW s285 n284 r291.2).bind λr313=>((r313.1).asB).bind λb314=>(bif (!b314) then ((Hp.ldSl r313.2 fO ib).bind λs315=>(Hp.ldSl r313.2 fO (ib+1)).bind λs316=>(Hp.st r313.2 eE fj (.sl s315)).bind λH317=>(Hp.st H317 eE (fj+1) (.sl s316)).bind λH318=>(Hp.ldSl H318 eE fj).bind λs319=>(Hp.ldSl H318 eE (fj+1)).bind λs320=>some ((.tup [(.agg [(.sl s319),(.sl s320)]),(.bool false)]),H318)) else ((Sl.idx s285 n284 2).bind λp321=>(Hp.ldI r313.2 .i64 p321.1 p321.2).bind λn322=>(bif (decide (n322>=0)) then ((Hp.ldSl r313.2 fO ib).bind λs323=>(Hp.ldSl r313.2 fO (ib+1)).bind λs324=>(Hp.st r313.2 eE fj (.sl s323)).bind λH325=>(Hp.st H325 eE (fj+1) (.sl s324)).bind λH326=>(Hp.ldSl H326 eE fj).bind λs327=>(Hp.ldSl H326 eE (fj+1)).bind λs328=>some ((.tup [(.agg [(.sl s327),(.sl s328)]),(.bool false)]),H326)) else ((Sl.idx s285 n284 2).bind λp329=>(Hp.st r313.2 p329.1 p329.2 (.int .i64 ic)).bind λH330=>(Hp.st H330 p329.1 (p329.2+1) (.int .i64 dz)).bind λH331=>bf.l3931 F dV dh di dW C61_ Va eE fj fO ib xg jm jn jo mP ic fu fv fx fy (wrap .i64 (dz+1)) H331)))))) else none)) else (C61_ eE fj fO ib xg jm (wrap .i64 (jn+1)) H233))
termination_by structural n=>n
def bf.l61 (F:Nat) (dV:as2) (dh:ath) (di:ata) (dW:as2) :Nat->Nat->Nat->Nat->Nat->Sl->Int->Int->Hp->OA
 | 0,_,_,_,_,_,_,_,_=>none
 | bE+1,eV,ig,mQ,fh,BH,kx,ii,H29=>(bif (decide (ii<kx)) then ((Sl.idx BH ii 5).bind λp184=>(Hp.ldI H29 .i64 p184.1 p184.2).bind λn185=>(Hp.ldI H29 .i64 p184.1 (p184.2+1)).bind λn186=>(Hp.ldI H29 .i64 p184.1 (p184.2+2)).bind λn187=>(Hp.ldI H29 .i64 p184.1 (p184.2+3)).bind λn188=>(Hp.ldI H29 .i64 p184.1 (p184.2+4)).bind λn189=>(Hp.new H29 [.int .i64 0,.int .i64 0,.int .i64 0,.int .i64 0,.int .i64 0]).bind λH190=>(Hp.st H190 H29.length 0 (.int .i64 n185)).bind λH191=>(Hp.st H191 H29.length (0+1) (.int .i64 n186)).bind λH192=>(Hp.st H192 H29.length (0+1+1) (.int .i64 n187)).bind λH193=>(Hp.st H193 H29.length (0+1+1+1) (.int .i64 n188)).bind λH194=>(Hp.st H194 H29.length (0+1+1+1+1) (.int .i64 n189)).bind λH195=>(Hp.ldI H195 .i64 H29.length 0).bind λn196=>(Hp.ldI H195 .i64 H29.length (0+1)).bind λn197=>(Hp.ldI H195 .i64 H29.length (0+2)).bind λn198=>(Hp.ldI H195 .i64 H29.length (0+3)).bind λn199=>(Hp.ldI H195 .i64 H29.length (0+4)).bind λn200=>(dh n196 n197 n198 n199 n200 H195).bind λr201=>((r201.1).asAgg 4).bind λl202=>(l202[0]?).bind λv203=>((v203).asI .i64).bind λn204=>(l202[1]?).bind λv205=>((v205).asI .i64).bind λn206=>(l202[2]?).bind λv207=>((v207).asI .i64).bind λn208=>(l202[3]?).bind λv209=>((v209).asI .i64).bind λn210=>bf.l3931 F dV dh di dW (bf.l61 F dV dh di dW bE) F eV ig mQ fh BH kx ii H29.length 0 ii n204 n206 n208 n210 0 r201.2) else ((Hp.ldSl H29 mQ fh).bind λs332=>(Hp.ldSl H29 mQ (fh+1)).bind λs333=>(Hp.st H29 eV ig (.sl s332)).bind λH334=>(Hp.st H334 eV (ig+1) (.sl s333)).bind λH335=>(Hp.ldSl H335 eV ig).bind λs336=>(Hp.ldSl H335 eV (ig+1)).bind λs337=>some ((.tup [(.agg [(.sl s336),(.sl s337)]),(.bool true)]),H335)))
termination_by structural n=>n
def bf.twX (dV:as2) (dh:ath) (di:ata) (dW:as2) (aa:Sl) (af:Int) (H:Hp):OA:=(Hp.new H [(.sl aa),(.int .i64 af)]).bind λH3=>(Hp.new H3 [.sl ⟨none,0,.ex 0⟩,.sl ⟨none,0,.ex 0⟩]).bind λH4=>(Hp.ldSl H4 H.length 0).bind λs5=>(Hp.new H4 [(.int .i64 (-1)),(.int .i64 0)]).bind λH6=>(dV (⟨some (H4.length,0),1,.ex 1⟩:Sl) (wrap .i64 (2 * (s5.n:Int))) H6).bind λr7=>((r7.1).asSl).bind λs8=>(Hp.new r7.2 [(.int .i64 (-1)),(.int .i64 0)]).bind λH9=>(dV (⟨some (r7.2.length,0),1,.ex 1⟩:Sl) (wrap .i64 (2 * (s5.n:Int))) H9).bind λr10=>((r10.1).asSl).bind λs11=>(Hp.new r10.2 [.sl ⟨none,0,.ex 0⟩,.sl ⟨none,0,.ex 0⟩]).bind λH12=>(Hp.st H12 r10.2.length 0 (.sl s8)).bind λH13=>(Hp.st H13 r10.2.length (0+1) (.sl s11)).bind λH14=>(Hp.ldSl H14 H.length 0).bind λs15=>bf.l61 F dV dh di dW F H3.length 0 r10.2.length 0 s15 (s15.n:Int) 0 H14
def bf.tw:=bf.twX F (bv.tw F) (dS.tw F) (dU.tw F) (dI.tw F)
def bf.lh61 (dV:as2) (dh:ath) (di:ata) (dW:as2) (ks:as7) (n:Nat) (tm:Tm) (H:Hp):OA:=match ks,tm 2,tm 5,tm 25,tm 26,tm 27 with
 | [],(.ptr eV ig),(.ptr mQ fh),(.sl BH),(.int .i64 kx),(.int .i64 ii)=>bf.l61 F dV dh di dW n eV ig mQ fh BH kx ii H
 | _,_,_,_,_,_=>none
def bf.lh3931 (dV:as2) (dh:ath) (di:ata) (dW:as2) (ks:as7) (n:Nat) (tm:Tm) (H:Hp):OA:=match ks,tm 2,tm 5,tm 6,tm 7,tm 25,tm 26,tm 27,tm 33,tm 34 with
 | [bE],(.ptr eE fj),(.ptr fO ib),(.int .i64 ic),(.ptr jo mP),(.sl xg),(.int .i64 jm),(.int .i64 jn),(.agg [(.int .i64 fu),(.int .i64 fv),(.int .i64 fx),(.int .i64 fy)]),(.int .i64 dz)=>bf.l3931 F dV dh di dW (bf.l61 F dV dh di dW bE) n eE fj fO ib xg jm jn jo mP ic fu fv fx fy dz H
 | _,_,_,_,_,_,_,_,_,_=>none
def bf.lh (dV:as2) (dh:ath) (di:ata) (dW:as2) (p:Nat) (ks:as7) (n:Nat) (tm:Tm) (H:Hp):OA:=bif p.beq 3931 then bf.lh3931 F dV dh di dW ks n tm H else (bif p.beq 61 then bf.lh61 F dV dh di dW ks n tm H else (none))
def bf.cs (F:Nat) (dV:as2) (dh:ath) (di:ata) (dW:as2):Cs:=[(100,mk0 dV),(101,mk2 dh),(102,mk6 di),(103,mk0 dW)]
theorem bf.loops (dV:as2) (dh:ath) (di:ata) (dW:as2):LO (aY (bf.cs F dV dh di dW)) aJ (bf.lh F dV dh di dW) F Try.f66:=
 (ae.rt (ae.rt (ae.rt (ae.lt (ae.rt (ae.block (ae.la (λn tm H r h=>by change bf.lh61 F dV dh di dW [] n tm H=_ at h;unfold bf.lh61 at h;split at h;have e:bK tm [(2,_),(5,_),(25,_),(26,_),(27,_)]:=⟨‹_›,‹_›,‹_›,‹_›,‹_›,trivial⟩;obtain _ | k61:=n;cases h;exact ⟨_,rfl,by rw [<- bM e];exact Eq.trans (by kernel_rfl) h⟩;cases h) λk61=>(ae.rt (ae.rt (ae.lt (ae.block (ae.rt (ae.rt (ae.block (ae.la (λn tm H r h=>by change bf.lh3931 F dV dh di dW [k61] n tm H=_ at h;unfold bf.lh3931 at h;split at h;have e:bK tm [(2,_),(5,_),(6,_),(7,_),(25,_),(26,_),(27,_),(33,_),(34,_)]:=⟨‹_›,‹_›,‹_›,‹_›,‹_›,‹_›,‹_›,‹_›,‹_›,trivial⟩;cases (show [k61]=_ from ‹_›);obtain _ | k3931:=n;cases h;exact ⟨_,rfl,by rw [<- bM e];exact Eq.trans (by kernel_rfl) h⟩;cases h) λk3931=>ae.no)))))))))))))))
theorem bf.eqX (dV:as2) (dh:ath) (di:ata) (dW:as2) (aa:Sl) (af:Int) (H:Hp):EX (aY (bf.cs F dV dh di dW)) aJ (bf.lh F dV dh di dW) F Try.f66 [(.agg [(.sl aa),(.int .i64 af)])] H=bf.twX F dV dh di dW aa af H:=by kernel_rfl
theorem bf.k:Ok Try.prog 66 (mk4 (bf.tw F)):=by
 intro args H v H' h
 unfold mk4 at h
 split at h
 ·exact okT (TB:=aJ) Try.func66 (aM (bv.k F) (aM (dS.k F) (aM (dU.k F) (aM (dI.k F) bA)))) (bf.loops F (bv.tw F) (dS.tw F) (dU.tw F) (dI.tw F)) ((bf.eqX F (bv.tw F) (dS.tw F) (dU.tw F) (dI.tw F) _ _ H).trans h) (by kernel_rfl)
 ·cases h
def dj.twX (F:Nat) (dh:ath) (di:ata) (aa:Sl) (af:Int) (au:Sl) (bu:Sl) (iS:Int) (fP:Int) (H:Hp):OA:=(Hp.new H [(.sl aa),(.int .i64 af)]).bind λH7=>(Hp.new H7 [(.sl au),(.sl bu)]).bind λH8=>(Hp.new H8 [(.int .i64 iS),(.int .i64 fP)]).bind λH9=>(Hp.new H9 [.int .i64 0,.int .i64 0]).bind λH10=>(Hp.ldSl H10 H.length 0).bind λs11=>(Hp.ldI H10 .i64 H8.length 0).bind λn12=>(Sl.idx s11 n12 5).bind λp13=>(Hp.ldI H10 .i64 p13.1 p13.2).bind λn14=>(Hp.ldI H10 .i64 p13.1 (p13.2+1)).bind λn15=>(Hp.ldI H10 .i64 p13.1 (p13.2+2)).bind λn16=>(Hp.ldI H10 .i64 p13.1 (p13.2+3)).bind λn17=>(Hp.ldI H10 .i64 p13.1 (p13.2+4)).bind λn18=>(Hp.new H10 [.int .i64 0,.int .i64 0,.int .i64 0,.int .i64 0,.int .i64 0]).bind λH19=>(Hp.st H19 H10.length 0 (.int .i64 n14)).bind λH20=>(Hp.st H20 H10.length (0+1) (.int .i64 n15)).bind λH21=>(Hp.st H21 H10.length (0+1+1) (.int .i64 n16)).bind λH22=>(Hp.st H22 H10.length (0+1+1+1) (.int .i64 n17)).bind λH23=>(Hp.st H23 H10.length (0+1+1+1+1) (.int .i64 n18)).bind λH24=>(Hp.ldI H24 .i64 H10.length 0).bind λn25=>(Hp.ldI H24 .i64 H10.length (0+1)).bind λn26=>(Hp.ldI H24 .i64 H10.length (0+2)).bind λn27=>(Hp.ldI H24 .i64 H10.length (0+3)).bind λn28=>(Hp.ldI H24 .i64 H10.length (0+4)).bind λn29=>(dh n25 n26 n27 n28 n29 H24).bind λr30=>((r30.1).asAgg 4).bind λl31=>(l31[0]?).bind λv32=>((v32).asI .i64).bind λn33=>(l31[1]?).bind λv34=>((v34).asI .i64).bind λn35=>(l31[2]?).bind λv36=>((v36).asI .i64).bind λn37=>(l31[3]?).bind λv38=>((v38).asI .i64).bind λn39=>(if aZ H24 r30.2 then ((Hp.ldI r30.2 .i64 H8.length 1).bind λn40=>(if 0<=n40/\n40<(4:Int) then (([(.int .i64 n33),(.int .i64 n35),(.int .i64 n37),(.int .i64 n39)]:List AV)[(n40:Int).toNat * 1]?).bind λv41=>((v41).asI .i64).bind λn42=>(Hp.ldI r30.2 .i64 H10.length 0).bind λn43=>(Hp.ldI r30.2 .i64 H10.length (0+1)).bind λn44=>(Hp.ldI r30.2 .i64 H10.length (0+2)).bind λn45=>(Hp.ldI r30.2 .i64 H10.length (0+3)).bind λn46=>(Hp.ldI r30.2 .i64 H10.length (0+4)).bind λn47=>(Hp.ldI r30.2 .i64 H8.length 1).bind λn48=>(di n43 n44 n45 n46 n47 n48 r30.2).bind λr49=>((r49.1).asB).bind λb50=>(bif b50 then ((Hp.ldSl r49.2 H7.length 0).bind λs51=>(Sl.idx s51 n42 2).bind λp52=>(Hp.ldI r49.2 .i64 p52.1 p52.2).bind λn53=>(Hp.ldI r49.2 .i64 p52.1 (p52.2+1)).bind λn54=>(Hp.st r49.2 H9.length 0 (.int .i64 n53)).bind λH55=>(Hp.st H55 H9.length (0+1) (.int .i64 n54)).bind λH56=>(Hp.ldI H56 .i64 H9.length 0).bind λn57=>(Hp.ldI H56 .i64 H9.length (0+1)).bind λn58=>some ((.agg [(.int .i64 n57),(.int .i64 n58)]),H56)) else ((Hp.ldSl r49.2 H7.length 1).bind λs59=>(Sl.idx s59 n42 2).bind λp60=>(Hp.ldI r49.2 .i64 p60.1 p60.2).bind λn61=>(Hp.ldI r49.2 .i64 p60.1 (p60.2+1)).bind λn62=>(Hp.st r49.2 H9.length 0 (.int .i64 n61)).bind λH63=>(Hp.st H63 H9.length (0+1) (.int .i64 n62)).bind λH64=>(Hp.ldI H64 .i64 H9.length 0).bind λn65=>(Hp.ldI H64 .i64 H9.length (0+1)).bind λn66=>some ((.agg [(.int .i64 n65),(.int .i64 n66)]),H64))) else none)) else none)
def dj.tw:=dj.twX F (dS.tw F) (dU.tw F)
def dj.tb:Nat->List (List Nat):=cQ [(2,[[],[0],[],[2],[0,1,2,3],[0,1,2,3,4]])]
def mk15 (g:atr) (args:atg) (H:Hp):OA:=match args with
 | [(.agg [(.sl aa),(.int .i64 af)]),(.agg [(.sl au),(.sl bu)]),(.agg [(.int .i64 iS),(.int .i64 fP)])]=>g aa af au bu iS fP H
 | _=>none
theorem mk15_E (g:atr) (aa:Sl) (af:Int) (au:Sl) (bu:Sl) (iS:Int) (fP:Int) (H:Hp):mk15 g [(.agg [(.sl aa),(.int .i64 af)]),(.agg [(.sl au),(.sl bu)]),(.agg [(.int .i64 iS),(.int .i64 fP)])] H=g aa af au bu iS fP H:=rfl
def dj.cs (F:Nat) (dh:ath) (di:ata):Cs:=[(101,mk2 dh),(102,mk6 di)]
theorem dj.eqX (dh:ath) (di:ata) (aa:Sl) (af:Int) (au:Sl) (bu:Sl) (iS:Int) (fP:Int) (H:Hp):EX (aY (dj.cs F dh di)) aJ lh0 F Try.f104 [(.agg [(.sl aa),(.int .i64 af)]),(.agg [(.sl au),(.sl bu)]),(.agg [(.int .i64 iS),(.int .i64 fP)])] H=dj.twX F dh di aa af au bu iS fP H:=by kernel_rfl
theorem dj.k:Ok Try.prog 104 (mk15 (dj.tw F)):=by
 intro args H v H' h
 unfold mk15 at h
 split at h
 ·exact okT (TB:=dj.tb) Try.func104 (aM (dS.k F) (aM (dU.k F) bA)) ae.no ((dj.eqX F (dS.tw F) (dU.tw F) _ _ _ _ _ _ H).trans h) (by kernel_rfl)
 ·cases h
def aL.j4 (F:Nat) (dp:atr) (C61_:aty) (BI:Nat) (ahQ:Nat) (BJ:Nat) (ahR:Nat) (ahS:Sl) (ahT:Sl) (ud:Int) (ue:Int) (H248:Hp):OA:=C61_ BI ahQ BJ ahR ahS ahT ud (wrap .i64 (ue+1)) H248
def aL.j5 (dp:atr) (C61_:aty) (BK:Nat) (ahU:Nat) (sk:Nat) (ahV:Nat) (nC:Sl) (ahW:Sl) (ug:Int) (uh:Int) (H228:Hp):OA:=aL.j4 F dp C61_ BK ahU sk ahV nC ahW ug uh H228
def aL.j6 (dp:atr) (C61_:aty) (xh:Nat) (Vb:Nat) (xi:Nat) (Vc:Nat) (Vd:Sl) (Ve:Sl) (Vf:Sl) (nZ:Int) (n_:Int) (H205:Hp):OA:=(bif (decide ((Vf.n:Int)>0)) then ((Hp.new H205 [(.sl Vf)]).bind λH206=>(Sl.row H206 (⟨some (H205.length,0),1,.ex 1⟩:Sl) 1).bind λxs208=>(Hp.app H206 1 24 Vd (⟨some (H205.length,0),1,.ex 1⟩:Sl).n xs208).bind λa207=>aL.j5 F dp C61_ xh Vb xi Vc a207.1 Ve nZ n_ a207.2) else (aL.j5 F dp C61_ xh Vb xi Vc Vd Ve nZ n_ H205))
def aL.l15725 (F:Nat) (dp:atr) (C61_:aty):Nat->Nat->Nat->Nat->Nat->Sl->Sl->Int->Int->Sl->Int->Hp->OA
 | 0,_,_,_,_,_,_,_,_,_,_,_=>none
 | HB+1,lU,ui,lV,uj,BL,uk,ky,kz,BM,fQ,H164=>(Sl.idx uk fQ 1).bind λp249=>(Hp.ldB H164 p249.1 p249.2).bind λb250=>(bif (!b250) then ((Sl.idx uk fQ 1).bind λp251=>(Hp.st H164 p251.1 p251.2 (.bool true)).bind λH252=>(Hp.new H252 [(.int .i64 fQ)]).bind λH253=>(Sl.row H253 (⟨some (H252.length,0),1,.ex 1⟩:Sl) 1).bind λxs255=>(Hp.app H253 1 8 BM (⟨some (H252.length,0),1,.ex 1⟩:Sl).n xs255).bind λa254=>(Hp.ldSl a254.2 lU ui).bind λs256=>(Hp.ldI a254.2 .i64 lU (ui+1)).bind λn257=>(Hp.ldSl a254.2 lV uj).bind λs258=>(Hp.ldSl a254.2 lV (uj+1)).bind λs259=>(dp s256 n257 s258 s259 (wrap .i64 (Int.tdiv fQ 4)) (Int.tmod (wrap .i64 (fQ+1)) 4) a254.2).bind λr260=>((r260.1).asAgg 2).bind λl261=>(l261[0]?).bind λv262=>((v262).asI .i64).bind λn263=>(l261[1]?).bind λv264=>((v264).asI .i64).bind λn265=>(Hp.new r260.2 [.int .i64 0,.int .i64 0]).bind λH266=>(Hp.st H266 r260.2.length 0 (.int .i64 n263)).bind λH267=>(Hp.st H267 r260.2.length (0+1) (.int .i64 n265)).bind λH268=>(Hp.ldI H268 .i64 r260.2.length 0).bind λn269=>(Hp.ldI H268 .i64 r260.2.length 1).bind λn270=>aL.l15725 F dp C61_ HB lU ui lV uj BL uk ky kz a254.1 (wrap .i64 ((wrap .i64 (4 * n269))+n270)) H268) else (aL.j6 F dp C61_ lU ui lV uj BL uk BM ky kz H164))
termination_by structural n=>n
def aL.l61 (F:Nat) (dp:atr) :Nat->Nat->Nat->Nat->Nat->Sl->Sl->Int->Int->Hp->OA
 | 0,_,_,_,_,_,_,_,_,_=>none
 | bE+1,dR,gd,pL,fk,gQ,HC,gR,eF,H22=>(bif (decide (eF<gR)) then (aL.l15725 F dp (aL.l61 F dp bE) F dR gd pL fk gQ HC gR eF (⟨none,0,.ex 0⟩:Sl) eF H22) else (some ((.sl gQ),H22)))
termination_by structural n=>n
def aL.twX (dp:atr) (aa:Sl) (af:Int) (au:Sl) (bu:Sl) (H:Hp):OA:=(Hp.new H [(.sl aa),(.int .i64 af)]).bind λH5=>(Hp.new H5 [(.sl au),(.sl bu)]).bind λH6=>(Hp.ldSl H6 H.length 0).bind λs7=>(Hp.mk H6 [.bool false] 1 (wrap .i64 (4 * (s7.n:Int))) (wrap .i64 (4 * (s7.n:Int)))).bind λm8=>aL.l61 F dp F H.length 0 H5.length 0 (⟨none,0,.ex 0⟩:Sl) m8.1 (m8.1.n:Int) 0 m8.2
def aL.tw:=aL.twX F (dj.tw F)
def aL.lh61 (dp:atr) (ks:as7) (n:Nat) (tm:Tm) (H:Hp):OA:=match ks,tm 2,tm 3,tm 5,tm 6,tm 17,tm 18 with
 | [],(.ptr dR gd),(.ptr pL fk),(.sl gQ),(.sl HC),(.int .i64 gR),(.int .i64 eF)=>aL.l61 F dp n dR gd pL fk gQ HC gR eF H
 | _,_,_,_,_,_,_=>none
def aL.lh15725 (dp:atr) (ks:as7) (n:Nat) (tm:Tm) (H:Hp):OA:=match ks,tm 2,tm 3,tm 5,tm 6,tm 8,tm 9,tm 17,tm 18 with
 | [bE],(.ptr lU ui),(.ptr lV uj),(.sl BL),(.sl uk),(.sl BM),(.int .i64 fQ),(.int .i64 ky),(.int .i64 kz)=>aL.l15725 F dp (aL.l61 F dp bE) n lU ui lV uj BL uk ky kz BM fQ H
 | _,_,_,_,_,_,_,_,_=>none
def aL.lh (dp:atr) (p:Nat) (ks:as7) (n:Nat) (tm:Tm) (H:Hp):OA:=bif p.beq 15725 then aL.lh15725 F dp ks n tm H else (bif p.beq 61 then aL.lh61 F dp ks n tm H else (none))
def mk16 (g:atC) (args:atg) (H:Hp):OA:=match args with
 | [(.agg [(.sl aa),(.int .i64 af)]),(.agg [(.sl au),(.sl bu)])]=>g aa af au bu H
 | _=>none
theorem mk16_E (g:atC) (aa:Sl) (af:Int) (au:Sl) (bu:Sl) (H:Hp):mk16 g [(.agg [(.sl aa),(.int .i64 af)]),(.agg [(.sl au),(.sl bu)])] H=g aa af au bu H:=rfl
def aL.cs (F:Nat) (dp:atr):Cs:=[(104,mk15 dp)]
theorem aL.loops (dp:atr):LO (aY (aL.cs F dp)) aJ (aL.lh F dp) F Try.f68:=
 (ae.rt (ae.rt (ae.rt (ae.lt (ae.rt (ae.block (ae.la (λn tm H r h=>by change aL.lh61 F dp [] n tm H=_ at h;unfold aL.lh61 at h;split at h;have e:bK tm [(2,_),(3,_),(5,_),(6,_),(17,_),(18,_)]:=⟨‹_›,‹_›,‹_›,‹_›,‹_›,‹_›,trivial⟩;obtain _ | k61:=n;cases h;exact ⟨_,rfl,by rw [<- bM e];exact Eq.trans (by kernel_rfl) h⟩;cases h) λk61=>(ae.rt (ae.rt (ae.lt (ae.block (ae.rt (ae.rt (ae.lt (ae.rt (ae.block (ae.la (λn tm H r h=>by change aL.lh15725 F dp [k61] n tm H=_ at h;unfold aL.lh15725 at h;split at h;have e:bK tm [(2,_),(3,_),(5,_),(6,_),(8,_),(9,_),(17,_),(18,_)]:=⟨‹_›,‹_›,‹_›,‹_›,‹_›,‹_›,‹_›,‹_›,trivial⟩;cases (show [k61]=_ from ‹_›);obtain _ | k15725:=n;cases h;exact ⟨_,rfl,by rw [<- bM e];exact Eq.trans (by kernel_rfl) h⟩;cases h) λk15725=>ae.no)))))))))))))))))
theorem aL.eqX (dp:atr) (aa:Sl) (af:Int) (au:Sl) (bu:Sl) (H:Hp):EX (aY (aL.cs F dp)) aJ (aL.lh F dp) F Try.f68 [(.agg [(.sl aa),(.int .i64 af)]),(.agg [(.sl au),(.sl bu)])] H=aL.twX F dp aa af au bu H:=by kernel_rfl
theorem aL.k:Ok Try.prog 68 (mk16 (aL.tw F)):=by
 intro args H v H' h
 unfold mk16 at h
 split at h
 ·exact okT (TB:=aJ) Try.func68 (aM (dj.k F) bA) (aL.loops F (dj.tw F)) ((aL.eqX F (dj.tw F) _ _ _ _ H).trans h) (by kernel_rfl)
 ·cases h
def fR.twX (F:Nat) (aa:Sl) (H:Hp):OA:=some ((.int .i64 (aa.n:Int)),H)
def fR.tw:=fR.twX F
theorem fR.k:Ok Try.prog 67 (mk3 (fR.tw F)):=by
 intro args H v H' h
 unfold mk3 at h
 split at h
 ·exact ok0 Try.func67 (Eq.trans (by kernel_rfl) h) (by kernel_rfl) (by kernel_rfl)
 ·cases h
def bT.l29 (F:Nat) :Nat->Sl->Int->Int->Hp->OA
 | 0,_,_,_,_=>none
 | gU+1,BN,kA,ij,H7=>(bif (decide (ij<kA)) then ((Hp.new H7 [(.int .i64 ij)]).bind λH11=>(Sl.row H11 (⟨some (H7.length,0),1,.ex 1⟩:Sl) 1).bind λxs13=>(Hp.app H11 1 8 BN (⟨some (H7.length,0),1,.ex 1⟩:Sl).n xs13).bind λa12=>bT.l29 F gU a12.1 kA (wrap .i64 (ij+1)) a12.2) else (some ((.sl BN),H7)))
def bT.twX (aa:Int) (H:Hp):OA:=bT.l29 F F (⟨none,0,.ex 0⟩:Sl) aa 0 H
def bT.tw:=bT.twX F
def bT.lh29 (ks:as7) (n:Nat) (tm:Tm) (H:Hp):OA:=match ks,tm 3,tm 5,tm 6 with
 | [],(.sl BN),(.int .i64 kA),(.int .i64 ij)=>bT.l29 F n BN kA ij H
 | _,_,_,_=>none
def bT.lh (p:Nat) (ks:as7) (n:Nat) (tm:Tm) (H:Hp):OA:=bif p.beq 29 then bT.lh29 F ks n tm H else (none)
theorem bT.loops:LO (aY []) aJ (bT.lh F) F Try.f106:=
 (ae.rt (ae.rt (ae.lt (ae.rt (ae.block (ae.la (λn tm H r h=>by change bT.lh29 F [] n tm H=_ at h;unfold bT.lh29 at h;split at h;have e:bK tm [(3,_),(5,_),(6,_)]:=⟨‹_›,‹_›,‹_›,trivial⟩;obtain _ | k29:=n;cases h;exact ⟨_,rfl,by rw [<- bM e];exact Eq.trans (by kernel_rfl) h⟩;cases h) λk29=>ae.no))))))
theorem bT.k:Ok Try.prog 106 (mk12 (bT.tw F)):=by
 intro args H v H' h
 unfold mk12 at h
 split at h
 ·exact okT (PN:=aJ) (LH:=(bT.lh F)) (F:=F) (TB:=aJ) Try.func106 bA (bT.loops F) (Eq.trans (by kernel_rfl) h) (by kernel_rfl)
 ·cases h
def bj.j2 (F:Nat) (C7_:at4) (ahX:Sl) (ul:Int) (um:Int) (ahY:Sl) (un:Int) (uo:Int) (H50:Hp):OA:=C7_ ahX ul um ahY un (wrap .i64 (uo+1)) H50
def bj.l7 (F:Nat) :Nat->Sl->Int->Int->Sl->Int->Int->Hp->OA
 | 0,_,_,_,_,_,_,_=>none
 | Vg+1,kB,dA,jp,xj,jq,gE,H16=>(bif (decide (gE<jq)) then ((Sl.idx xj gE 1).bind λp34=>(Hp.ldI H16 .i64 p34.1 p34.2).bind λn35=>(bif (n35==dA) then ((Sl.idx kB gE 1).bind λp36=>(Hp.st H16 p36.1 p36.2 (.int .i64 jp)).bind λH37=>bj.j2 F (bj.l7 F Vg) kB dA jp xj jq gE H37) else (bj.j2 F (bj.l7 F Vg) kB dA jp xj jq gE H16))) else (some ((.tup []),H16)))
def bj.twX (aa:Sl) (aA:Int) (cL:Int) (H:Hp):OA:=(Sl.idx aa cL 1).bind λp4=>(Hp.ldI H .i64 p4.1 p4.2).bind λn5=>(Sl.idx aa aA 1).bind λp6=>(Hp.ldI H .i64 p6.1 p6.2).bind λn7=>bj.l7 F F aa n5 n7 aa (aa.n:Int) 0 H
def bj.tw:=bj.twX F
def bj.lh7 (ks:as7) (n:Nat) (tm:Tm) (H:Hp):OA:=match ks,tm 0,tm 6,tm 7,tm 18,tm 19,tm 20 with
 | [],(.sl kB),(.int .i64 dA),(.int .i64 jp),(.sl xj),(.int .i64 jq),(.int .i64 gE)=>bj.l7 F n kB dA jp xj jq gE H
 | _,_,_,_,_,_,_=>none
def bj.lh (p:Nat) (ks:as7) (n:Nat) (tm:Tm) (H:Hp):OA:=bif p.beq 7 then bj.lh7 F ks n tm H else (none)
def bj.tb:Nat->List (List Nat):=cQ [(0,[[],[],[0,1],[0,1,2],[],[],[4,5],[4,5,6],[0,1,2,3],[0,1,2,3,4,5,6,7,8]])]
def mk17 (g:ate) (args:atg) (H:Hp):OA:=match args with
 | [(.sl aa),(.int .i64 aA),(.int .i64 cL)]=>g aa aA cL H
 | _=>none
theorem mk17_E (g:ate) (aa:Sl) (aA:Int) (cL:Int) (H:Hp):mk17 g [(.sl aa),(.int .i64 aA),(.int .i64 cL)] H=g aa aA cL H:=rfl
theorem bj.loops:LO (aY []) aJ (bj.lh F) F Try.f107:=
 (ae.rt (ae.rt (ae.block (ae.la (λn tm H r h=>by change bj.lh7 F [] n tm H=_ at h;unfold bj.lh7 at h;split at h;have e:bK tm [(0,_),(6,_),(7,_),(18,_),(19,_),(20,_)]:=⟨‹_›,‹_›,‹_›,‹_›,‹_›,‹_›,trivial⟩;obtain _ | k7:=n;cases h;exact ⟨_,rfl,by rw [<- bM e];exact Eq.trans (by kernel_rfl) h⟩;cases h) λk7=>ae.no))))
theorem bj.k:Ok Try.prog 107 (mk17 (bj.tw F)):=by
 intro args H v H' h
 unfold mk17 at h
 split at h
 ·exact okT (PN:=aJ) (LH:=(bj.lh F)) (F:=F) (TB:=bj.tb) Try.func107 bA (bj.loops F) (Eq.trans (by kernel_rfl) h) (by kernel_rfl)
 ·cases h
theorem nm_law:Keyed Try.prog 2:=int_keyed Try.underlying2
theorem nm_zero (w:World):(zeroValue 2).run Try.prog w=.ok (.int .i64 0) w:=by kernel_rfl
theorem nm_info:(Try.prog.info? 2).map (λi=>(i.zero,i.size,i.bytes))=some (some (.int .i64 0),1,8):=by kernel_rfl
theorem nm_none (a:Option Addr) (cap:Nat) (w:World):Calls Try.prog 108 #[.slice a 0 cap] w λe w'=>e=.returned (.slice none 0 0)/\Below w.heap.size w w':=by
 have hmm:=@run_makeMap Try.prog
 go_enter Try.func108,Try.ntmps108
 go_wp2
 refine wp_loop_rounds 1 ?_
 rw [rounds_succ]
 go_wp2
 go_ret
 exact ⟨rfl,(Below.refl _ _).alloc (Nat.le_refl _) _⟩
theorem nm_any (b off len cap:Nat) (zs:as6) (w:World) (hreach:len<=4294967296) (hz:len<=zs.length) (hb:b<w.heap.size)
  (hc:∀ j,j<zs.length->w.cell? ⟨b,off+j,none⟩=some (.int .i64 (zs.getD j 0))) (hwz:∀ n∈zs,(Lit.int .i64 n).wf=true) :
  Calls Try.prog 108 #[.slice (some ⟨b,off,none⟩) len cap] w λe w'=>∃ v,e=.returned v/\w'.ownsRow (w.heap.size+1) 2 1 v len ((nst zs len).2.map (Value.int .i64))/\Below w.heap.size w w':=by
 have hmm:=@run_makeMap Try.prog
 obtain ⟨i0,hi,hz0,hz1,hz2⟩:=info_parts nm_info
 go_enter Try.func108,Try.ntmps108
 go_wp2
 go_loopw [4,12] (λv i wr=>∃ (k:Nat) (D:DataW Unit),k<=len/\i=.int .i64 k/\wr.ownsMap Try.prog 2 (plainElem Try.prog 2) w.heap.size k D/\ND D (nst zs k).1 /\
   wr.ownsRow (w.heap.size+1) 2 1 v k ((nst zs k).2.map (Value.int .i64))/\Below w.heap.size w wr/\w.heap.size+1<=wr.heap.size)
  (λ_ i _=>len - (intOf i).toNat)
 case atStart=>exact ⟨0,.map [],Nat.zero_le _,rfl,World.ownsMap_made _ _ _ _,ND.nil,World.ownsRow_nil _ _ _ _,(Below.refl _ _).alloc (Nat.le_refl _) _,by simp⟩
 case round=>
  obtain ⟨k,D,hk,rfl,hown,hD,hrow,hnx,hws⟩:=hrel
  obtain ⟨x,hx⟩:∃ x,x=zs.getD k 0:=⟨_,rfl⟩
  have hwx:(Lit.int .i64 x).wf=true:=by rw [hx];exact arj hwz k
  have hcx:k<len->wr.cell? ⟨b,off+k,none⟩=some (.int .i64 x):=λ_=>by rw [hx];exact (hnx.cell (by exact hb)).trans (hc k (by omega))
  have hkey:keyOf Try.prog 2 (.int .i64 x)=some (.int .i64 x):=keyOf_int_mk Try.underlying2 hwx
  have hl1:=afI zs k
  have hs1:Maps.size D<=k:=by rw [hD.size];exact hl1
  have hht:=hown.tidy nm_law
  have n1:nst zs (k+1)=(bif (nst zs k).1.contains x then (nst zs k).1 else (nst zs k).1++[x],(nst zs k).2++[(((bif (nst zs k).1.contains x then (nst zs k).1 else (nst zs k).1++[x]).idxOf x:Nat):Int)]):=by rw [hx];rfl
  clear hx
  go_wp2_with (first
   | (at_lookup;first
     | (refine wpList_lookup_own_ok_int _ rfl _ _ 155 rfl 2 2 .i64 nm_law Try.underlying155 Try.underlying2 (nm_zero _) w.heap.size k _ rfl hown _ _ rfl hkey ?_;intro c hat hwc)
     | (refine wpList_lookup_own_int _ rfl _ _ 155 rfl 2 2 .i64 nm_law Try.underlying155 Try.underlying2 (nm_zero _) w.heap.size (k+1) _ rfl hown1 _ _ rfl hkey ?_;intro c2 hat2 hwc2)
     | (refine wpList_lookup_own_int _ rfl _ _ 155 rfl 2 2 .i64 nm_law Try.underlying155 Try.underlying2 (nm_zero _) w.heap.size k _ rfl hown _ _ rfl hkey ?_;intro c2 hat2 hwc2))
   | (at_len;refine wpList_len_own _ rfl _ 155 rfl 2 2 Try.underlying155 _ w.heap.size k _ rfl hown ?_)
   | (at_mapUpdate;refine wpList_mapUpdate_own _ rfl _ _ _ 155 rfl 2 2 nm_law Try.underlying155 (plainElem Try.prog 2) w.heap.size k _ rfl hown (by unfold maxLen;omega) _ _ _ rfl rfl hkey _ [] (plainElem_int Try.underlying2 (WalkArith.wf_i64 (by omega))) ?_;intro w1 hown1 hgrow1)
   | (at_builtin;first
     | (refine wpList_append_own _ rfl _ _ 34 rfl (w.heap.size+1) 2 i0 (.int .i64 0) 1 8 Try.underlying34 hi hz0 hz1 hz2 rfl (by decide) _ _ _ rfl ((hrow.kept hgrow1 (Or.inr (Hb hrow (Nat.lt_succ_self _)).symm)).alloc _) ⟨w1.heap.size,0,none⟩ 1 1 [.int .i64 c2] rfl rfl (cell_one_new _ _ _) (ints_oneCell .i64 [c2]) (by unfold maxLen;omega) (by omega) (by have:=hgrow1.size;simp at this ⊢;omega) ?_;intro v' w2 hown' hgrow2 hnil2)
     | (refine wpList_append_own _ rfl _ _ 34 rfl (w.heap.size+1) 2 i0 (.int .i64 0) 1 8 Try.underlying34 hi hz0 hz1 hz2 rfl (by decide) _ _ _ rfl (hrow.alloc _) ⟨wr.heap.size,0,none⟩ 1 1 [.int .i64 c2] rfl rfl (cell_one_new _ _ _) (ints_oneCell .i64 [c2]) (by unfold maxLen;omega) (by omega) (by simp;omega) ?_;intro v' w2 hown' hgrow2 hnil2))
   | go_in)
  ·have hlt:k<len:=by assumption
   have ht:(!Maps.has D (Lit.int .i64 x))=true:=by assumption
   have hc0:(nst zs k).1.contains x=false:=by rw [<- hD.has x];simpa using ht
   have hr1:=hrow.kept hgrow1 (Or.inr (Hb hrow (Nat.lt_succ_self _)).symm)
   have s1:=hgrow1.size
   have s2:=hgrow2.size
   simp at s1 s2
   have hD1:=hD.new hht hc0
   rw [hD1.at_ x (by simp) _] at hat2
   have e2:c2=(((nst zs k).1++[x]).idxOf x:Nat):=by injection hat2 with q;injection q with _ q;exact q.symm
   rw [hc0,cond_false] at n1
   go_roundw
   case rel=>
    refine ⟨k+1,_,by omega,by go_num,(hown1.alloc _).kept hgrow2 (Hb hr1 (Nat.lt_succ_self _)),by rw [n1];exact hD1,?_,?_,by omega⟩
    ·rw [n1,List.map_append,<-e2];exact hown'
    ·exact (((hnx.grown hgrow1 hnx.size (λj hj=>by cases hj;exact Nat.le_refl _)).alloc (by omega) _).grown hgrow2 (by simp;omega) (λj hj=>Nat.le_trans (Nat.le_succ _) (hr1.lt j hj).1))
   case measure=>simp [intOf];omega
  ·have hlt:k<len:=by assumption
   have ht:(!Maps.has D (Lit.int .i64 x))=false:=by assumption
   have hc1:(nst zs k).1.contains x=true:=by rw [<- hD.has x];simpa using ht
   have s2:=hgrow2.size
   simp at s2
   rw [hD.at_ x hc1 _] at hat2
   have e2:c2=((nst zs k).1.idxOf x:Nat):=by injection hat2 with q;injection q with _ q;exact q.symm
   rw [hc1,cond_true] at n1
   go_roundw
   case rel=>
    refine ⟨k+1,_,by omega,by go_num,((hown.alloc _).kept hgrow2 (Hb hrow (Nat.lt_succ_self _))).mono (Nat.le_succ _),by rw [n1];exact hD,?_,?_,by omega⟩
    ·rw [n1,List.map_append,<-e2];exact hown'
    ·exact ((hnx.alloc hnx.size _).grown hgrow2 (by simp;omega) (λj hj=>Nat.le_trans (Nat.le_succ _) (hrow.lt j hj).1))
   case measure=>simp [intOf];omega
  ·have:k=len:=by omega
   subst this
   go_ret
   exact ⟨_,rfl,hrow,hnx⟩
theorem nm_ok:NumOk Try.prog 108 2:=⟨nm_none,nm_any⟩
def cS.tw (F:Nat) (aa:Sl) (H:Hp):OA:=Ar aa H
def cS.mk (g:as4) (args:atg) (H:Hp):OA:=match args with
 | [.sl aa]=>g aa H
 | _=>none
theorem cS.T {F:Nat} {aa:Sl} {H:Hp} {v:AV} {H':Hp} (h:cS.tw F aa H=some (v,H')):Go.AE.T Try.prog 108 [.sl aa] H v H':=
 nm_ok.T (ark Try.func108 (by kernel_rfl) (by kernel_rfl)) h
theorem cS.mk_T {F:Nat} {args:atg} {H:Hp} {v:AV} {H':Hp} (h:cS.mk (cS.tw F) args H=some (v,H')):Go.AE.T Try.prog 108 args H v H':=by
 unfold cS.mk at h
 split at h
 ·exact cS.T h
 ·cases h
theorem cS.k:Ok Try.prog 108 (cS.mk (cS.tw F)):=λ_ _ _ _ h=>cS.mk_T h
def bP.l29 (F:Nat) (cA:as4) (cT:as_) (cU:ate) (cV:as4) :Nat->Nat->Nat->Sl->Sl->Int->Int->Hp->OA
 | 0,_,_,_,_,_,_,_=>none
 | gU+1,oa,BO,lW,BP,kC,ik,H26=>(bif (decide (ik<kC)) then ((Sl.idx BP ik 2).bind λp40=>(Hp.ldI H26 .i64 p40.1 p40.2).bind λn41=>(Hp.ldI H26 .i64 p40.1 (p40.2+1)).bind λn42=>(Hp.new H26 [.int .i64 0,.int .i64 0]).bind λH43=>(Hp.st H43 H26.length 0 (.int .i64 n41)).bind λH44=>(Hp.st H44 H26.length (0+1) (.int .i64 n42)).bind λH45=>(Hp.ldI H45 .i64 H26.length 0).bind λn46=>(Hp.ldSl H45 oa (BO+1)).bind λs47=>(Sl.idx s47 ik 2).bind λp48=>(Hp.ldI H45 .i64 p48.1 p48.2).bind λn49=>(cU lW n46 n49 H45).bind λr50=>bP.l29 F cA cT cU cV gU oa BO lW BP kC (wrap .i64 (ik+1)) r50.2) else ((cV lW H26).bind λr51=>((r51.1).asSl).bind λs52=>some ((.sl s52),r51.2)))
termination_by structural n=>n
def bP.twX (cA:as4) (cT:as_) (cU:ate) (cV:as4) (aa:Sl) (af:Int) (au:Sl) (bu:Sl) (H:Hp):OA:=(Hp.new H [(.sl aa),(.int .i64 af)]).bind λH5=>(Hp.new H5 [(.sl au),(.sl bu)]).bind λH6=>(Hp.ldSl H6 H.length 0).bind λs7=>(cA s7 H6).bind λr8=>((r8.1).asI .i64).bind λn9=>(cT n9 r8.2).bind λr10=>((r10.1).asSl).bind λs11=>(Hp.ldSl r10.2 H5.length 0).bind λs12=>bP.l29 F cA cT cU cV F H5.length 0 s11 s12 (s12.n:Int) 0 r10.2
def bP.tw:=bP.twX F (cM.tw F) (bT.tw F) (bj.tw F) (cS.tw F)
def bP.lh29 (cA:as4) (cT:as_) (cU:ate) (cV:as4) (ks:as7) (n:Nat) (tm:Tm) (H:Hp):OA:=match ks,tm 3,tm 5,tm 13,tm 14,tm 15 with
 | [],(.ptr oa BO),(.sl lW),(.sl BP),(.int .i64 kC),(.int .i64 ik)=>bP.l29 F cA cT cU cV n oa BO lW BP kC ik H
 | _,_,_,_,_,_=>none
def bP.lh (cA:as4) (cT:as_) (cU:ate) (cV:as4) (p:Nat) (ks:as7) (n:Nat) (tm:Tm) (H:Hp):OA:=bif p.beq 29 then bP.lh29 F cA cT cU cV ks n tm H else (none)
def bP.pn:Nat->List Nat:=cQ [(5,[9])]
def bP.tb:Nat->List (List Nat):=cQ [(5,[[],[],[1],[],[3],[],[3,4,5],[3,4,5,6],[3,4,5,6,7],[0,1,2,3,4,5,6,7,8]])]
def bP.cs (F:Nat) (cA:as4) (cT:as_) (cU:ate) (cV:as4):Cs:=[(62,mk3 cA),(106,mk12 cT),(107,mk17 cU),(108,cS.mk cV)]
theorem bP.loops (cA:as4) (cT:as_) (cU:ate) (cV:as4):LO (aY (bP.cs F cA cT cU cV)) bP.pn (bP.lh F cA cT cU cV) F Try.f70:=
 (ae.rt (ae.rt (ae.lt (ae.rt (ae.block (ae.la (λn tm H r h=>by change bP.lh29 F cA cT cU cV [] n tm H=_ at h;unfold bP.lh29 at h;split at h;have e:bK tm [(3,_),(5,_),(13,_),(14,_),(15,_)]:=⟨‹_›,‹_›,‹_›,‹_›,‹_›,trivial⟩;obtain _ | k29:=n;cases h;exact ⟨_,rfl,by rw [<- bM e];exact Eq.trans (by kernel_rfl) h⟩;cases h) λk29=>ae.no))))))
theorem bP.eqX (cA:as4) (cT:as_) (cU:ate) (cV:as4) (aa:Sl) (af:Int) (au:Sl) (bu:Sl) (H:Hp):EX (aY (bP.cs F cA cT cU cV)) bP.pn (bP.lh F cA cT cU cV) F Try.f70 [(.agg [(.sl aa),(.int .i64 af)]),(.agg [(.sl au),(.sl bu)])] H=bP.twX F cA cT cU cV aa af au bu H:=by kernel_rfl
theorem bP.k:Ok Try.prog 70 (mk16 (bP.tw F)):=by
 intro args H v H' h
 unfold mk16 at h
 split at h
 ·exact okT (TB:=bP.tb) Try.func70 (aM (cM.k F) (aM (bT.k F) (aM (bj.k F) (aM (cS.k F) bA)))) (bP.loops F (cM.tw F) (bT.tw F) (bj.tw F) (cS.tw F)) ((bP.eqX F (cM.tw F) (bT.tw F) (bj.tw F) (cS.tw F) _ _ _ _ H).trans h) (by kernel_rfl)
 ·cases h
def bN.l61 (F:Nat) :Nat->Sl->Int->Int->Hp->OA
 | 0,_,_,_,_=>none
 | bE+1,kB,ga,gb,H13=>(bif (decide (gb<(kB.n:Int))) then ((Sl.idx kB gb 1).bind λp16=>(Hp.ldI H13 .i64 p16.1 p16.2).bind λn17=>bN.l61 F bE kB (if n17>ga then n17 else ga) (wrap .i64 (gb+1)) H13) else (some ((.int .i64 ga),H13)))
def bN.j1 (Vh:Sl) (H5:Hp):OA:=(Sl.idx Vh 0 1).bind λp6=>(Hp.ldI H5 .i64 p6.1 p6.2).bind λn7=>bN.l61 F F Vh n7 1 H5
def bN.twX (aa:Sl) (H:Hp):OA:=(bif (decide ((aa.n:Int)<1)) then (none) else (bN.j1 F aa H))
def bN.tw:=bN.twX F
def bN.lh61 (ks:as7) (n:Nat) (tm:Tm) (H:Hp):OA:=match ks,tm 0,tm 3,tm 4 with
 | [],(.sl kB),(.int .i64 ga),(.int .i64 gb)=>bN.l61 F n kB ga gb H
 | _,_,_,_=>none
def bN.lh (p:Nat) (ks:as7) (n:Nat) (tm:Tm) (H:Hp):OA:=bif p.beq 61 then bN.lh61 F ks n tm H else (none)
theorem bN.loops:LO (aY []) aJ (bN.lh F) F Try.f105:=
 (ae.rt (ae.rt (ae.rt (ae.lt (ae.rt (ae.block (ae.la (λn tm H r h=>by change bN.lh61 F [] n tm H=_ at h;unfold bN.lh61 at h;split at h;have e:bK tm [(0,_),(3,_),(4,_)]:=⟨‹_›,‹_›,‹_›,trivial⟩;obtain _ | k61:=n;cases h;exact ⟨_,rfl,by rw [<- bM e];exact Eq.trans (by kernel_rfl) h⟩;cases h) λk61=>ae.no)))))))
theorem bN.k:Ok Try.prog 105 (mk3 (bN.tw F)):=by
 intro args H v H' h
 unfold mk3 at h
 split at h
 ·exact okT (PN:=aJ) (LH:=(bN.lh F)) (F:=F) (TB:=aJ) Try.func105 bA (bN.loops F) (Eq.trans (by kernel_rfl) h) (by kernel_rfl)
 ·cases h
def dq.twX (F:Nat) (uq:as4) (aa:Sl) (H:Hp):OA:=(bif ((aa.n:Int)==0) then (some ((.int .i64 0),H)) else ((uq aa H).bind λr2=>((r2.1).asI .i64).bind λn3=>some ((.int .i64 (wrap .i64 (n3+1))),r2.2)))
def dq.tw:=dq.twX F (bN.tw F)
def dq.cs (F:Nat) (uq:as4):Cs:=[(105,mk3 uq)]
theorem dq.eqX (uq:as4) (aa:Sl) (H:Hp):EX (aY (dq.cs F uq)) aJ lh0 F Try.f69 [(.sl aa)] H=dq.twX F uq aa H:=by kernel_rfl
theorem dq.k:Ok Try.prog 69 (mk3 (dq.tw F)):=by
 intro args H v H' h
 unfold mk3 at h
 split at h
 ·exact okT (TB:=aJ) Try.func69 (aM (bN.k F) bA) ae.no ((dq.eqX F (bN.tw F) _ H).trans h) (by kernel_rfl)
 ·cases h
def db.twX (F:Nat) (cA:as4) (ft:atc) (ur:as4) (ut:as2) (uu:atC) (uv:as4) (uw:atC) (ed:as4) (aa:Sl) (af:Int) (H:Hp):OA:=(Hp.new H [(.sl aa),(.int .i64 af)]).bind λH3=>(Hp.new H3 [.sl ⟨none,0,.ex 0⟩,.sl ⟨none,0,.ex 0⟩]).bind λH4=>(Hp.ldSl H4 H.length 0).bind λs5=>(cA s5 H4).bind λr6=>((r6.1).asI .i64).bind λn7=>(bif (decide (n7>10)) then ((Hp.st r6.2 H3.length 0 (.sl (⟨none,0,.ex 0⟩:Sl))).bind λH8=>(Hp.st H8 H3.length (0+1) (.sl (⟨none,0,.ex 0⟩:Sl))).bind λH9=>(Hp.ldSl H9 H3.length 0).bind λs10=>(Hp.ldSl H9 H3.length (0+1)).bind λs11=>some ((.tup [(.agg [(.sl s10),(.sl s11)]),(.bool false)]),H9)) else ((Hp.ldI r6.2 .i64 H.length 1).bind λn12=>(ft n12 0 8 r6.2).bind λr13=>((r13.1).asB).bind λb14=>(bif (!b14) then ((Hp.st r13.2 H3.length 0 (.sl (⟨none,0,.ex 0⟩:Sl))).bind λH15=>(Hp.st H15 H3.length (0+1) (.sl (⟨none,0,.ex 0⟩:Sl))).bind λH16=>(Hp.ldSl H16 H3.length 0).bind λs17=>(Hp.ldSl H16 H3.length (0+1)).bind λs18=>some ((.tup [(.agg [(.sl s17),(.sl s18)]),(.bool false)]),H16)) else ((Hp.ldSl r13.2 H.length 0).bind λs19=>(ur s19 r13.2).bind λr20=>((r20.1).asB).bind λb21=>(bif b21 then ((Hp.st r20.2 H3.length 0 (.sl (⟨none,0,.ex 0⟩:Sl))).bind λH22=>(Hp.st H22 H3.length (0+1) (.sl (⟨none,0,.ex 0⟩:Sl))).bind λH23=>(Hp.ldSl H23 H3.length 0).bind λs24=>(Hp.ldSl H23 H3.length (0+1)).bind λs25=>some ((.tup [(.agg [(.sl s24),(.sl s25)]),(.bool false)]),H23)) else ((Hp.ldSl r20.2 H.length 0).bind λs26=>(Hp.ldI r20.2 .i64 H.length (0+1)).bind λn27=>(ut s26 n27 r20.2).bind λr28=>((r28.1).asTup 2).bind λl29=>(l29[0]?).bind λv30=>((v30).asAgg 2).bind λl31=>(l31[0]?).bind λv32=>((v32).asSl).bind λs33=>(l31[1]?).bind λv34=>((v34).asSl).bind λs35=>(l29[1]?).bind λv36=>((v36).asB).bind λb37=>(Hp.new r28.2 [.sl ⟨none,0,.ex 0⟩,.sl ⟨none,0,.ex 0⟩]).bind λH38=>(Hp.st H38 r28.2.length 0 (.sl s33)).bind λH39=>(Hp.st H39 r28.2.length (0+1) (.sl s35)).bind λH40=>(bif (!b37) then ((Hp.st H40 H3.length 0 (.sl (⟨none,0,.ex 0⟩:Sl))).bind λH41=>(Hp.st H41 H3.length (0+1) (.sl (⟨none,0,.ex 0⟩:Sl))).bind λH42=>(Hp.ldSl H42 H3.length 0).bind λs43=>(Hp.ldSl H42 H3.length (0+1)).bind λs44=>some ((.tup [(.agg [(.sl s43),(.sl s44)]),(.bool false)]),H42)) else ((Hp.ldSl H40 H.length 0).bind λs45=>(Hp.ldI H40 .i64 H.length (0+1)).bind λn46=>(Hp.ldSl H40 r28.2.length 0).bind λs47=>(Hp.ldSl H40 r28.2.length (0+1)).bind λs48=>(uu s45 n46 s47 s48 H40).bind λr49=>((r49.1).asSl).bind λs50=>(if aZ H40 r49.2 then ((uv s50 r49.2).bind λr51=>((r51.1).asI .i64).bind λn52=>(if aZ r49.2 r51.2 then ((Hp.ldSl r51.2 H.length 0).bind λs53=>(Hp.ldI r51.2 .i64 H.length (0+1)).bind λn54=>(Hp.ldSl r51.2 r28.2.length 0).bind λs55=>(Hp.ldSl r51.2 r28.2.length (0+1)).bind λs56=>(uw s53 n54 s55 s56 r51.2).bind λr57=>((r57.1).asSl).bind λs58=>(ed s58 r57.2).bind λr59=>((r59.1).asI .i64).bind λn60=>(bif (n52 != (wrap .i64 (n7+(wrap .i64 (2 * n60))))) then ((Hp.st r59.2 H3.length 0 (.sl (⟨none,0,.ex 0⟩:Sl))).bind λH61=>(Hp.st H61 H3.length (0+1) (.sl (⟨none,0,.ex 0⟩:Sl))).bind λH62=>(Hp.ldSl H62 H3.length 0).bind λs63=>(Hp.ldSl H62 H3.length (0+1)).bind λs64=>some ((.tup [(.agg [(.sl s63),(.sl s64)]),(.bool false)]),H62)) else ((Hp.ldSl r59.2 r28.2.length 0).bind λs65=>(Hp.ldSl r59.2 r28.2.length (0+1)).bind λs66=>(Hp.st r59.2 H3.length 0 (.sl s65)).bind λH67=>(Hp.st H67 H3.length (0+1) (.sl s66)).bind λH68=>(Hp.ldSl H68 H3.length 0).bind λs69=>(Hp.ldSl H68 H3.length (0+1)).bind λs70=>some ((.tup [(.agg [(.sl s69),(.sl s70)]),(.bool true)]),H68)))) else none)) else none)))))))))
def db.tw:=db.twX F (cM.tw F) (dw.tw F) (eD.tw F) (bf.tw F) (aL.tw F) (fR.tw F) (bP.tw F) (dq.tw F)
def db.pn:Nat->List Nat:=cQ [(5,[10,11])]
def db.tb:Nat->List (List Nat):=cQ [(5,[[],[0],[0,1],[0,1,2],[0,1,2],[0,1,2,3,4],[0,1,2,3,4,5],[0,1,2],[0,1,2],[0,1,2],[0,1,2,3,4,5,6,8,9],[0,1,2,3,4,5,6,8,9,10],[0,1,2,3,4,5,6,8,9,10,11],[0,1,2,3,4,5,6,7,8,9,10,11,12],[0,1,2,3,4,5,6,7,8,9,10,11,12,13],[0,1,2,3,4,5,6,7,8,9,10,11,12,13,14]])]
def db.cs (F:Nat) (cA:as4) (ft:atc) (ur:as4) (ut:as2) (uu:atC) (uv:as4) (uw:atC) (ed:as4):Cs:=[(62,mk3 cA),(63,mk5 ft),(64,mk13 ur),(66,mk4 ut),(68,mk16 uu),(67,mk3 uv),(70,mk16 uw),(69,mk3 ed)]
theorem db.eqX (cA:as4) (ft:atc) (ur:as4) (ut:as2) (uu:atC) (uv:as4) (uw:atC) (ed:as4) (aa:Sl) (af:Int) (H:Hp):EX (aY (db.cs F cA ft ur ut uu uv uw ed)) db.pn lh0 F Try.f33 [(.agg [(.sl aa),(.int .i64 af)])] H=db.twX F cA ft ur ut uu uv uw ed aa af H:=by kernel_rfl
theorem db.k:Ok Try.prog 33 (mk4 (db.tw F)):=by
 intro args H v H' h
 unfold mk4 at h
 split at h
 ·exact okT (TB:=db.tb) Try.func33 (aM (cM.k F) (aM (dw.k F) (aM (eD.k F) (aM (bf.k F) (aM (aL.k F) (aM (fR.k F) (aM (bP.k F) (aM (dq.k F) bA)))))))) ae.no ((db.eqX F (cM.tw F) (dw.tw F) (eD.tw F) (bf.tw F) (aL.tw F) (fR.tw F) (bP.tw F) (dq.tw F) _ _ H).trans h) (by kernel_rfl)
 ·cases h
def ef.twX (F:Nat) (ux:as2) (aa:Sl) (af:Int) (H:Hp):OA:=(Hp.new H [(.sl aa),(.int .i64 af)]).bind λH3=>(Hp.ldSl H3 H.length 0).bind λs4=>(Hp.ldI H3 .i64 H.length (0+1)).bind λn5=>(ux s4 n5 H3).bind λr6=>((r6.1).asTup 2).bind λl7=>(l7[0]?).bind λv8=>((v8).asAgg 2).bind λl9=>(l9[0]?).bind λv10=>((v10).asSl).bind λs11=>(l9[1]?).bind λv12=>((v12).asSl).bind λs13=>(l7[1]?).bind λv14=>((v14).asB).bind λb15=>(Hp.new r6.2 [.sl ⟨none,0,.ex 0⟩,.sl ⟨none,0,.ex 0⟩]).bind λH16=>(Hp.st H16 r6.2.length 0 (.sl s11)).bind λH17=>(Hp.st H17 r6.2.length (0+1) (.sl s13)).bind λH18=>some ((.bool b15),H18)
def ef.tw:=ef.twX F (db.tw F)
def ef.cs (F:Nat) (ux:as2):Cs:=[(33,mk4 ux)]
theorem ef.eqX (ux:as2) (aa:Sl) (af:Int) (H:Hp):EX (aY (ef.cs F ux)) aJ lh0 F Try.f60 [(.agg [(.sl aa),(.int .i64 af)])] H=ef.twX F ux aa af H:=by kernel_rfl
theorem ef.k:Ok Try.prog 60 (mk4 (ef.tw F)):=by
 intro args H v H' h
 unfold mk4 at h
 split at h
 ·exact okT (TB:=aJ) Try.func60 (aM (db.k F) bA) ae.no ((ef.eqX F (db.tw F) _ _ H).trans h) (by kernel_rfl)
 ·cases h
def fS.twX (F:Nat) (aa:Sl) (af:Int) (H:Hp):OA:=(Hp.new H [(.sl aa),(.int .i64 af)]).bind λH3=>(Hp.ldSl H3 H.length 0).bind λs4=>(bif ((s4.n:Int)==0) then ((Hp.ldI H3 .i64 H.length 1).bind λn5=>some ((.bool (n5==0)),H3)) else (some ((.bool false),H3)))
def fS.tw:=fS.twX F
theorem fS.k:Ok Try.prog 61 (mk4 (fS.tw F)):=by
 intro args H v H' h
 unfold mk4 at h
 split at h
 ·exact ok0 Try.func61 (Eq.trans (by kernel_rfl) h) (by kernel_rfl) (by kernel_rfl)
 ·cases h
def eL.twX (F:Nat) (uy:as2) (uz:as2) (aa:Sl) (af:Int) (H:Hp):OA:=(Hp.new H [(.sl aa),(.int .i64 af)]).bind λH3=>(Hp.ldSl H3 H.length 0).bind λs4=>(Hp.ldI H3 .i64 H.length (0+1)).bind λn5=>(uy s4 n5 H3).bind λr6=>((r6.1).asB).bind λb7=>(bif (!b7) then (some ((.int .i64 1),r6.2)) else ((Hp.ldSl r6.2 H.length 0).bind λs8=>(Hp.ldI r6.2 .i64 H.length (0+1)).bind λn9=>(uz s8 n9 r6.2).bind λr10=>((r10.1).asB).bind λb11=>(bif b11 then (some ((.int .i64 5),r10.2)) else (some ((.int .i64 0),r10.2)))))
def eL.tw:=eL.twX F (ef.tw F) (fS.tw F)
def eL.cs (F:Nat) (uy:as2) (uz:as2):Cs:=[(60,mk4 uy),(61,mk4 uz)]
theorem eL.eqX (uy:as2) (uz:as2) (aa:Sl) (af:Int) (H:Hp):EX (aY (eL.cs F uy uz)) aJ lh0 F Try.f32 [(.agg [(.sl aa),(.int .i64 af)])] H=eL.twX F uy uz aa af H:=by kernel_rfl
theorem eL.k:Ok Try.prog 32 (mk4 (eL.tw F)):=by
 intro args H v H' h
 unfold mk4 at h
 split at h
 ·exact okT (TB:=aJ) Try.func32 (aM (ef.k F) (aM (fS.k F) bA)) ae.no ((eL.eqX F (ef.tw F) (fS.tw F) _ _ H).trans h) (by kernel_rfl)
 ·cases h
def bg.j1 (F:Nat) (cA:as4) (cT:as_) (cU:ate) (cV:as4) (ed:as4) (BQ:Nat) (ahZ:Nat) (ah0:Sl) (H47:Hp):OA:=(cV ah0 H47).bind λr48=>((r48.1).asSl).bind λs49=>(ed s49 r48.2).bind λr50=>((r50.1).asI .i64).bind λn51=>(if aZ r48.2 r50.2 then ((Hp.ldI r50.2 .i64 BQ (ahZ+1)).bind λn52=>some ((.tup [(.sl s49),(.int .i64 (wrap .i64 (n51+n52)))]),r50.2)) else none)
def bg.l29 (F:Nat) (cA:as4) (cT:as_) (cU:ate) (cV:as4) (ed:as4) :Nat->Nat->Nat->Sl->Sl->Int->Int->Hp->OA
 | 0,_,_,_,_,_,_,_=>none
 | gU+1,fb,BR,xk,BS,kD,jr,H20=>(bif (decide (jr<kD)) then ((Sl.idx BS jr 5).bind λp53=>(Hp.ldI H20 .i64 p53.1 p53.2).bind λn54=>(Hp.ldI H20 .i64 p53.1 (p53.2+1)).bind λn55=>(Hp.ldI H20 .i64 p53.1 (p53.2+2)).bind λn56=>(Hp.ldI H20 .i64 p53.1 (p53.2+3)).bind λn57=>(Hp.ldI H20 .i64 p53.1 (p53.2+4)).bind λn58=>(Hp.new H20 [.int .i64 0,.int .i64 0,.int .i64 0,.int .i64 0,.int .i64 0]).bind λH59=>(Hp.st H59 H20.length 0 (.int .i64 n54)).bind λH60=>(Hp.st H60 H20.length (0+1) (.int .i64 n55)).bind λH61=>(Hp.st H61 H20.length (0+1+1) (.int .i64 n56)).bind λH62=>(Hp.st H62 H20.length (0+1+1+1) (.int .i64 n57)).bind λH63=>(Hp.st H63 H20.length (0+1+1+1+1) (.int .i64 n58)).bind λH64=>(Hp.ldI H64 .i64 H20.length 1).bind λn65=>(Hp.ldI H64 .i64 H20.length 3).bind λn66=>(cU xk n65 n66 H64).bind λr67=>bg.l29 F cA cT cU cV ed gU fb BR xk BS kD (wrap .i64 (jr+1)) r67.2) else (bg.j1 F cA cT cU cV ed fb BR xk H20))
termination_by structural n=>n
def bg.twX (cA:as4) (cT:as_) (cU:ate) (cV:as4) (ed:as4) (aa:Sl) (af:Int) (H:Hp):OA:=(Hp.new H [(.sl aa),(.int .i64 af)]).bind λH3=>(Hp.ldSl H3 H.length 0).bind λs4=>(cA s4 H3).bind λr5=>((r5.1).asI .i64).bind λn6=>(cT (wrap .i64 (2 * n6)) r5.2).bind λr7=>((r7.1).asSl).bind λs8=>(Hp.ldSl r7.2 H.length 0).bind λs9=>bg.l29 F cA cT cU cV ed F H.length 0 s8 s9 (s9.n:Int) 0 r7.2
def bg.tw:=bg.twX F (cM.tw F) (bT.tw F) (bj.tw F) (cS.tw F) (dq.tw F)
def bg.lh29 (cA:as4) (cT:as_) (cU:ate) (cV:as4) (ed:as4) (ks:as7) (n:Nat) (tm:Tm) (H:Hp):OA:=match ks,tm 1,tm 4,tm 14,tm 15,tm 16 with
 | [],(.ptr fb BR),(.sl xk),(.sl BS),(.int .i64 kD),(.int .i64 jr)=>bg.l29 F cA cT cU cV ed n fb BR xk BS kD jr H
 | _,_,_,_,_,_=>none
def bg.lh (cA:as4) (cT:as_) (cU:ate) (cV:as4) (ed:as4) (p:Nat) (ks:as7) (n:Nat) (tm:Tm) (H:Hp):OA:=bif p.beq 29 then bg.lh29 F cA cT cU cV ed ks n tm H else (none)
def bg.tb:Nat->List (List Nat):=cQ [(8,[[],[],[1],[],[3],[1,2,3,4],[0,1,2],[0,1,2,3,4,5,6]])]
def bg.cs (F:Nat) (cA:as4) (cT:as_) (cU:ate) (cV:as4) (ed:as4):Cs:=[(62,mk3 cA),(106,mk12 cT),(107,mk17 cU),(108,cS.mk cV),(69,mk3 ed)]
theorem bg.loops (cA:as4) (cT:as_) (cU:ate) (cV:as4) (ed:as4):LO (aY (bg.cs F cA cT cU cV ed)) aJ (bg.lh F cA cT cU cV ed) F Try.f91:=
 (ae.rt (ae.rt (ae.lt (ae.rt (ae.block (ae.la (λn tm H r h=>by change bg.lh29 F cA cT cU cV ed [] n tm H=_ at h;unfold bg.lh29 at h;split at h;have e:bK tm [(1,_),(4,_),(14,_),(15,_),(16,_)]:=⟨‹_›,‹_›,‹_›,‹_›,‹_›,trivial⟩;obtain _ | k29:=n;cases h;exact ⟨_,rfl,by rw [<- bM e];exact Eq.trans (by kernel_rfl) h⟩;cases h) λk29=>ae.no))))))
theorem bg.eqX (cA:as4) (cT:as_) (cU:ate) (cV:as4) (ed:as4) (aa:Sl) (af:Int) (H:Hp):EX (aY (bg.cs F cA cT cU cV ed)) aJ (bg.lh F cA cT cU cV ed) F Try.f91 [(.agg [(.sl aa),(.int .i64 af)])] H=bg.twX F cA cT cU cV ed aa af H:=by kernel_rfl
theorem bg.k:Ok Try.prog 91 (mk4 (bg.tw F)):=by
 intro args H v H' h
 unfold mk4 at h
 split at h
 ·exact okT (TB:=bg.tb) Try.func91 (aM (cM.k F) (aM (bT.k F) (aM (bj.k F) (aM (cS.k F) (aM (dq.k F) bA))))) (bg.loops F (cM.tw F) (bT.tw F) (bj.tw F) (cS.tw F) (dq.tw F)) ((bg.eqX F (cM.tw F) (bT.tw F) (bj.tw F) (cS.tw F) (dq.tw F) _ _ H).trans h) (by kernel_rfl)
 ·cases h
def bO.l61 (F:Nat) (bx:as2) :Nat->Sl->Sl->Sl->Int->Int->Hp->OA
 | 0,_,_,_,_,_,_=>none
 | bE+1,jM,BT,gR,eF,js,H23=>(bif (decide (js<eF)) then ((Sl.idx gR js 5).bind λp51=>(Hp.ldI H23 .i64 p51.1 p51.2).bind λn52=>(Hp.ldI H23 .i64 p51.1 (p51.2+1)).bind λn53=>(Hp.ldI H23 .i64 p51.1 (p51.2+2)).bind λn54=>(Hp.ldI H23 .i64 p51.1 (p51.2+3)).bind λn55=>(Hp.ldI H23 .i64 p51.1 (p51.2+4)).bind λn56=>(Hp.new H23 [.int .i64 0,.int .i64 0,.int .i64 0,.int .i64 0,.int .i64 0]).bind λH57=>(Hp.st H57 H23.length 0 (.int .i64 n52)).bind λH58=>(Hp.st H58 H23.length (0+1) (.int .i64 n53)).bind λH59=>(Hp.st H59 H23.length (0+1+1) (.int .i64 n54)).bind λH60=>(Hp.st H60 H23.length (0+1+1+1) (.int .i64 n55)).bind λH61=>(Hp.st H61 H23.length (0+1+1+1+1) (.int .i64 n56)).bind λH62=>(Hp.ldI H62 .i64 H23.length 0).bind λn63=>(Sl.idx jM n63 1).bind λp64=>(Hp.ldI H62 .i64 p64.1 p64.2).bind λn65=>(Hp.ldI H62 .i64 H23.length 2).bind λn66=>(Sl.idx jM n66 1).bind λp67=>(Hp.ldI H62 .i64 p67.1 p67.2).bind λn68=>(Hp.ldI H62 .i64 H23.length 1).bind λn69=>(Sl.idx jM n69 1).bind λp70=>(Hp.ldI H62 .i64 p70.1 p70.2).bind λn71=>(Hp.ldI H62 .i64 H23.length 4).bind λn72=>(Hp.ldI H62 .i64 H23.length 4).bind λn73=>(Hp.new H62 [(.int .i64 (wrap .i64 (n68+1))),(.int .i64 (wrap .i64 (n72 * (wrap .i64 (n71+1))))),(.int .i64 (wrap .i64 (0 - (wrap .i64 (n65+1))))),(.int .i64 (wrap .i64 ((wrap .i64 (0 - n73)) * (wrap .i64 (n71+1)))))]).bind λH74=>(Hp.new H74 [(.sl (⟨some (H62.length,0),4,.ex 4⟩:Sl))]).bind λH75=>(Sl.row H75 (⟨some (H74.length,0),1,.ex 1⟩:Sl) 1).bind λxs77=>(Hp.app H75 1 24 BT (⟨some (H74.length,0),1,.ex 1⟩:Sl).n xs77).bind λa76=>bO.l61 F bx bE jM a76.1 gR eF (wrap .i64 (js+1)) a76.2) else (some ((.sl BT),H23)))
def bO.twX (bx:as2) (aa:Sl) (af:Int) (H:Hp):OA:=(Hp.new H [(.sl aa),(.int .i64 af)]).bind λH3=>(Hp.ldSl H3 H.length 0).bind λs4=>(Hp.ldI H3 .i64 H.length (0+1)).bind λn5=>(bx s4 n5 H3).bind λr6=>((r6.1).asTup 2).bind λl7=>(l7[0]?).bind λv8=>((v8).asSl).bind λs9=>(l7[1]?).bind λv10=>((v10).asI .i64).bind λn11=>(Hp.ldSl r6.2 H.length 0).bind λs12=>bO.l61 F bx F s9 (⟨none,0,.ex 0⟩:Sl) s12 (s12.n:Int) 0 r6.2
def bO.tw:=bO.twX F (bg.tw F)
def bO.lh61 (bx:as2) (ks:as7) (n:Nat) (tm:Tm) (H:Hp):OA:=match ks,tm 3,tm 5,tm 17,tm 18,tm 19 with
 | [],(.sl jM),(.sl BT),(.sl gR),(.int .i64 eF),(.int .i64 js)=>bO.l61 F bx n jM BT gR eF js H
 | _,_,_,_,_,_=>none
def bO.lh (bx:as2) (p:Nat) (ks:as7) (n:Nat) (tm:Tm) (H:Hp):OA:=bif p.beq 61 then bO.lh61 F bx ks n tm H else (none)
def bO.tb:Nat->List (List Nat):=cQ [(6,[[],[],[1],[0,1,2],[0,1,2,3],[0,1,2,3,4],[],[],[7],[6,7,8],[6,7,8,9],[6,7,8,9,10],[],[],[13],[12,13,14],[12,13,14,15],[12,13,14,15,16],[0,1,2,3,4,5],[0,1,2,3,4,5,6,7,8,9,10,11,18],[0,1,2,3,4,5,6,7,8,9,10,11,12,13,14,15,16,17,18,19]])]
def bO.cs (F:Nat) (bx:as2):Cs:=[(91,mk4 bx)]
theorem bO.loops (bx:as2):LO (aY (bO.cs F bx)) aJ (bO.lh F bx) F Try.f124:=
 (ae.rt (ae.rt (ae.rt (ae.lt (ae.rt (ae.block (ae.la (λn tm H r h=>by change bO.lh61 F bx [] n tm H=_ at h;unfold bO.lh61 at h;split at h;have e:bK tm [(3,_),(5,_),(17,_),(18,_),(19,_)]:=⟨‹_›,‹_›,‹_›,‹_›,‹_›,trivial⟩;obtain _ | k61:=n;cases h;exact ⟨_,rfl,by rw [<- bM e];exact Eq.trans (by kernel_rfl) h⟩;cases h) λk61=>ae.no)))))))
theorem bO.eqX (bx:as2) (aa:Sl) (af:Int) (H:Hp):EX (aY (bO.cs F bx)) aJ (bO.lh F bx) F Try.f124 [(.agg [(.sl aa),(.int .i64 af)])] H=bO.twX F bx aa af H:=by kernel_rfl
theorem bO.k:Ok Try.prog 124 (mk4 (bO.tw F)):=by
 intro args H v H' h
 unfold mk4 at h
 split at h
 ·exact okT (TB:=bO.tb) Try.func124 (aM (bg.k F) bA) (bO.loops F (bg.tw F)) ((bO.eqX F (bg.tw F) _ _ H).trans h) (by kernel_rfl)
 ·cases h
def dx.twX (F:Nat) (aa:Sl) (H:Hp):OA:=(bif (aa.a.isNone) then (some ((.sl (⟨none,0,.ex 0⟩:Sl)),H)) else ((Hp.new H []).bind λH2=>(Sl.row H2 aa 1).bind λxs4=>(Hp.app H2 1 8 (⟨some (H.length,0),0,.ex 0⟩:Sl) aa.n xs4).bind λa3=>some ((.sl a3.1),a3.2)))
def dx.tw:=dx.twX F
theorem dx.k:Ok Try.prog 126 (mk3 (dx.tw F)):=by
 intro args H v H' h
 unfold mk3 at h
 split at h
 ·exact ok0 Try.func126 (Eq.trans (by kernel_rfl) h) (by kernel_rfl) (by kernel_rfl)
 ·cases h
def aV.j1 (F:Nat) (ci:as4) (uA:Nat) (HD:Nat) (kE:Nat) (ob:Nat) (H54:Hp):OA:=(Hp.ldSl H54 uA (HD+1)).bind λs55=>(bif ((s55.n:Int)==0) then ((Hp.st H54 kE ob (.int .i64 0)).bind λH56=>(Hp.st H56 kE (ob+1) (.sl (⟨none,0,.ex 0⟩:Sl))).bind λH57=>(Hp.ldI H57 .i64 kE ob).bind λn58=>(Hp.ldSl H57 kE (ob+1)).bind λs59=>some ((.agg [(.int .i64 n58),(.sl s59)]),H57)) else ((Hp.ldI H54 .i64 uA HD).bind λn60=>(Hp.ldSl H54 uA (HD+1)).bind λs61=>(ci s61 H54).bind λr62=>((r62.1).asSl).bind λs63=>(if aZ H54 r62.2 then ((Hp.st r62.2 kE ob (.int .i64 n60)).bind λH64=>(Hp.st H64 kE (ob+1) (.sl s63)).bind λH65=>(Hp.ldI H65 .i64 kE ob).bind λn66=>(Hp.ldSl H65 kE (ob+1)).bind λs67=>some ((.agg [(.int .i64 n66),(.sl s67)]),H65)) else none)))
def aV.l14 (F:Nat) (ci:as4) :Nat->Nat->Nat->Nat->Nat->Hp->OA
 | 0,_,_,_,_,_=>none
 | Hv+1,eS,kF,mR,xl,H36=>(Hp.ldSl H36 eS (kF+1)).bind λs68=>(bif (decide ((s68.n:Int)>0)) then ((Hp.ldSl H36 eS (kF+1)).bind λs69=>(Hp.ldSl H36 eS (kF+1)).bind λs70=>(Sl.idx s69 (wrap .i64 ((s70.n:Int) - 1)) 1).bind λp71=>(Hp.ldI H36 .i64 p71.1 p71.2).bind λn72=>(bif (n72==0) then ((Hp.ldSl H36 eS (kF+1)).bind λs73=>(Hp.ldSl H36 eS (kF+1)).bind λs74=>(Sl.cut s73 1 0 (wrap .i64 ((s74.n:Int) - 1))).bind λs75=>(Hp.st H36 eS (kF+1) (.sl s75)).bind λH76=>aV.l14 F ci Hv eS kF mR xl H76) else (aV.j1 F ci eS kF mR xl H36))) else (aV.j1 F ci eS kF mR xl H36))
termination_by structural n=>n
def aV.j2 (ci:as4) (BU:Nat) (ah1:Nat) (lX:Nat) (ah2:Nat) (H28:Hp):OA:=aV.l14 F ci F BU ah1 lX ah2 H28
def aV.l6 (F:Nat) (ci:as4) :Nat->Nat->Nat->Nat->Nat->Hp->OA
 | 0,_,_,_,_,_=>none
 | ah3+1,dd,ct,fD,xm,H11=>(Hp.ldSl H11 dd (ct+1)).bind λs77=>(bif (decide ((s77.n:Int)>0)) then ((Hp.ldSl H11 dd (ct+1)).bind λs78=>(Sl.idx s78 0 1).bind λp79=>(Hp.ldI H11 .i64 p79.1 p79.2).bind λn80=>(bif (n80==0) then ((Hp.ldI H11 .i64 dd ct).bind λn81=>(Hp.st H11 dd ct (.int .i64 (wrap .i64 (n81+1)))).bind λH82=>(Hp.ldSl H82 dd (ct+1)).bind λs83=>(Sl.cut s83 1 1 (s83.n:Int)).bind λs84=>(Hp.st H82 dd (ct+1) (.sl s84)).bind λH85=>aV.l6 F ci ah3 dd ct fD xm H85) else (aV.j2 F ci dd ct fD xm H11))) else (aV.j2 F ci dd ct fD xm H11))
termination_by structural n=>n
def aV.twX (ci:as4) (aa:Int) (af:Sl) (H:Hp):OA:=(Hp.new H [(.int .i64 aa),(.sl af)]).bind λH3=>(Hp.new H3 [.int .i64 0,.sl ⟨none,0,.ex 0⟩]).bind λH4=>aV.l6 F ci F H.length 0 H3.length 0 H4
def aV.tw:=aV.twX F (dx.tw F)
def aV.lh6 (ci:as4) (ks:as7) (n:Nat) (tm:Tm) (H:Hp):OA:=match ks,tm 1,tm 2 with
 | [],(.ptr dd ct),(.ptr fD xm)=>aV.l6 F ci n dd ct fD xm H
 | _,_,_=>none
def aV.lh14 (ci:as4) (ks:as7) (n:Nat) (tm:Tm) (H:Hp):OA:=match ks,tm 1,tm 2 with
 | [],(.ptr eS kF),(.ptr mR xl)=>aV.l14 F ci n eS kF mR xl H
 | _,_,_=>none
def aV.lh (ci:as4) (p:Nat) (ks:as7) (n:Nat) (tm:Tm) (H:Hp):OA:=bif p.beq 14 then aV.lh14 F ci ks n tm H else (bif p.beq 6 then aV.lh6 F ci ks n tm H else (none))
def aV.pn:Nat->List Nat:=cQ [(8,[6])]
def aV.tb:Nat->List (List Nat):=cQ [(8,[[],[0],[],[2],[2,3],[0,1,2,3,4],[0,1,2,3,4,5]])]
def aV.cs (F:Nat) (ci:as4):Cs:=[(126,mk3 ci)]
theorem aV.loops (ci:as4):LO (aY (aV.cs F ci)) aV.pn (aV.lh F ci) F Try.f144:=
 (ae.rt (ae.seq (ae.block (ae.la (λn tm H r h=>by change aV.lh6 F ci [] n tm H=_ at h;unfold aV.lh6 at h;split at h;have e:bK tm [(1,_),(2,_)]:=⟨‹_›,‹_›,trivial⟩;obtain _ | k6:=n;cases h;exact ⟨_,rfl,by rw [<- bM e];exact Eq.trans (by kernel_rfl) h⟩;cases h) λk6=>ae.no)) (ae.lt (ae.block (ae.la (λn tm H r h=>by change aV.lh14 F ci [] n tm H=_ at h;unfold aV.lh14 at h;split at h;have e:bK tm [(1,_),(2,_)]:=⟨‹_›,‹_›,trivial⟩;obtain _ | k14:=n;cases h;exact ⟨_,rfl,by rw [<- bM e];exact Eq.trans (by kernel_rfl) h⟩;cases h) λk14=>ae.no)))))
theorem aV.eqX (ci:as4) (aa:Int) (af:Sl) (H:Hp):EX (aY (aV.cs F ci)) aV.pn (aV.lh F ci) F Try.f144 [(.agg [(.int .i64 aa),(.sl af)])] H=aV.twX F ci aa af H:=by kernel_rfl
theorem aV.k:Ok Try.prog 144 (mk10 (aV.tw F)):=by
 intro args H v H' h
 unfold mk10 at h
 split at h
 ·exact okT (TB:=aV.tb) Try.func144 (aM (dx.k F) bA) (aV.loops F (dx.tw F)) ((aV.eqX F (dx.tw F) _ _ H).trans h) (by kernel_rfl)
 ·cases h
def cl.twX (F:Nat) (jt:as5) (aa:Int) (aA:Int) (H:Hp):OA:=(Hp.new H [.int .i64 0,.sl ⟨none,0,.ex 0⟩]).bind λH3=>(Hp.new H3 [(.int .i64 aa)]).bind λH4=>(jt aA (⟨some (H3.length,0),1,.ex 1⟩:Sl) H4).bind λr5=>((r5.1).asAgg 2).bind λl6=>(l6[0]?).bind λv7=>((v7).asI .i64).bind λn8=>(l6[1]?).bind λv9=>((v9).asSl).bind λs10=>(Hp.st r5.2 H.length 0 (.int .i64 n8)).bind λH11=>(Hp.st H11 H.length (0+1) (.sl s10)).bind λH12=>(Hp.ldI H12 .i64 H.length 0).bind λn13=>(Hp.ldSl H12 H.length (0+1)).bind λs14=>some ((.agg [(.int .i64 n13),(.sl s14)]),H12)
def cl.tw:=cl.twX F (aV.tw F)
def mk18 (g:atd) (args:atg) (H:Hp):OA:=match args with
 | [(.int .i64 aa),(.int .i64 aA)]=>g aa aA H
 | _=>none
theorem mk18_E (g:atd) (aa:Int) (aA:Int) (H:Hp):mk18 g [(.int .i64 aa),(.int .i64 aA)] H=g aa aA H:=rfl
def cl.cs (F:Nat) (jt:as5):Cs:=[(144,mk10 jt)]
theorem cl.eqX (jt:as5) (aa:Int) (aA:Int) (H:Hp):EX (aY (cl.cs F jt)) aJ lh0 F Try.f127 [(.int .i64 aa),(.int .i64 aA)] H=cl.twX F jt aa aA H:=by kernel_rfl
theorem cl.k:Ok Try.prog 127 (mk18 (cl.tw F)):=by
 intro args H v H' h
 unfold mk18 at h
 split at h
 ·exact okT (TB:=aJ) Try.func127 (aM (aV.k F) bA) ae.no ((cl.eqX F (aV.tw F) _ _ H).trans h) (by kernel_rfl)
 ·cases h
def fU.twX (F:Nat) (aa:Sl) (H:Hp):OA:=some ((.int .i64 (aa.n:Int)),H)
def fU.tw:=fU.twX F
theorem fU.k:Ok Try.prog 140 (mk3 (fU.tw F)):=by
 intro args H v H' h
 unfold mk3 at h
 split at h
 ·exact ok0 Try.func140 (Eq.trans (by kernel_rfl) h) (by kernel_rfl) (by kernel_rfl)
 ·cases h
def cN.twX (F:Nat) (uB:as4) (aa:Int) (af:Sl) (H:Hp):OA:=(Hp.new H [(.int .i64 aa),(.sl af)]).bind λH3=>(Hp.ldI H3 .i64 H.length 0).bind λn4=>(Hp.ldSl H3 H.length 1).bind λs5=>(uB s5 H3).bind λr6=>((r6.1).asI .i64).bind λn7=>(if aZ H3 r6.2 then (some ((.int .i64 (wrap .i64 ((wrap .i64 (n4+n7)) - 1))),r6.2)) else none)
def cN.tw:=cN.twX F (fU.tw F)
def cN.tb:Nat->List (List Nat):=cQ [(1,[[],[0],[],[2],[2,3],[0,1,2,3,4],[0,1,2,3,4,5],[0,1,2,3,4,5,6]])]
def cN.cs (F:Nat) (uB:as4):Cs:=[(140,mk3 uB)]
theorem cN.eqX (uB:as4) (aa:Int) (af:Sl) (H:Hp):EX (aY (cN.cs F uB)) aJ lh0 F Try.f117 [(.agg [(.int .i64 aa),(.sl af)])] H=cN.twX F uB aa af H:=by kernel_rfl
theorem cN.k:Ok Try.prog 117 (mk10 (cN.tw F)):=by
 intro args H v H' h
 unfold mk10 at h
 split at h
 ·exact okT (TB:=cN.tb) Try.func117 (aM (fU.k F) bA) ae.no ((cN.eqX F (fU.tw F) _ _ H).trans h) (by kernel_rfl)
 ·cases h
def eu.twX (F:Nat) (ft:atc) (aa:Int) (H:Hp):OA:=(ft aa (-1000000000000) 1000000000000 H).bind λr2=>((r2.1).asB).bind λb3=>some ((.bool (!b3)),r2.2)
def eu.tw:=eu.twX F (dw.tw F)
def eu.cs (F:Nat) (ft:atc):Cs:=[(63,mk5 ft)]
theorem eu.eqX (ft:atc) (aa:Int) (H:Hp):EX (aY (eu.cs F ft)) aJ lh0 F Try.f119 [(.int .i64 aa)] H=eu.twX F ft aa H:=by kernel_rfl
theorem eu.k:Ok Try.prog 119 (mk12 (eu.tw F)):=by
 intro args H v H' h
 unfold mk12 at h
 split at h
 ·exact okT (TB:=aJ) Try.func119 (aM (dw.k F) bA) ae.no ((eu.eqX F (dw.tw F) _ H).trans h) (by kernel_rfl)
 ·cases h
def cg.l13 (F:Nat) (gf:as_) :Nat->Sl->Int->Int->Hp->OA
 | 0,_,_,_,_=>none
 | mE+1,iQ,de,cv,H6=>(bif (decide (cv<de)) then ((Sl.idx iQ cv 1).bind λp11=>(Hp.ldI H6 .i64 p11.1 p11.2).bind λn12=>(gf n12 H6).bind λr13=>((r13.1).asB).bind λb14=>(bif b14 then (some ((.int .i64 cv),r13.2)) else (cg.l13 F gf mE iQ de (wrap .i64 (cv+1)) r13.2))) else (some ((.int .i64 (-1)),H6)))
def cg.twX (gf:as_) (aa:Sl) (H:Hp):OA:=cg.l13 F gf F aa (aa.n:Int) 0 H
def cg.tw:=cg.twX F (eu.tw F)
def cg.lh13 (gf:as_) (ks:as7) (n:Nat) (tm:Tm) (H:Hp):OA:=match ks,tm 0,tm 1,tm 7,tm 8 with
 | [],(.sl iQ),(.fn 119 []),(.int .i64 de),(.int .i64 cv)=>cg.l13 F gf n iQ de cv H
 | _,_,_,_,_=>none
def cg.lh (gf:as_) (p:Nat) (ks:as7) (n:Nat) (tm:Tm) (H:Hp):OA:=bif p.beq 13 then cg.lh13 F gf ks n tm H else (none)
def mk19 (g:as4) (args:atg) (H:Hp):OA:=match args with
 | [(.sl aa),(.fn 119 [])]=>g aa H
 | _=>none
theorem mk19_E (g:as4) (aa:Sl) (H:Hp):mk19 g [(.sl aa),(.fn 119 [])] H=g aa H:=rfl
def cg.cs (F:Nat) (gf:as_):Cs:=[(119,mk12 gf)]
theorem cg.loops (gf:as_):LO (aY (cg.cs F gf)) aJ (cg.lh F gf) F Try.f141:=
 (ae.rt (ae.lt (ae.rt (ae.block (ae.la (λn tm H r h=>by change cg.lh13 F gf [] n tm H=_ at h;unfold cg.lh13 at h;split at h;have e:bK tm [(0,_),(1,_),(7,_),(8,_)]:=⟨‹_›,‹_›,‹_›,‹_›,trivial⟩;obtain _ | k13:=n;cases h;exact ⟨_,rfl,by rw [<- bM e];exact Eq.trans (by kernel_rfl) h⟩;cases h) λk13=>ae.no)))))
theorem cg.eqX (gf:as_) (aa:Sl) (H:Hp):EX (aY (cg.cs F gf)) aJ (cg.lh F gf) F Try.f141 [(.sl aa),(.fn 119 [])] H=cg.twX F gf aa H:=by kernel_rfl
theorem cg.k:Ok Try.prog 141 (mk19 (cg.tw F)):=by
 intro args H v H' h
 unfold mk19 at h
 split at h
 ·exact okT (TB:=aJ) Try.func141 (aM (eu.k F) bA) (cg.loops F (eu.tw F)) ((cg.eqX F (eu.tw F) _ H).trans h) (by kernel_rfl)
 ·cases h
def eM.twX (F:Nat) (uC:as4) (aa:Sl) (H:Hp):OA:=(uC aa H).bind λr2=>((r2.1).asI .i64).bind λn3=>some ((.bool (decide (n3>=0))),r2.2)
def eM.tw:=eM.twX F (cg.tw F)
def eM.cs (F:Nat) (uC:as4):Cs:=[(141,mk19 uC)]
theorem eM.eqX (uC:as4) (aa:Sl) (H:Hp):EX (aY (eM.cs F uC)) aJ lh0 F Try.f118 [(.sl aa),(.fn 119 [])] H=eM.twX F uC aa H:=by kernel_rfl
theorem eM.k:Ok Try.prog 118 (mk19 (eM.tw F)):=by
 intro args H v H' h
 unfold mk19 at h
 split at h
 ·exact okT (TB:=aJ) Try.func118 (aM (cg.k F) bA) ae.no ((eM.eqX F (cg.tw F) _ H).trans h) (by kernel_rfl)
 ·cases h
def cO.twX (F:Nat) (cP:as5) (uD:as4) (aa:Int) (af:Sl) (H:Hp):OA:=(Hp.new H [(.int .i64 aa),(.sl af)]).bind λH3=>(Hp.ldSl H3 H.length 1).bind λs4=>(bif ((s4.n:Int)==0) then ((Hp.ldI H3 .i64 H.length 0).bind λn5=>some ((.bool (n5==0)),H3)) else ((bif (decide ((s4.n:Int)<=160)) then ((Hp.ldSl H3 H.length 1).bind λs6=>(Sl.idx s6 0 1).bind λp7=>(Hp.ldI H3 .i64 p7.1 p7.2).bind λn8=>(bif (n8 != 0) then ((Hp.ldSl H3 H.length 1).bind λs9=>(Sl.idx s9 (wrap .i64 ((s4.n:Int) - 1)) 1).bind λp10=>(Hp.ldI H3 .i64 p10.1 p10.2).bind λn11=>(bif (n11 != 0) then ((Hp.ldI H3 .i64 H.length 0).bind λn12=>(bif (decide (n12>=(-240))) then ((Hp.ldI H3 .i64 H.length 0).bind λn13=>(Hp.ldSl H3 H.length (0+1)).bind λs14=>(cP n13 s14 H3).bind λr15=>((r15.1).asI .i64).bind λn16=>(bif (decide (n16<=240)) then ((Hp.ldI r15.2 .i64 H.length 0).bind λn17=>(bif (decide (n17<=240)) then ((Hp.ldSl r15.2 H.length 1).bind λs18=>(uD s18 r15.2).bind λr19=>((r19.1).asB).bind λb20=>some ((.bool (!b20)),r19.2)) else (some ((.bool false),r15.2)))) else (some ((.bool false),r15.2)))) else (some ((.bool false),H3)))) else (some ((.bool false),H3)))) else (some ((.bool false),H3)))) else (some ((.bool false),H3)))))
def cO.tw:=cO.twX F (cN.tw F) (eM.tw F)
def cO.cs (F:Nat) (cP:as5) (uD:as4):Cs:=[(117,mk10 cP),(118,mk19 uD)]
theorem cO.eqX (cP:as5) (uD:as4) (aa:Int) (af:Sl) (H:Hp):EX (aY (cO.cs F cP uD)) aJ lh0 F Try.f86 [(.agg [(.int .i64 aa),(.sl af)])] H=cO.twX F cP uD aa af H:=by kernel_rfl
theorem cO.k:Ok Try.prog 86 (mk10 (cO.tw F)):=by
 intro args H v H' h
 unfold mk10 at h
 split at h
 ·exact okT (TB:=aJ) Try.func86 (aM (cN.k F) (aM (eM.k F) bA)) ae.no ((cO.eqX F (cN.tw F) (eM.tw F) _ _ H).trans h) (by kernel_rfl)
 ·cases h
def eg.twX (F:Nat) (c_:as5) (aa:Int) (af:Sl) (H:Hp):OA:=(Hp.new H [(.int .i64 aa),(.sl af)]).bind λH3=>(Hp.ldI H3 .i64 H.length 0).bind λn4=>(Hp.ldSl H3 H.length (0+1)).bind λs5=>(c_ n4 s5 H3).bind λr6=>((r6.1).asB).bind λb7=>some ((.bool (!b7)),r6.2)
def eg.tw:=eg.twX F (cO.tw F)
def eg.cs (F:Nat) (c_:as5):Cs:=[(86,mk10 c_)]
theorem eg.eqX (c_:as5) (aa:Int) (af:Sl) (H:Hp):EX (aY (eg.cs F c_)) aJ lh0 F Try.f157 [(.agg [(.int .i64 aa),(.sl af)])] H=eg.twX F c_ aa af H:=by kernel_rfl
theorem eg.k:Ok Try.prog 157 (mk10 (eg.tw F)):=by
 intro args H v H' h
 unfold mk10 at h
 split at h
 ·exact okT (TB:=aJ) Try.func157 (aM (cO.k F) bA) ae.no ((eg.eqX F (cO.tw F) _ _ H).trans h) (by kernel_rfl)
 ·cases h
def bZ.l13 (F:Nat) (gg:as5) :Nat->Sl->Int->Int->Hp->OA
 | 0,_,_,_,_=>none
 | mE+1,iQ,de,cv,H6=>(bif (decide (cv<de)) then ((Sl.idx iQ cv 2).bind λp12=>(Hp.ldI H6 .i64 p12.1 p12.2).bind λn13=>(Hp.ldSl H6 p12.1 (p12.2+1)).bind λs14=>(gg n13 s14 H6).bind λr15=>((r15.1).asB).bind λb16=>(bif b16 then (some ((.int .i64 cv),r15.2)) else (bZ.l13 F gg mE iQ de (wrap .i64 (cv+1)) r15.2))) else (some ((.int .i64 (-1)),H6)))
def bZ.twX (gg:as5) (aa:Sl) (H:Hp):OA:=bZ.l13 F gg F aa (aa.n:Int) 0 H
def bZ.tw:=bZ.twX F (eg.tw F)
def bZ.lh13 (gg:as5) (ks:as7) (n:Nat) (tm:Tm) (H:Hp):OA:=match ks,tm 0,tm 1,tm 7,tm 8 with
 | [],(.sl iQ),(.fn 157 []),(.int .i64 de),(.int .i64 cv)=>bZ.l13 F gg n iQ de cv H
 | _,_,_,_,_=>none
def bZ.lh (gg:as5) (p:Nat) (ks:as7) (n:Nat) (tm:Tm) (H:Hp):OA:=bif p.beq 13 then bZ.lh13 F gg ks n tm H else (none)
def mk20 (g:as4) (args:atg) (H:Hp):OA:=match args with
 | [(.sl aa),(.fn 157 [])]=>g aa H
 | _=>none
theorem mk20_E (g:as4) (aa:Sl) (H:Hp):mk20 g [(.sl aa),(.fn 157 [])] H=g aa H:=rfl
def bZ.cs (F:Nat) (gg:as5):Cs:=[(157,mk10 gg)]
theorem bZ.loops (gg:as5):LO (aY (bZ.cs F gg)) aJ (bZ.lh F gg) F Try.f159:=
 (ae.rt (ae.lt (ae.rt (ae.block (ae.la (λn tm H r h=>by change bZ.lh13 F gg [] n tm H=_ at h;unfold bZ.lh13 at h;split at h;have e:bK tm [(0,_),(1,_),(7,_),(8,_)]:=⟨‹_›,‹_›,‹_›,‹_›,trivial⟩;obtain _ | k13:=n;cases h;exact ⟨_,rfl,by rw [<- bM e];exact Eq.trans (by kernel_rfl) h⟩;cases h) λk13=>ae.no)))))
theorem bZ.eqX (gg:as5) (aa:Sl) (H:Hp):EX (aY (bZ.cs F gg)) aJ (bZ.lh F gg) F Try.f159 [(.sl aa),(.fn 157 [])] H=bZ.twX F gg aa H:=by kernel_rfl
theorem bZ.k:Ok Try.prog 159 (mk20 (bZ.tw F)):=by
 intro args H v H' h
 unfold mk20 at h
 split at h
 ·exact okT (TB:=aJ) Try.func159 (aM (eg.k F) bA) (bZ.loops F (eg.tw F)) ((bZ.eqX F (eg.tw F) _ H).trans h) (by kernel_rfl)
 ·cases h
def eN.twX (F:Nat) (uE:as4) (aa:Sl) (H:Hp):OA:=(uE aa H).bind λr2=>((r2.1).asI .i64).bind λn3=>some ((.bool (decide (n3>=0))),r2.2)
def eN.tw:=eN.twX F (bZ.tw F)
def eN.cs (F:Nat) (uE:as4):Cs:=[(159,mk20 uE)]
theorem eN.eqX (uE:as4) (aa:Sl) (H:Hp):EX (aY (eN.cs F uE)) aJ lh0 F Try.f156 [(.sl aa),(.fn 157 [])] H=eN.twX F uE aa H:=by kernel_rfl
theorem eN.k:Ok Try.prog 156 (mk20 (eN.tw F)):=by
 intro args H v H' h
 unfold mk20 at h
 split at h
 ·exact okT (TB:=aJ) Try.func156 (aM (bZ.k F) bA) ae.no ((eN.eqX F (bZ.tw F) _ H).trans h) (by kernel_rfl)
 ·cases h
def cH.twX (F:Nat) (uF:as4) (aa:Sl) (H:Hp):OA:=(uF aa H).bind λr2=>((r2.1).asB).bind λb3=>some ((.bool (!b3)),r2.2)
def cH.tw:=cH.twX F (eN.tw F)
def cH.cs (F:Nat) (uF:as4):Cs:=[(156,mk20 uF)]
theorem cH.eqX (uF:as4) (aa:Sl) (H:Hp):EX (aY (cH.cs F uF)) aJ lh0 F Try.f150 [(.sl aa)] H=cH.twX F uF aa H:=by kernel_rfl
theorem cH.k:Ok Try.prog 150 (mk3 (cH.tw F)):=by
 intro args H v H' h
 unfold mk3 at h
 split at h
 ·exact okT (TB:=aJ) Try.func150 (aM (eN.k F) bA) ae.no ((cH.eqX F (eN.tw F) _ H).trans h) (by kernel_rfl)
 ·cases h
def cI.twX (F:Nat) (jt:as5) (c_:as5) (aa:Int) (af:Sl) (H:Hp):OA:=(Hp.new H [(.int .i64 aa),(.sl af)]).bind λH3=>(Hp.new H3 [.int .i64 0,.sl ⟨none,0,.ex 0⟩]).bind λH4=>(Hp.ldI H4 .i64 H.length 0).bind λn5=>(Hp.ldSl H4 H.length (0+1)).bind λs6=>(jt n5 s6 H4).bind λr7=>((r7.1).asAgg 2).bind λl8=>(l8[0]?).bind λv9=>((v9).asI .i64).bind λn10=>(l8[1]?).bind λv11=>((v11).asSl).bind λs12=>(Hp.st r7.2 H.length 0 (.int .i64 n10)).bind λH13=>(Hp.st H13 H.length (0+1) (.sl s12)).bind λH14=>(Hp.ldI H14 .i64 H.length 0).bind λn15=>(Hp.ldSl H14 H.length (0+1)).bind λs16=>(c_ n15 s16 H14).bind λr17=>((r17.1).asB).bind λb18=>(bif (!b18) then ((Hp.st r17.2 H3.length 0 (.int .i64 0)).bind λH19=>(Hp.st H19 H3.length (0+1) (.sl (⟨none,0,.ex 0⟩:Sl))).bind λH20=>(Hp.ldI H20 .i64 H3.length 0).bind λn21=>(Hp.ldSl H20 H3.length (0+1)).bind λs22=>some ((.tup [(.agg [(.int .i64 n21),(.sl s22)]),(.int .i64 3)]),H20)) else ((Hp.ldI r17.2 .i64 H.length 0).bind λn23=>(Hp.ldSl r17.2 H.length (0+1)).bind λs24=>(Hp.st r17.2 H3.length 0 (.int .i64 n23)).bind λH25=>(Hp.st H25 H3.length (0+1) (.sl s24)).bind λH26=>(Hp.ldI H26 .i64 H3.length 0).bind λn27=>(Hp.ldSl H26 H3.length (0+1)).bind λs28=>some ((.tup [(.agg [(.int .i64 n27),(.sl s28)]),(.int .i64 0)]),H26)))
def cI.tw:=cI.twX F (aV.tw F) (cO.tw F)
def cI.cs (F:Nat) (jt:as5) (c_:as5):Cs:=[(144,mk10 jt),(86,mk10 c_)]
theorem cI.eqX (jt:as5) (c_:as5) (aa:Int) (af:Sl) (H:Hp):EX (aY (cI.cs F jt c_)) aJ lh0 F Try.f153 [(.agg [(.int .i64 aa),(.sl af)])] H=cI.twX F jt c_ aa af H:=by kernel_rfl
theorem cI.k:Ok Try.prog 153 (mk10 (cI.tw F)):=by
 intro args H v H' h
 unfold mk10 at h
 split at h
 ·exact okT (TB:=aJ) Try.func153 (aM (aV.k F) (aM (cO.k F) bA)) ae.no ((cI.eqX F (aV.tw F) (cO.tw F) _ _ H).trans h) (by kernel_rfl)
 ·cases h
def aN.j3 (F:Nat) (bG:as4) (cP:as5) (bH:as5) (pM:Nat) (BV:Nat) (xn:Nat) (Vi:Nat) (H176:Hp):OA:=(Hp.ldI H176 .i64 xn Vi).bind λn177=>(Hp.ldSl H176 xn (Vi+1)).bind λs178=>(bH n177 s178 H176).bind λr179=>((r179.1).asTup 2).bind λl180=>(l180[0]?).bind λv181=>((v181).asAgg 2).bind λl182=>(l182[0]?).bind λv183=>((v183).asI .i64).bind λn184=>(l182[1]?).bind λv185=>((v185).asSl).bind λs186=>(l180[1]?).bind λv187=>((v187).asI .i64).bind λn188=>(Hp.st r179.2 pM BV (.int .i64 n184)).bind λH189=>(Hp.st H189 pM (BV+1) (.sl s186)).bind λH190=>(Hp.ldI H190 .i64 pM BV).bind λn191=>(Hp.ldSl H190 pM (BV+1)).bind λs192=>some ((.tup [(.agg [(.int .i64 n191),(.sl s192)]),(.int .i64 n188)]),H190)
def aN.j4 (F:Nat) (bG:as4) (cP:as5) (bH:as5) (C125_:atJ) (BW:Nat) (HE:Nat) (lY:Int) (BX:Nat) (ah4:Nat) (ah5:Sl) (uG:Int) (uH:Int) (H284:Hp):OA:=C125_ BW HE lY BX ah4 ah5 uG (wrap .i64 (uH+1)) H284
def aN.j5 (bG:as4) (cP:as5) (bH:as5) (C125_:atJ) (BY:Nat) (ah6:Nat) (uI:Int) (BZ:Nat) (ah7:Nat) (ah8:Sl) (uJ:Int) (uK:Int) (H258:Hp):OA:=aN.j4 F bG cP bH C125_ BY ah6 uI BZ ah7 ah8 uJ uK H258
def aN.l8027 (F:Nat) (bG:as4) (cP:as5) (bH:as5) (C125_:atJ):Nat->Nat->Nat->Int->Nat->Nat->Sl->Int->Int->Nat->Nat->Sl->Int->Int->Hp->OA
 | 0,_,_,_,_,_,_,_,_,_,_,_,_,_,_=>none
 | HF+1,oc,B_,il,mS,xo,Ca,kG,kH,od,Cb,Cc,kI,gF,H224=>(bif (decide (gF<kI)) then ((Sl.idx Cc gF 1).bind λp285=>(Hp.ldI H224 .i64 p285.1 p285.2).bind λn286=>(Hp.ldSl H224 mS (xo+1)).bind λs287=>(Hp.ldI H224 .i64 od Cb).bind λn288=>(Sl.idx s287 (wrap .i64 ((wrap .i64 (n288 - il))+gF)) 1).bind λp289=>(Hp.ldI H224 .i64 p289.1 p289.2).bind λn290=>(Sl.idx s287 (wrap .i64 ((wrap .i64 (n288 - il))+gF)) 1).bind λp291=>(Hp.st H224 p291.1 p291.2 (.int .i64 (wrap .i64 (n290+n286)))).bind λH292=>aN.l8027 F bG cP bH C125_ HF oc B_ il mS xo Ca kG kH od Cb Cc kI (wrap .i64 (gF+1)) H292) else (aN.j5 F bG cP bH C125_ oc B_ il mS xo Ca kG kH H224))
termination_by structural n=>n
def aN.l125 (F:Nat) (bG:as4) (cP:as5) (bH:as5) :Nat->Nat->Nat->Int->Nat->Nat->Sl->Int->Int->Hp->OA
 | 0,_,_,_,_,_,_,_,_,_=>none
 | fL+1,oe,Cd,mT,og,Ce,Cf,kJ,ju,H56=>(bif (decide (ju<kJ)) then ((Sl.idx Cf ju 2).bind λp193=>(Hp.ldI H56 .i64 p193.1 p193.2).bind λn194=>(Hp.ldSl H56 p193.1 (p193.2+1)).bind λs195=>(Hp.new H56 [.int .i64 0,.sl ⟨none,0,.ex 0⟩]).bind λH196=>(Hp.st H196 H56.length 0 (.int .i64 n194)).bind λH197=>(Hp.st H197 H56.length (0+1) (.sl s195)).bind λH198=>(Hp.ldSl H198 H56.length 1).bind λs199=>aN.l8027 F bG cP bH (aN.l125 F bG cP bH fL) F oe Cd mT og Ce Cf kJ ju H56.length 0 s199 (s199.n:Int) 0 H198) else (aN.j3 F bG cP bH oe Cd og Ce H56))
termination_by structural n=>n
def aN.twX (bG:as4) (cP:as5) (bH:as5) (aa:Int) (af:Sl) (au:Int) (bu:Sl) (H:Hp):OA:=(Hp.new H [(.int .i64 aa),(.sl af)]).bind λH5=>(Hp.new H5 [(.int .i64 au),(.sl bu)]).bind λH6=>(Hp.new H6 [.int .i64 0,.sl ⟨none,0,.ex 0⟩]).bind λH7=>(Hp.ldI H7 .i64 H.length 0).bind λn8=>(Hp.ldSl H7 H.length (0+1)).bind λs9=>(Hp.ldI H7 .i64 H5.length 0).bind λn10=>(Hp.ldSl H7 H5.length (0+1)).bind λs11=>(Hp.new H7 [(.int .i64 n8),(.sl s9),(.int .i64 n10),(.sl s11)]).bind λH12=>(bG (⟨some (H7.length,0),2,.ex 2⟩:Sl) H12).bind λr13=>((r13.1).asB).bind λb14=>(bif (!b14) then ((Hp.st r13.2 H6.length 0 (.int .i64 0)).bind λH15=>(Hp.st H15 H6.length (0+1) (.sl (⟨none,0,.ex 0⟩:Sl))).bind λH16=>(Hp.ldI H16 .i64 H6.length 0).bind λn17=>(Hp.ldSl H16 H6.length (0+1)).bind λs18=>some ((.tup [(.agg [(.int .i64 n17),(.sl s18)]),(.int .i64 1)]),H16)) else ((Hp.ldI r13.2 .i64 H.length 0).bind λn19=>(Hp.ldI r13.2 .i64 H5.length 0).bind λn20=>(Hp.ldI r13.2 .i64 H.length 0).bind λn21=>(Hp.ldSl r13.2 H.length (0+1)).bind λs22=>(cP n21 s22 r13.2).bind λr23=>((r23.1).asI .i64).bind λn24=>(if aZ r13.2 r23.2 then ((Hp.ldI r23.2 .i64 H5.length 0).bind λn25=>(Hp.ldSl r23.2 H5.length (0+1)).bind λs26=>(cP n25 s26 r23.2).bind λr27=>((r27.1).asI .i64).bind λn28=>(if aZ r23.2 r27.2 then ((Hp.mk r27.2 [.int .i64 0] 8 (wrap .i64 ((wrap .i64 ((if (if n20<n19 then n20 else n19)>(if n28>n24 then n28 else n24) then (if n20<n19 then n20 else n19) else (if n28>n24 then n28 else n24)) - (if n20<n19 then n20 else n19)))+1)) (wrap .i64 ((wrap .i64 ((if (if n20<n19 then n20 else n19)>(if n28>n24 then n28 else n24) then (if n20<n19 then n20 else n19) else (if n28>n24 then n28 else n24)) - (if n20<n19 then n20 else n19)))+1))).bind λm29=>(Hp.new m29.2 [.int .i64 0,.sl ⟨none,0,.ex 0⟩]).bind λH30=>(Hp.st H30 m29.2.length 0 (.int .i64 (if n20<n19 then n20 else n19))).bind λH31=>(Hp.st H31 m29.2.length (0+1) (.sl m29.1)).bind λH32=>(Hp.ldI H32 .i64 H.length 0).bind λn33=>(Hp.ldSl H32 H.length (0+1)).bind λs34=>(Hp.ldI H32 .i64 H5.length 0).bind λn35=>(Hp.ldSl H32 H5.length (0+1)).bind λs36=>(Hp.new H32 [(.int .i64 n33),(.sl s34),(.int .i64 n35),(.sl s36)]).bind λH37=>aN.l125 F bG cP bH F H6.length 0 (if n20<n19 then n20 else n19) m29.2.length 0 (⟨some (H32.length,0),2,.ex 2⟩:Sl) ((⟨some (H32.length,0),2,.ex 2⟩:Sl).n:Int) 0 H37) else none)) else none)))
def aN.tw:=aN.twX F (cH.tw F) (cN.tw F) (cI.tw F)
def aN.lh125 (bG:as4) (cP:as5) (bH:as5) (ks:as7) (n:Nat) (tm:Tm) (H:Hp):OA:=match ks,tm 4,tm 6,tm 7,tm 37,tm 38,tm 39 with
 | [],(.ptr oe Cd),(.int .i64 mT),(.ptr og Ce),(.sl Cf),(.int .i64 kJ),(.int .i64 ju)=>aN.l125 F bG cP bH n oe Cd mT og Ce Cf kJ ju H
 | _,_,_,_,_,_,_=>none
def aN.lh8027 (bG:as4) (cP:as5) (bH:as5) (ks:as7) (n:Nat) (tm:Tm) (H:Hp):OA:=match ks,tm 4,tm 6,tm 7,tm 9,tm 37,tm 38,tm 39,tm 44,tm 45,tm 46 with
 | [fL],(.ptr oc B_),(.int .i64 il),(.ptr mS xo),(.ptr od Cb),(.sl Ca),(.int .i64 kG),(.int .i64 kH),(.sl Cc),(.int .i64 kI),(.int .i64 gF)=>aN.l8027 F bG cP bH (aN.l125 F bG cP bH fL) n oc B_ il mS xo Ca kG kH od Cb Cc kI gF H
 | _,_,_,_,_,_,_,_,_,_,_=>none
def aN.lh (bG:as4) (cP:as5) (bH:as5) (p:Nat) (ks:as7) (n:Nat) (tm:Tm) (H:Hp):OA:=bif p.beq 8027 then aN.lh8027 F bG cP bH ks n tm H else (bif p.beq 125 then aN.lh125 F bG cP bH ks n tm H else (none))
def aN.pn:Nat->List Nat:=cQ [(4,[13])]
def aN.tb:Nat->List (List Nat):=cQ [(4,[[],[],[1],[],[1,2,3],[],[1,2,3,4,5],[],[1,2,3,4,5,6,7],[1,2,3,4,5,6,7,8],[1,2,3,4,5,6,7,8,9],[0,1,2,3,4,5,6,7,8,9,10],[],[0,1,2,3,4,5,6,7,8,9,10,11,12]])]
def aN.cs (F:Nat) (bG:as4) (cP:as5) (bH:as5):Cs:=[(150,mk3 bG),(117,mk10 cP),(153,mk10 bH)]
theorem aN.loops (bG:as4) (cP:as5) (bH:as5):LO (aY (aN.cs F bG cP bH)) aN.pn (aN.lh F bG cP bH) F Try.f146:=
 (ae.rt (ae.rt (ae.rt (ae.rt (ae.lt (ae.rt (ae.block (ae.la (λn tm H r h=>by change aN.lh125 F bG cP bH [] n tm H=_ at h;unfold aN.lh125 at h;split at h;have e:bK tm [(4,_),(6,_),(7,_),(37,_),(38,_),(39,_)]:=⟨‹_›,‹_›,‹_›,‹_›,‹_›,‹_›,trivial⟩;obtain _ | k125:=n;cases h;exact ⟨_,rfl,by rw [<- bM e];exact Eq.trans (by kernel_rfl) h⟩;cases h) λk125=>(ae.rt (ae.rt (ae.lt (ae.block (ae.rt (ae.rt (ae.block (ae.la (λn tm H r h=>by change aN.lh8027 F bG cP bH [k125] n tm H=_ at h;unfold aN.lh8027 at h;split at h;have e:bK tm [(4,_),(6,_),(7,_),(9,_),(37,_),(38,_),(39,_),(44,_),(45,_),(46,_)]:=⟨‹_›,‹_›,‹_›,‹_›,‹_›,‹_›,‹_›,‹_›,‹_›,‹_›,trivial⟩;cases (show [k125]=_ from ‹_›);obtain _ | k8027:=n;cases h;exact ⟨_,rfl,by rw [<- bM e];exact Eq.trans (by kernel_rfl) h⟩;cases h) λk8027=>ae.no))))))))))))))))
theorem aN.eqX (bG:as4) (cP:as5) (bH:as5) (aa:Int) (af:Sl) (au:Int) (bu:Sl) (H:Hp):EX (aY (aN.cs F bG cP bH)) aN.pn (aN.lh F bG cP bH) F Try.f146 [(.agg [(.int .i64 aa),(.sl af)]),(.agg [(.int .i64 au),(.sl bu)])] H=aN.twX F bG cP bH aa af au bu H:=by kernel_rfl
theorem aN.k:Ok Try.prog 146 (mk9 (aN.tw F)):=by
 intro args H v H' h
 unfold mk9 at h
 split at h
 ·exact okT (TB:=aN.tb) Try.func146 (aM (cH.k F) (aM (cN.k F) (aM (cI.k F) bA))) (aN.loops F (cH.tw F) (cN.tw F) (cI.tw F)) ((aN.eqX F (cH.tw F) (cN.tw F) (cI.tw F) _ _ _ _ H).trans h) (by kernel_rfl)
 ·cases h
def cp.twX (F:Nat) (uL:as8) (aa:Int) (af:Sl) (au:Int) (bu:Sl) (H:Hp):OA:=(Hp.new H [(.int .i64 aa),(.sl af)]).bind λH5=>(Hp.new H5 [(.int .i64 au),(.sl bu)]).bind λH6=>(Hp.new H6 [.int .i64 0,.sl ⟨none,0,.ex 0⟩]).bind λH7=>(Hp.ldI H7 .i64 H.length 0).bind λn8=>(Hp.ldSl H7 H.length (0+1)).bind λs9=>(Hp.ldI H7 .i64 H5.length 0).bind λn10=>(Hp.ldSl H7 H5.length (0+1)).bind λs11=>(uL n8 s9 n10 s11 H7).bind λr12=>((r12.1).asTup 2).bind λl13=>(l13[0]?).bind λv14=>((v14).asAgg 2).bind λl15=>(l15[0]?).bind λv16=>((v16).asI .i64).bind λn17=>(l15[1]?).bind λv18=>((v18).asSl).bind λs19=>(l13[1]?).bind λv20=>((v20).asI .i64).bind λn21=>(Hp.new r12.2 [.int .i64 0,.sl ⟨none,0,.ex 0⟩]).bind λH22=>(Hp.st H22 r12.2.length 0 (.int .i64 n17)).bind λH23=>(Hp.st H23 r12.2.length (0+1) (.sl s19)).bind λH24=>(Hp.ldI H24 .i64 r12.2.length 0).bind λn25=>(Hp.ldSl H24 r12.2.length (0+1)).bind λs26=>(Hp.st H24 H6.length 0 (.int .i64 n25)).bind λH27=>(Hp.st H27 H6.length (0+1) (.sl s26)).bind λH28=>(Hp.ldI H28 .i64 H6.length 0).bind λn29=>(Hp.ldSl H28 H6.length (0+1)).bind λs30=>some ((.agg [(.int .i64 n29),(.sl s30)]),H28)
def cp.tw:=cp.twX F (aN.tw F)
def cp.cs (F:Nat) (uL:as8):Cs:=[(146,mk9 uL)]
theorem cp.eqX (uL:as8) (aa:Int) (af:Sl) (au:Int) (bu:Sl) (H:Hp):EX (aY (cp.cs F uL)) aJ lh0 F Try.f129 [(.agg [(.int .i64 aa),(.sl af)]),(.agg [(.int .i64 au),(.sl bu)])] H=cp.twX F uL aa af au bu H:=by kernel_rfl
theorem cp.k:Ok Try.prog 129 (mk9 (cp.tw F)):=by
 intro args H v H' h
 unfold mk9 at h
 split at h
 ·exact okT (TB:=aJ) Try.func129 (aM (aN.k F) bA) ae.no ((cp.eqX F (aN.tw F) _ _ _ _ H).trans h) (by kernel_rfl)
 ·cases h
def el.twX (F:Nat) (aa:Int) (H:Hp):OA:=(bif (decide (aa<0)) then (some ((.int .i64 (-1)),H)) else (some ((.int .i64 1),H)))
def el.tw:=el.twX F
theorem el.k:Ok Try.prog 143 (mk12 (el.tw F)):=by
 intro args H v H' h
 unfold mk12 at h
 split at h
 ·exact ok0 Try.func143 (Eq.trans (by kernel_rfl) h) (by kernel_rfl) (by kernel_rfl)
 ·cases h
def aU.j4 (F:Nat) (bo:atd) (bq:as8) (dX:as_) (C61_:atK) (uM:Int) (Cg:Nat) (ah9:Nat) (Ch:Nat) (ah_:Nat) (uN:Int) (uO:Int) (aia:Sl) (uP:Int) (uQ:Int) (H139:Hp):OA:=(dX uO H139).bind λr140=>((r140.1).asI .i64).bind λn141=>C61_ uM Cg ah9 Ch ah_ (wrap .i64 (uN+n141)) aia uP (wrap .i64 (uQ+1)) r140.2
def aU.j5 (F:Nat) (bo:atd) (bq:as8) (dX:as_) (C61_:atK) (uR:Int) (Ci:Nat) (aib:Nat) (Cj:Nat) (aic:Nat) (uS:Int) (uT:Int) (aid:Sl) (uU:Int) (uV:Int) (H189:Hp):OA:=(dX uT H189).bind λr190=>((r190.1).asI .i64).bind λn191=>C61_ uR Ci aib Cj aic (wrap .i64 (uS+n191)) aid uU (wrap .i64 (uV+1)) r190.2
def aU.j6 (bo:atd) (bq:as8) (dX:as_) (C61_:atK) (uW:Int) (Ck:Nat) (aie:Nat) (Cl:Nat) (aif:Nat) (uX:Int) (uY:Int) (aig:Sl) (uZ:Int) (u_:Int) (H173:Hp):OA:=aU.j5 F bo bq dX C61_ uW Ck aie Cl aif uX uY aig uZ u_ H173
def aU.l61 (F:Nat) (bo:atd) (bq:as8) (dX:as_) :Nat->Int->Nat->Nat->Nat->Nat->Int->Sl->Int->Int->Hp->OA
 | 0,_,_,_,_,_,_,_,_,_,_=>none
 | bE+1,gG,fK,mU,fV,im,dA,vd,ip,gH,H15=>(bif (decide (gH<ip)) then ((Sl.idx vd gH 1).bind λp107=>(Hp.ldI H15 .i64 p107.1 p107.2).bind λn108=>(bif (n108==gG) then ((Hp.ldI H15 .i64 fV im).bind λn109=>(Hp.ldSl H15 fV (im+1)).bind λs110=>(bo 1 dA H15).bind λr111=>((r111.1).asAgg 2).bind λl112=>(l112[0]?).bind λv113=>((v113).asI .i64).bind λn114=>(l112[1]?).bind λv115=>((v115).asSl).bind λs116=>(if aZ H15 r111.2 then ((bq n109 s110 n114 s116 r111.2).bind λr117=>((r117.1).asAgg 2).bind λl118=>(l118[0]?).bind λv119=>((v119).asI .i64).bind λn120=>(l118[1]?).bind λv121=>((v121).asSl).bind λs122=>(Hp.st r117.2 fV im (.int .i64 n120)).bind λH123=>(Hp.st H123 fV (im+1) (.sl s122)).bind λH124=>aU.j4 F bo bq dX (aU.l61 F bo bq dX bE) gG fK mU fV im dA n108 vd ip gH H124) else none)) else ((bif (n108==(wrap .i64 (0 - gG))) then ((Hp.ldI H15 .i64 fV im).bind λn142=>(Hp.ldSl H15 fV (im+1)).bind λs143=>(bo (-1) (wrap .i64 (dA - 1)) H15).bind λr144=>((r144.1).asAgg 2).bind λl145=>(l145[0]?).bind λv146=>((v146).asI .i64).bind λn147=>(l145[1]?).bind λv148=>((v148).asSl).bind λs149=>(if aZ H15 r144.2 then ((bq n142 s143 n147 s149 r144.2).bind λr150=>((r150.1).asAgg 2).bind λl151=>(l151[0]?).bind λv152=>((v152).asI .i64).bind λn153=>(l151[1]?).bind λv154=>((v154).asSl).bind λs155=>(Hp.st r150.2 fV im (.int .i64 n153)).bind λH156=>(Hp.st H156 fV (im+1) (.sl s155)).bind λH157=>aU.j6 F bo bq dX (aU.l61 F bo bq dX bE) gG fK mU fV im dA n108 vd ip gH H157) else none)) else (aU.j6 F bo bq dX (aU.l61 F bo bq dX bE) gG fK mU fV im dA n108 vd ip gH H15))))) else ((Hp.ldI H15 .i64 fV im).bind λn192=>(Hp.ldSl H15 fV (im+1)).bind λs193=>(Hp.st H15 fK mU (.int .i64 n192)).bind λH194=>(Hp.st H194 fK (mU+1) (.sl s193)).bind λH195=>(Hp.ldI H195 .i64 fK mU).bind λn196=>(Hp.ldSl H195 fK (mU+1)).bind λs197=>some ((.agg [(.int .i64 n196),(.sl s197)]),H195)))
termination_by structural n=>n
def aU.twX (bo:atd) (bq:as8) (dX:as_) (aa:Sl) (aA:Int) (H:Hp):OA:=(Hp.new H [.int .i64 0,.sl ⟨none,0,.ex 0⟩]).bind λH3=>(Hp.new H3 [.int .i64 0,.sl ⟨none,0,.ex 0⟩]).bind λH4=>aU.l61 F bo bq dX F aA H.length 0 H3.length 0 0 aa (aa.n:Int) 0 H4
def aU.tw:=aU.twX F (cl.tw F) (cp.tw F) (el.tw F)
def aU.lh61 (bo:atd) (bq:as8) (dX:as_) (ks:as7) (n:Nat) (tm:Tm) (H:Hp):OA:=match ks,tm 1,tm 4,tm 5,tm 6,tm 9,tm 10,tm 11 with
 | [],(.int .i64 gG),(.ptr fK mU),(.ptr fV im),(.int .i64 dA),(.sl vd),(.int .i64 ip),(.int .i64 gH)=>aU.l61 F bo bq dX n gG fK mU fV im dA vd ip gH H
 | _,_,_,_,_,_,_,_=>none
def aU.lh (bo:atd) (bq:as8) (dX:as_) (p:Nat) (ks:as7) (n:Nat) (tm:Tm) (H:Hp):OA:=bif p.beq 61 then aU.lh61 F bo bq dX ks n tm H else (none)
def aU.pn:Nat->List Nat:=cQ [(8,[3,4]),(10,[4,5])]
def aU.tb:Nat->List (List Nat):=cQ [(8,[[],[],[1],[0,1,2],[0,1,2,3]]),(10,[[],[],[1],[1,2],[0,1,2,3],[0,1,2,3,4]])]
def aU.cs (F:Nat) (bo:atd) (bq:as8) (dX:as_):Cs:=[(127,mk18 bo),(129,mk9 bq),(143,mk12 dX)]
theorem aU.loops (bo:atd) (bq:as8) (dX:as_):LO (aY (aU.cs F bo bq dX)) aU.pn (aU.lh F bo bq dX) F Try.f125:=
 (ae.rt (ae.rt (ae.rt (ae.lt (ae.rt (ae.block (ae.la (λn tm H r h=>by change aU.lh61 F bo bq dX [] n tm H=_ at h;unfold aU.lh61 at h;split at h;have e:bK tm [(1,_),(4,_),(5,_),(6,_),(9,_),(10,_),(11,_)]:=⟨‹_›,‹_›,‹_›,‹_›,‹_›,‹_›,‹_›,trivial⟩;obtain _ | k61:=n;cases h;exact ⟨_,rfl,by rw [<- bM e];exact Eq.trans (by kernel_rfl) h⟩;cases h) λk61=>ae.no)))))))
theorem aU.eqX (bo:atd) (bq:as8) (dX:as_) (aa:Sl) (aA:Int) (H:Hp):EX (aY (aU.cs F bo bq dX)) aU.pn (aU.lh F bo bq dX) F Try.f125 [(.sl aa),(.int .i64 aA)] H=aU.twX F bo bq dX aa aA H:=by kernel_rfl
theorem aU.k:Ok Try.prog 125 (mk0 (aU.tw F)):=by
 intro args H v H' h
 unfold mk0 at h
 split at h
 ·exact okT (TB:=aU.tb) Try.func125 (aM (cl.k F) (aM (cp.k F) (aM (el.k F) bA))) (aU.loops F (cl.tw F) (cp.tw F) (el.tw F)) ((aU.eqX F (cl.tw F) (cp.tw F) (el.tw F) _ _ H).trans h) (by kernel_rfl)
 ·cases h
def aX.j3 (F:Nat) (bx:as2) (dJ:as2) (dK:as2) (C61_:atL) (ve:Int) (aih:Sl) (aii:Sl) (vf:Int) (vg:Int) (H163:Hp):OA:=C61_ ve aih aii vf (wrap .i64 (vg+1)) H163
def aX.j4 (bx:as2) (dJ:as2) (dK:as2) (C61_:atL) (vh:Int) (aij:Sl) (aik:Sl) (ail:Sl) (vi:Int) (vj:Int) (H143:Hp):OA:=(Hp.new H143 [(.sl aik)]).bind λH144=>(Sl.row H144 (⟨some (H143.length,0),1,.ex 1⟩:Sl) 1).bind λxs146=>(Hp.app H144 1 24 aij (⟨some (H143.length,0),1,.ex 1⟩:Sl).n xs146).bind λa145=>aX.j3 F bx dJ dK C61_ vh a145.1 ail vi vj a145.2
def aX.l15725 (F:Nat) (bx:as2) (dJ:as2) (dK:as2) (C61_:atL):Nat->Int->Sl->Sl->Int->Int->Sl->Sl->Int->Int->Hp->OA
 | 0,_,_,_,_,_,_,_,_,_,_=>none
 | HB+1,kK,Cm,Cn,kL,kM,Co,Cp,kN,jv,H117=>(bif (decide (jv<kN)) then ((dK Co (wrap .i64 (jv+1)) H117).bind λr164=>((r164.1).asAgg 2).bind λl165=>(l165[0]?).bind λv166=>((v166).asI .i64).bind λn167=>(l165[1]?).bind λv168=>((v168).asSl).bind λs169=>(Hp.new r164.2 [(.int .i64 n167),(.sl s169)]).bind λH170=>(Sl.row H170 (⟨some (r164.2.length,0),1,.ex 1⟩:Sl) 2).bind λxs172=>(Hp.app H170 2 32 Cp (⟨some (r164.2.length,0),1,.ex 1⟩:Sl).n xs172).bind λa171=>aX.l15725 F bx dJ dK C61_ HB kK Cm Cn kL kM Co a171.1 kN (wrap .i64 (jv+1)) a171.2) else (aX.j4 F bx dJ dK C61_ kK Cm Cp Cn kL kM H117))
def aX.l61 (F:Nat) (bx:as2) (dJ:as2) (dK:as2) :Nat->Int->Sl->Sl->Int->Int->Hp->OA
 | 0,_,_,_,_,_,_=>none
 | bE+1,kO,lW,Cq,kP,jw,H26=>(bif (decide (jw<kP)) then ((Sl.idx Cq jw 1).bind λp100=>(Hp.ldSl H26 p100.1 p100.2).bind λs101=>aX.l15725 F bx dJ dK (aX.l61 F bx dJ dK bE) F kO lW Cq kP jw s101 (⟨none,0,.ex 0⟩:Sl) kO 0 H26) else (some ((.sl lW),H26)))
def aX.twX (bx:as2) (dJ:as2) (dK:as2) (aa:Sl) (af:Int) (H:Hp):OA:=(Hp.new H [(.sl aa),(.int .i64 af)]).bind λH3=>(Hp.ldSl H3 H.length 0).bind λs4=>(Hp.ldI H3 .i64 H.length (0+1)).bind λn5=>(bx s4 n5 H3).bind λr6=>((r6.1).asTup 2).bind λl7=>(l7[0]?).bind λv8=>((v8).asSl).bind λs9=>(l7[1]?).bind λv10=>((v10).asI .i64).bind λn11=>(Hp.ldSl r6.2 H.length 0).bind λs12=>(Hp.ldI r6.2 .i64 H.length (0+1)).bind λn13=>(dJ s12 n13 r6.2).bind λr14=>((r14.1).asSl).bind λs15=>aX.l61 F bx dJ dK F n11 (⟨none,0,.ex 0⟩:Sl) s15 (s15.n:Int) 0 r14.2
def aX.tw:=aX.twX F (bg.tw F) (bO.tw F) (aU.tw F)
def aX.lh61 (bx:as2) (dJ:as2) (dK:as2) (ks:as7) (n:Nat) (tm:Tm) (H:Hp):OA:=match ks,tm 4,tm 5,tm 16,tm 17,tm 18 with
 | [],(.int .i64 kO),(.sl lW),(.sl Cq),(.int .i64 kP),(.int .i64 jw)=>aX.l61 F bx dJ dK n kO lW Cq kP jw H
 | _,_,_,_,_,_=>none
def aX.lh15725 (bx:as2) (dJ:as2) (dK:as2) (ks:as7) (n:Nat) (tm:Tm) (H:Hp):OA:=match ks,tm 4,tm 5,tm 7,tm 8,tm 16,tm 17,tm 18,tm 22,tm 23 with
 | [bE],(.int .i64 kK),(.sl Cm),(.sl Co),(.sl Cp),(.sl Cn),(.int .i64 kL),(.int .i64 kM),(.int .i64 kN),(.int .i64 jv)=>aX.l15725 F bx dJ dK (aX.l61 F bx dJ dK bE) n kK Cm Cn kL kM Co Cp kN jv H
 | _,_,_,_,_,_,_,_,_,_=>none
def aX.lh (bx:as2) (dJ:as2) (dK:as2) (p:Nat) (ks:as7) (n:Nat) (tm:Tm) (H:Hp):OA:=bif p.beq 15725 then aX.lh15725 F bx dJ dK ks n tm H else (bif p.beq 61 then aX.lh61 F bx dJ dK ks n tm H else (none))
def aX.cs (F:Nat) (bx:as2) (dJ:as2) (dK:as2):Cs:=[(91,mk4 bx),(124,mk4 dJ),(125,mk0 dK)]
theorem aX.loops (bx:as2) (dJ:as2) (dK:as2):LO (aY (aX.cs F bx dJ dK)) aJ (aX.lh F bx dJ dK) F Try.f90:=
 (ae.rt (ae.rt (ae.rt (ae.lt (ae.rt (ae.block (ae.la (λn tm H r h=>by change aX.lh61 F bx dJ dK [] n tm H=_ at h;unfold aX.lh61 at h;split at h;have e:bK tm [(4,_),(5,_),(16,_),(17,_),(18,_)]:=⟨‹_›,‹_›,‹_›,‹_›,‹_›,trivial⟩;obtain _ | k61:=n;cases h;exact ⟨_,rfl,by rw [<- bM e];exact Eq.trans (by kernel_rfl) h⟩;cases h) λk61=>(ae.rt (ae.rt (ae.lt (ae.block (ae.rt (ae.rt (ae.lt (ae.rt (ae.block (ae.la (λn tm H r h=>by change aX.lh15725 F bx dJ dK [k61] n tm H=_ at h;unfold aX.lh15725 at h;split at h;have e:bK tm [(4,_),(5,_),(7,_),(8,_),(16,_),(17,_),(18,_),(22,_),(23,_)]:=⟨‹_›,‹_›,‹_›,‹_›,‹_›,‹_›,‹_›,‹_›,‹_›,trivial⟩;cases (show [k61]=_ from ‹_›);obtain _ | k15725:=n;cases h;exact ⟨_,rfl,by rw [<- bM e];exact Eq.trans (by kernel_rfl) h⟩;cases h) λk15725=>ae.no)))))))))))))))))
theorem aX.eqX (bx:as2) (dJ:as2) (dK:as2) (aa:Sl) (af:Int) (H:Hp):EX (aY (aX.cs F bx dJ dK)) aJ (aX.lh F bx dJ dK) F Try.f90 [(.agg [(.sl aa),(.int .i64 af)])] H=aX.twX F bx dJ dK aa af H:=by kernel_rfl
theorem aX.k:Ok Try.prog 90 (mk4 (aX.tw F)):=by
 intro args H v H' h
 unfold mk4 at h
 split at h
 ·exact okT (TB:=aJ) Try.func90 (aM (bg.k F) (aM (bO.k F) (aM (aU.k F) bA))) (aX.loops F (bg.tw F) (bO.tw F) (aU.tw F)) ((aX.eqX F (bg.tw F) (bO.tw F) (aU.tw F) _ _ H).trans h) (by kernel_rfl)
 ·cases h
def eo.twX (F:Nat) (aa:Sl) (H:Hp):OA:=some ((.int .i64 (aa.n:Int)),H)
def eo.tw:=eo.twX F
theorem eo.k:Ok Try.prog 92 (mk3 (eo.tw F)):=by
 intro args H v H' h
 unfold mk3 at h
 split at h
 ·exact ok0 Try.func92 (Eq.trans (by kernel_rfl) h) (by kernel_rfl) (by kernel_rfl)
 ·cases h
def df.twX (F:Nat) (aa:Int) (H:Hp):OA:=(bif (decide (aa<0)) then (some ((.int .i64 (wrap .i64 (0 - aa))),H)) else (some ((.int .i64 aa),H)))
def df.tw:=df.twX F
theorem df.k:Ok Try.prog 35 (mk12 (df.tw F)):=by
 intro args H v H' h
 unfold mk12 at h
 split at h
 ·exact ok0 Try.func35 (Eq.trans (by kernel_rfl) h) (by kernel_rfl) (by kernel_rfl)
 ·cases h
def bL.l29 (F:Nat) (dr:as_) :Nat->Int->Sl->Int->Int->Hp->OA
 | 0,_,_,_,_,_=>none
 | gU+1,eA,Ct,kQ,jx,H14=>(bif (decide (jx<kQ)) then ((Sl.idx Ct jx 1).bind λp19=>(Hp.ldI H14 .i64 p19.1 p19.2).bind λn20=>(dr n20 H14).bind λr21=>((r21.1).asI .i64).bind λn22=>bL.l29 F dr gU (wrap .i64 (eA+n22)) Ct kQ (wrap .i64 (jx+1)) r21.2) else (some ((.int .i64 eA),H14)))
def bL.twX (dr:as_) (aa:Int) (af:Sl) (H:Hp):OA:=(Hp.new H [(.int .i64 aa),(.sl af)]).bind λH3=>(Hp.ldSl H3 H.length 1).bind λs4=>bL.l29 F dr F 0 s4 (s4.n:Int) 0 H3
def bL.tw:=bL.twX F (df.tw F)
def bL.lh29 (dr:as_) (ks:as7) (n:Nat) (tm:Tm) (H:Hp):OA:=match ks,tm 3,tm 7,tm 8,tm 9 with
 | [],(.int .i64 eA),(.sl Ct),(.int .i64 kQ),(.int .i64 jx)=>bL.l29 F dr n eA Ct kQ jx H
 | _,_,_,_,_=>none
def bL.lh (dr:as_) (p:Nat) (ks:as7) (n:Nat) (tm:Tm) (H:Hp):OA:=bif p.beq 29 then bL.lh29 F dr ks n tm H else (none)
def bL.cs (F:Nat) (dr:as_):Cs:=[(35,mk12 dr)]
theorem bL.loops (dr:as_):LO (aY (bL.cs F dr)) aJ (bL.lh F dr) F Try.f152:=
 (ae.rt (ae.rt (ae.lt (ae.rt (ae.block (ae.la (λn tm H r h=>by change bL.lh29 F dr [] n tm H=_ at h;unfold bL.lh29 at h;split at h;have e:bK tm [(3,_),(7,_),(8,_),(9,_)]:=⟨‹_›,‹_›,‹_›,‹_›,trivial⟩;obtain _ | k29:=n;cases h;exact ⟨_,rfl,by rw [<- bM e];exact Eq.trans (by kernel_rfl) h⟩;cases h) λk29=>ae.no))))))
theorem bL.eqX (dr:as_) (aa:Int) (af:Sl) (H:Hp):EX (aY (bL.cs F dr)) aJ (bL.lh F dr) F Try.f152 [(.agg [(.int .i64 aa),(.sl af)])] H=bL.twX F dr aa af H:=by kernel_rfl
theorem bL.k:Ok Try.prog 152 (mk10 (bL.tw F)):=by
 intro args H v H' h
 unfold mk10 at h
 split at h
 ·exact okT (TB:=aJ) Try.func152 (aM (df.k F) bA) (bL.loops F (df.tw F)) ((bL.eqX F (df.tw F) _ _ H).trans h) (by kernel_rfl)
 ·cases h
def dB.twX (F:Nat) (dr:as_) (aa:Int) (aA:Int) (cL:Int) (H:Hp):OA:=(bif (aa != 0) then ((dr aA H).bind λr4=>((r4.1).asI .i64).bind λn5=>(dr aa r4.2).bind λr6=>((r6.1).asI .i64).bind λn7=>(if n7=0 then none else ((bif (decide (n5>(wrap .i64 (Int.tdiv cL n7)))) then (some ((.tup [(.int .i64 0),(.bool false)]),r6.2)) else (some ((.tup [(.int .i64 (wrap .i64 (aa * aA))),(.bool true)]),r6.2)))))) else (some ((.tup [(.int .i64 (wrap .i64 (aa * aA))),(.bool true)]),H)))
def dB.tw:=dB.twX F (df.tw F)
def dB.cs (F:Nat) (dr:as_):Cs:=[(35,mk12 dr)]
theorem dB.eqX (dr:as_) (aa:Int) (aA:Int) (cL:Int) (H:Hp):EX (aY (dB.cs F dr)) aJ lh0 F Try.f151 [(.int .i64 aa),(.int .i64 aA),(.int .i64 cL)] H=dB.twX F dr aa aA cL H:=by kernel_rfl
theorem dB.k:Ok Try.prog 151 (mk5 (dB.tw F)):=by
 intro args H v H' h
 unfold mk5 at h
 split at h
 ·exact okT (TB:=aJ) Try.func151 (aM (df.k F) bA) ae.no ((dB.eqX F (df.tw F) _ _ _ H).trans h) (by kernel_rfl)
 ·cases h
def aQ.j3 (F:Nat) (bG:as4) (dt:as5) (dy:atc) (bH:as5) (jO:Nat) (tn:Nat) (xp:Nat) (Vj:Nat) (H183:Hp):OA:=(Hp.ldI H183 .i64 xp Vj).bind λn184=>(Hp.ldSl H183 xp (Vj+1)).bind λs185=>(bH n184 s185 H183).bind λr186=>((r186.1).asTup 2).bind λl187=>(l187[0]?).bind λv188=>((v188).asAgg 2).bind λl189=>(l189[0]?).bind λv190=>((v190).asI .i64).bind λn191=>(l189[1]?).bind λv192=>((v192).asSl).bind λs193=>(l187[1]?).bind λv194=>((v194).asI .i64).bind λn195=>(Hp.st r186.2 jO tn (.int .i64 n191)).bind λH196=>(Hp.st H196 jO (tn+1) (.sl s193)).bind λH197=>(Hp.ldI H197 .i64 jO tn).bind λn198=>(Hp.ldSl H197 jO (tn+1)).bind λs199=>some ((.tup [(.agg [(.int .i64 n198),(.sl s199)]),(.int .i64 n195)]),H197)
def aQ.j4 (F:Nat) (bG:as4) (dt:as5) (dy:atc) (bH:as5) (C125_:atD) (Cu:Nat) (aim:Nat) (Cv:Nat) (ain:Nat) (Cw:Nat) (aio:Nat) (aip:Sl) (vk:Int) (vl:Int) (H289:Hp):OA:=C125_ Cu aim Cv ain Cw aio aip vk (wrap .i64 (vl+1)) H289
def aQ.j5 (bG:as4) (dt:as5) (dy:atc) (bH:as5) (C125_:atD) (Cx:Nat) (aiq:Nat) (Cy:Nat) (air:Nat) (Cz:Nat) (ais:Nat) (ait:Sl) (vm:Int) (vn:Int) (H262:Hp):OA:=aQ.j4 F bG dt dy bH C125_ Cx aiq Cy air Cz ais ait vm vn H262
def aQ.l8027 (F:Nat) (bG:as4) (dt:as5) (dy:atc) (bH:as5) (C125_:atD):Nat->Nat->Nat->Nat->Nat->Nat->Nat->Sl->Int->Int->Int->Int->Sl->Int->Int->Hp->OA
 | 0,_,_,_,_,_,_,_,_,_,_,_,_,_,_,_=>none
 | HF+1,oh,CA,ol,CB,mV,xq,CC,kR,kS,jy,kT,CD,kU,gI,H228=>(bif (decide (gI<kU)) then ((Sl.idx CD gI 1).bind λp290=>(Hp.ldI H228 .i64 p290.1 p290.2).bind λn291=>(Hp.ldSl H228 mV (xq+1)).bind λs292=>(Sl.idx s292 (wrap .i64 (jy+gI)) 1).bind λp293=>(Hp.ldI H228 .i64 p293.1 p293.2).bind λn294=>(Sl.idx s292 (wrap .i64 (jy+gI)) 1).bind λp295=>(Hp.st H228 p295.1 p295.2 (.int .i64 (wrap .i64 (n294+(wrap .i64 (kT * n291)))))).bind λH296=>aQ.l8027 F bG dt dy bH C125_ HF oh CA ol CB mV xq CC kR kS jy kT CD kU (wrap .i64 (gI+1)) H296) else (aQ.j5 F bG dt dy bH C125_ oh CA ol CB mV xq CC kR kS H228))
termination_by structural n=>n
def aQ.l125 (F:Nat) (bG:as4) (dt:as5) (dy:atc) (bH:as5) :Nat->Nat->Nat->Nat->Nat->Nat->Nat->Sl->Int->Int->Hp->OA
 | 0,_,_,_,_,_,_,_,_,_,_=>none
 | fL+1,om,CE,oq,CF,ou,CG,CH,kV,iq,H65=>(bif (decide (iq<kV)) then ((Sl.idx CH iq 1).bind λp200=>(Hp.ldI H65 .i64 p200.1 p200.2).bind λn201=>(Hp.ldSl H65 om (CE+1)).bind λs202=>aQ.l8027 F bG dt dy bH (aQ.l125 F bG dt dy bH fL) F om CE oq CF ou CG CH kV iq iq n201 s202 (s202.n:Int) 0 H65) else (aQ.j3 F bG dt dy bH oq CF ou CG H65))
termination_by structural n=>n
def aQ.twX (bG:as4) (dt:as5) (dy:atc) (bH:as5) (aa:Int) (af:Sl) (au:Int) (bu:Sl) (H:Hp):OA:=(Hp.new H [(.int .i64 aa),(.sl af)]).bind λH5=>(Hp.new H5 [(.int .i64 au),(.sl bu)]).bind λH6=>(Hp.new H6 [.int .i64 0,.sl ⟨none,0,.ex 0⟩]).bind λH7=>(Hp.ldI H7 .i64 H.length 0).bind λn8=>(Hp.ldSl H7 H.length (0+1)).bind λs9=>(Hp.ldI H7 .i64 H5.length 0).bind λn10=>(Hp.ldSl H7 H5.length (0+1)).bind λs11=>(Hp.new H7 [(.int .i64 n8),(.sl s9),(.int .i64 n10),(.sl s11)]).bind λH12=>(bG (⟨some (H7.length,0),2,.ex 2⟩:Sl) H12).bind λr13=>((r13.1).asB).bind λb14=>(bif (!b14) then ((Hp.st r13.2 H6.length 0 (.int .i64 0)).bind λH15=>(Hp.st H15 H6.length (0+1) (.sl (⟨none,0,.ex 0⟩:Sl))).bind λH16=>(Hp.ldI H16 .i64 H6.length 0).bind λn17=>(Hp.ldSl H16 H6.length (0+1)).bind λs18=>some ((.tup [(.agg [(.int .i64 n17),(.sl s18)]),(.int .i64 1)]),H16)) else ((Hp.ldI r13.2 .i64 H.length 0).bind λn19=>(Hp.ldSl r13.2 H.length (0+1)).bind λs20=>(dt n19 s20 r13.2).bind λr21=>((r21.1).asI .i64).bind λn22=>(if aZ r13.2 r21.2 then ((Hp.ldI r21.2 .i64 H5.length 0).bind λn23=>(Hp.ldSl r21.2 H5.length (0+1)).bind λs24=>(dt n23 s24 r21.2).bind λr25=>((r25.1).asI .i64).bind λn26=>(dy n22 n26 1000000000000 r25.2).bind λr27=>((r27.1).asTup 2).bind λl28=>(l28[0]?).bind λv29=>((v29).asI .i64).bind λn30=>(l28[1]?).bind λv31=>((v31).asB).bind λb32=>(bif (!b32) then ((Hp.st r27.2 H6.length 0 (.int .i64 0)).bind λH33=>(Hp.st H33 H6.length (0+1) (.sl (⟨none,0,.ex 0⟩:Sl))).bind λH34=>(Hp.ldI H34 .i64 H6.length 0).bind λn35=>(Hp.ldSl H34 H6.length (0+1)).bind λs36=>some ((.tup [(.agg [(.int .i64 n35),(.sl s36)]),(.int .i64 3)]),H34)) else ((Hp.ldI r27.2 .i64 H.length 0).bind λn37=>(Hp.ldI r27.2 .i64 H5.length 0).bind λn38=>(Hp.ldSl r27.2 H.length 1).bind λs39=>(Hp.ldSl r27.2 H5.length 1).bind λs40=>(Hp.mk r27.2 [.int .i64 0] 8 (wrap .i64 ((s39.n:Int)+(s40.n:Int))) (wrap .i64 ((s39.n:Int)+(s40.n:Int)))).bind λm41=>(Hp.new m41.2 [.int .i64 0,.sl ⟨none,0,.ex 0⟩]).bind λH42=>(Hp.st H42 m41.2.length 0 (.int .i64 (wrap .i64 (n37+n38)))).bind λH43=>(Hp.st H43 m41.2.length (0+1) (.sl m41.1)).bind λH44=>(Hp.ldSl H44 H.length 1).bind λs45=>aQ.l125 F bG dt dy bH F H5.length 0 H6.length 0 m41.2.length 0 s45 (s45.n:Int) 0 H44))) else none)))
def aQ.tw:=aQ.twX F (cH.tw F) (bL.tw F) (dB.tw F) (cI.tw F)
def aQ.lh125 (bG:as4) (dt:as5) (dy:atc) (bH:as5) (ks:as7) (n:Nat) (tm:Tm) (H:Hp):OA:=match ks,tm 3,tm 4,tm 8,tm 45,tm 46,tm 47 with
 | [],(.ptr om CE),(.ptr oq CF),(.ptr ou CG),(.sl CH),(.int .i64 kV),(.int .i64 iq)=>aQ.l125 F bG dt dy bH n om CE oq CF ou CG CH kV iq H
 | _,_,_,_,_,_,_=>none
def aQ.lh8027 (bG:as4) (dt:as5) (dy:atc) (bH:as5) (ks:as7) (n:Nat) (tm:Tm) (H:Hp):OA:=match ks,tm 3,tm 4,tm 8,tm 9,tm 10,tm 45,tm 46,tm 47,tm 53,tm 54,tm 55 with
 | [fL],(.ptr oh CA),(.ptr ol CB),(.ptr mV xq),(.int .i64 jy),(.int .i64 kT),(.sl CC),(.int .i64 kR),(.int .i64 kS),(.sl CD),(.int .i64 kU),(.int .i64 gI)=>aQ.l8027 F bG dt dy bH (aQ.l125 F bG dt dy bH fL) n oh CA ol CB mV xq CC kR kS jy kT CD kU gI H
 | _,_,_,_,_,_,_,_,_,_,_,_=>none
def aQ.lh (bG:as4) (dt:as5) (dy:atc) (bH:as5) (p:Nat) (ks:as7) (n:Nat) (tm:Tm) (H:Hp):OA:=bif p.beq 8027 then aQ.lh8027 F bG dt dy bH ks n tm H else (bif p.beq 125 then aQ.lh125 F bG dt dy bH ks n tm H else (none))
def aQ.pn:Nat->List Nat:=cQ [(3,[3,4]),(6,[15])]
def aQ.tb:Nat->List (List Nat):=cQ [(3,[[],[0],[],[0,1,2],[0,1,2,3],[0,1,2,3,4],[0,1,2,3,4,5],[0,1,2,3,4,5],[0,1,2,3,4,5,6],[0,1,2,3,4,5,6,7,8]]),(6,[[],[0],[],[2],[0,1,2,3],[],[5],[5,6],[],[8],[8,9],[5,6,7,8,9,10],[5,6,7,8,9,10,11],[0,1,2,3,4,5,6,7,8,9,10,11,12],[],[0,1,2,3,4,5,6,7,8,9,10,11,12,13,14]])]
def aQ.cs (F:Nat) (bG:as4) (dt:as5) (dy:atc) (bH:as5):Cs:=[(150,mk3 bG),(152,mk10 dt),(151,mk5 dy),(153,mk10 bH)]
theorem aQ.loops (bG:as4) (dt:as5) (dy:atc) (bH:as5):LO (aY (aQ.cs F bG dt dy bH)) aQ.pn (aQ.lh F bG dt dy bH) F Try.f145:=
 (ae.rt (ae.rt (ae.rt (ae.rt (ae.lt (ae.rt (ae.block (ae.la (λn tm H r h=>by change aQ.lh125 F bG dt dy bH [] n tm H=_ at h;unfold aQ.lh125 at h;split at h;have e:bK tm [(3,_),(4,_),(8,_),(45,_),(46,_),(47,_)]:=⟨‹_›,‹_›,‹_›,‹_›,‹_›,‹_›,trivial⟩;obtain _ | k125:=n;cases h;exact ⟨_,rfl,by rw [<- bM e];exact Eq.trans (by kernel_rfl) h⟩;cases h) λk125=>(ae.rt (ae.rt (ae.lt (ae.block (ae.rt (ae.rt (ae.block (ae.la (λn tm H r h=>by change aQ.lh8027 F bG dt dy bH [k125] n tm H=_ at h;unfold aQ.lh8027 at h;split at h;have e:bK tm [(3,_),(4,_),(8,_),(9,_),(10,_),(45,_),(46,_),(47,_),(53,_),(54,_),(55,_)]:=⟨‹_›,‹_›,‹_›,‹_›,‹_›,‹_›,‹_›,‹_›,‹_›,‹_›,‹_›,trivial⟩;cases (show [k125]=_ from ‹_›);obtain _ | k8027:=n;cases h;exact ⟨_,rfl,by rw [<- bM e];exact Eq.trans (by kernel_rfl) h⟩;cases h) λk8027=>ae.no))))))))))))))))
theorem aQ.eqX (bG:as4) (dt:as5) (dy:atc) (bH:as5) (aa:Int) (af:Sl) (au:Int) (bu:Sl) (H:Hp):EX (aY (aQ.cs F bG dt dy bH)) aQ.pn (aQ.lh F bG dt dy bH) F Try.f145 [(.agg [(.int .i64 aa),(.sl af)]),(.agg [(.int .i64 au),(.sl bu)])] H=aQ.twX F bG dt dy bH aa af au bu H:=by kernel_rfl
theorem aQ.k:Ok Try.prog 145 (mk9 (aQ.tw F)):=by
 intro args H v H' h
 unfold mk9 at h
 split at h
 ·exact okT (TB:=aQ.tb) Try.func145 (aM (cH.k F) (aM (bL.k F) (aM (dB.k F) (aM (cI.k F) bA)))) (aQ.loops F (cH.tw F) (bL.tw F) (dB.tw F) (cI.tw F)) ((aQ.eqX F (cH.tw F) (bL.tw F) (dB.tw F) (cI.tw F) _ _ _ _ H).trans h) (by kernel_rfl)
 ·cases h
def cY.twX (F:Nat) (vo:as8) (aa:Int) (af:Sl) (au:Int) (bu:Sl) (H:Hp):OA:=(Hp.new H [(.int .i64 aa),(.sl af)]).bind λH5=>(Hp.new H5 [(.int .i64 au),(.sl bu)]).bind λH6=>(Hp.new H6 [.int .i64 0,.sl ⟨none,0,.ex 0⟩]).bind λH7=>(Hp.ldI H7 .i64 H.length 0).bind λn8=>(Hp.ldSl H7 H.length (0+1)).bind λs9=>(Hp.ldI H7 .i64 H5.length 0).bind λn10=>(Hp.ldSl H7 H5.length (0+1)).bind λs11=>(vo n8 s9 n10 s11 H7).bind λr12=>((r12.1).asTup 2).bind λl13=>(l13[0]?).bind λv14=>((v14).asAgg 2).bind λl15=>(l15[0]?).bind λv16=>((v16).asI .i64).bind λn17=>(l15[1]?).bind λv18=>((v18).asSl).bind λs19=>(l13[1]?).bind λv20=>((v20).asI .i64).bind λn21=>(Hp.new r12.2 [.int .i64 0,.sl ⟨none,0,.ex 0⟩]).bind λH22=>(Hp.st H22 r12.2.length 0 (.int .i64 n17)).bind λH23=>(Hp.st H23 r12.2.length (0+1) (.sl s19)).bind λH24=>(Hp.ldI H24 .i64 r12.2.length 0).bind λn25=>(Hp.ldSl H24 r12.2.length (0+1)).bind λs26=>(Hp.st H24 H6.length 0 (.int .i64 n25)).bind λH27=>(Hp.st H27 H6.length (0+1) (.sl s26)).bind λH28=>(Hp.ldI H28 .i64 H6.length 0).bind λn29=>(Hp.ldSl H28 H6.length (0+1)).bind λs30=>some ((.agg [(.int .i64 n29),(.sl s30)]),H28)
def cY.tw:=cY.twX F (aQ.tw F)
def cY.cs (F:Nat) (vo:as8):Cs:=[(145,mk9 vo)]
theorem cY.eqX (vo:as8) (aa:Int) (af:Sl) (au:Int) (bu:Sl) (H:Hp):EX (aY (cY.cs F vo)) aJ lh0 F Try.f128 [(.agg [(.int .i64 aa),(.sl af)]),(.agg [(.int .i64 au),(.sl bu)])] H=cY.twX F vo aa af au bu H:=by kernel_rfl
theorem cY.k:Ok Try.prog 128 (mk9 (cY.tw F)):=by
 intro args H v H' h
 unfold mk9 at h
 split at h
 ·exact okT (TB:=aJ) Try.func128 (aM (aQ.k F) bA) ae.no ((cY.eqX F (aQ.tw F) _ _ _ _ H).trans h) (by kernel_rfl)
 ·cases h
def dO.twX (F:Nat) (aa:Int) (H:Hp):OA:=some ((.int .i64 (wrap .i64 (1 - (wrap .i64 (2 * (Int.tmod aa 2)))))),H)
def dO.tw:=dO.twX F
theorem dO.k:Ok Try.prog 130 (mk12 (dO.tw F)):=by
 intro args H v H' h
 unfold mk12 at h
 split at h
 ·exact ok0 Try.func130 (Eq.trans (by kernel_rfl) h) (by kernel_rfl) (by kernel_rfl)
 ·cases h
def aw.j6 (F:Nat) (bo:atd) (cw:as8) (cB:as_) (bq:as8) (pN:Nat) (CI:Nat) (ov:Int) (aiu:Sl) (H228:Hp):OA:=(if ov<0 then none else ((Sl.idx aiu (wrap .i64 ((wrap .i64 (1 * 2 ^ (min (ov:Int).toNat (IntKind.i64).bits))) - 1)) 2).bind λp229=>(Hp.ldI H228 .i64 p229.1 p229.2).bind λn230=>(Hp.ldSl H228 p229.1 (p229.2+1)).bind λs231=>(Hp.st H228 pN CI (.int .i64 n230)).bind λH232=>(Hp.st H232 pN (CI+1) (.sl s231)).bind λH233=>(Hp.ldI H233 .i64 pN CI).bind λn234=>(Hp.ldSl H233 pN (CI+1)).bind λs235=>some ((.agg [(.int .i64 n234),(.sl s235)]),H233)))
def aw.j8 (F:Nat) (bo:atd) (cw:as8) (cB:as_) (bq:as8) (C125_:atw) (aiv:Sl) (CJ:Nat) (aiw:Nat) (vp:Int) (aix:Sl) (vq:Int) (H372:Hp):OA:=C125_ aiv CJ aiw vp aix (wrap .i64 (vq+1)) H372
def aw.j9 (bo:atd) (cw:as8) (cB:as_) (bq:as8) (C125_:atw) (aiy:Sl) (CK:Nat) (aiz:Nat) (vr:Int) (aiA:Sl) (vt:Int) (H355:Hp):OA:=aw.j8 F bo cw cB bq C125_ aiy CK aiz vr aiA vt H355
def aw.l16047 (F:Nat) (bo:atd) (cw:as8) (cB:as_) (bq:as8) (C125_:atw):Nat->Sl->Nat->Nat->Int->Sl->Int->Int->Sl->Int->Int->Hp->OA
 | 0,_,_,_,_,_,_,_,_,_,_,_=>none
 | aiB+1,xr,ox,CL,kW,pO,gJ,jz,CM,kX,ir,H291=>(bif (decide (ir<kX)) then ((Sl.idx CM ir 1).bind λp373=>(Hp.ldI H291 .i64 p373.1 p373.2).bind λn374=>(Sl.idx xr jz 1).bind λp375=>(Hp.ldSl H291 p375.1 p375.2).bind λs376=>(Sl.idx s376 n374 2).bind λp377=>(Hp.ldI H291 .i64 p377.1 p377.2).bind λn378=>(Hp.ldSl H291 p377.1 (p377.2+1)).bind λs379=>(if n374<0 then none else ((Sl.idx pO (Go.bits .andNot .i64 gJ (wrap .i64 (1 * 2 ^ (min (n374:Int).toNat (IntKind.i64).bits)))) 2).bind λp380=>(Hp.ldI H291 .i64 p380.1 p380.2).bind λn381=>(Hp.ldSl H291 p380.1 (p380.2+1)).bind λs382=>(cw n378 s379 n381 s382 H291).bind λr383=>((r383.1).asAgg 2).bind λl384=>(l384[0]?).bind λv385=>((v385).asI .i64).bind λn386=>(l384[1]?).bind λv387=>((v387).asSl).bind λs388=>(if aZ H291 r383.2 then ((Hp.new r383.2 [.int .i64 0,.sl ⟨none,0,.ex 0⟩]).bind λH389=>(Hp.st H389 r383.2.length 0 (.int .i64 n386)).bind λH390=>(Hp.st H390 r383.2.length (0+1) (.sl s388)).bind λH391=>(Sl.idx pO gJ 2).bind λp392=>(Hp.ldI H391 .i64 p392.1 p392.2).bind λn393=>(Hp.ldSl H391 p392.1 (p392.2+1)).bind λs394=>(Hp.ldI H391 .i64 r383.2.length 0).bind λn395=>(Hp.ldSl H391 r383.2.length (0+1)).bind λs396=>(cB (wrap .i64 (jz - ir)) H391).bind λr397=>((r397.1).asI .i64).bind λn398=>(if aZ H391 r397.2 then ((bo n398 0 r397.2).bind λr399=>((r399.1).asAgg 2).bind λl400=>(l400[0]?).bind λv401=>((v401).asI .i64).bind λn402=>(l400[1]?).bind λv403=>((v403).asSl).bind λs404=>(if aZ r397.2 r399.2 then ((cw n395 s396 n402 s404 r399.2).bind λr405=>((r405.1).asAgg 2).bind λl406=>(l406[0]?).bind λv407=>((v407).asI .i64).bind λn408=>(l406[1]?).bind λv409=>((v409).asSl).bind λs410=>(if aZ r399.2 r405.2 then ((bq n393 s394 n408 s410 r405.2).bind λr411=>((r411.1).asAgg 2).bind λl412=>(l412[0]?).bind λv413=>((v413).asI .i64).bind λn414=>(l412[1]?).bind λv415=>((v415).asSl).bind λs416=>(Sl.idx pO gJ 2).bind λp417=>(Hp.st r411.2 p417.1 p417.2 (.int .i64 n414)).bind λH418=>(Hp.st H418 p417.1 (p417.2+1) (.sl s416)).bind λH419=>aw.l16047 F bo cw cB bq C125_ aiB xr ox CL kW pO gJ jz CM kX (wrap .i64 (ir+1)) H419) else none)) else none)) else none)) else none)))) else (aw.j9 F bo cw cB bq C125_ xr ox CL kW pO gJ H291))
termination_by structural n=>n
def aw.j10 (bo:atd) (cw:as8) (cB:as_) (bq:as8) (C125_:atw) (aiC:Sl) (CN:Nat) (aiD:Nat) (vu:Int) (HE:Sl) (vv:Int) (lY:Sl) (H275:Hp):OA:=aw.l16047 F bo cw cB bq C125_ F aiC CN aiD vu HE vv (wrap .i64 ((lY.n:Int) - 1)) lY (lY.n:Int) 0 H275
def aw.j11 (F:Nat) (bo:atd) (cw:as8) (cB:as_) (bq:as8) (C8021_:at5) (aiE:Sl) (CO:Nat) (aiF:Nat) (vw:Int) (aiG:Sl) (vx:Int) (aiH:Sl) (vy:Int) (vz:Int) (H436:Hp):OA:=C8021_ aiE CO aiF vw aiG vx aiH vy (wrap .i64 (vz+1)) H436
def aw.l8021 (F:Nat) (bo:atd) (cw:as8) (cB:as_) (bq:as8) (C125_:atw):Nat->Sl->Nat->Nat->Int->Sl->Int->Sl->Int->Int->Hp->OA
 | 0,_,_,_,_,_,_,_,_,_,_=>none
 | Be+1,xt,mW,xu,jA,xv,iu,xw,jB,fl,H246=>(bif (decide (fl<jB)) then ((if fl<0 then none else ((bif ((Go.bits .and .i64 (Int.fdiv iu (2 ^ (min (fl:Int).toNat (IntKind.i64).bits))) 1)==1) then ((Hp.new H246 [(.int .i64 fl)]).bind λH420=>(Sl.row H420 (⟨some (H246.length,0),1,.ex 1⟩:Sl) 1).bind λxs422=>(Hp.app H420 1 8 xw (⟨some (H246.length,0),1,.ex 1⟩:Sl).n xs422).bind λa421=>aw.j11 F bo cw cB bq (aw.l8021 F bo cw cB bq C125_ Be) xt mW xu jA xv iu a421.1 jB fl a421.2) else (aw.j11 F bo cw cB bq (aw.l8021 F bo cw cB bq C125_ Be) xt mW xu jA xv iu xw jB fl H246))))) else (aw.j10 F bo cw cB bq C125_ xt mW xu jA xv iu xw H246))
termination_by structural n=>n
def aw.l125 (F:Nat) (bo:atd) (cw:as8) (cB:as_) (bq:as8) :Nat->Sl->Nat->Nat->Int->Sl->Int->Hp->OA
 | 0,_,_,_,_,_,_,_=>none
 | fL+1,HG,gd,CP,fk,CQ,gQ,H19=>(if fk<0 then none else ((bif (decide (gQ<(wrap .i64 (1 * 2 ^ (min (fk:Int).toNat (IntKind.i64).bits))))) then (aw.l8021 F bo cw cB bq (aw.l125 F bo cw cB bq fL) F HG gd CP fk CQ gQ (⟨none,0,.ex 0⟩:Sl) fk 0 H19) else (aw.j6 F bo cw cB bq gd CP fk CQ H19))))
termination_by structural n=>n
def aw.twX (bo:atd) (cw:as8) (cB:as_) (bq:as8) (aa:Sl) (H:Hp):OA:=(Hp.new H [.int .i64 0,.sl ⟨none,0,.ex 0⟩]).bind λH2=>(if (aa.n:Int)<0 then none else ((Hp.mk H2 [.int .i64 0,.sl ⟨none,0,.ex 0⟩] 32 (wrap .i64 (1 * 2 ^ (min ((aa.n:Int):Int).toNat (IntKind.i64).bits))) (wrap .i64 (1 * 2 ^ (min ((aa.n:Int):Int).toNat (IntKind.i64).bits)))).bind λm3=>(bo 1 0 m3.2).bind λr4=>((r4.1).asAgg 2).bind λl5=>(l5[0]?).bind λv6=>((v6).asI .i64).bind λn7=>(l5[1]?).bind λv8=>((v8).asSl).bind λs9=>(Sl.idx m3.1 0 2).bind λp10=>(Hp.st r4.2 p10.1 p10.2 (.int .i64 n7)).bind λH11=>(Hp.st H11 p10.1 (p10.2+1) (.sl s9)).bind λH12=>aw.l125 F bo cw cB bq F aa H.length 0 (aa.n:Int) m3.1 1 H12))
def aw.tw:=aw.twX F (cl.tw F) (cY.tw F) (dO.tw F) (cp.tw F)
def aw.lh125 (bo:atd) (cw:as8) (cB:as_) (bq:as8) (ks:as7) (n:Nat) (tm:Tm) (H:Hp):OA:=match ks,tm 0,tm 2,tm 3,tm 4,tm 5 with
 | [],(.sl HG),(.ptr gd CP),(.int .i64 fk),(.sl CQ),(.int .i64 gQ)=>aw.l125 F bo cw cB bq n HG gd CP fk CQ gQ H
 | _,_,_,_,_,_=>none
def aw.lh8021 (bo:atd) (cw:as8) (cB:as_) (bq:as8) (ks:as7) (n:Nat) (tm:Tm) (H:Hp):OA:=match ks,tm 0,tm 2,tm 3,tm 4,tm 5,tm 6,tm 26,tm 27 with
 | [fL],(.sl xt),(.ptr mW xu),(.int .i64 jA),(.sl xv),(.int .i64 iu),(.sl xw),(.int .i64 jB),(.int .i64 fl)=>aw.l8021 F bo cw cB bq (aw.l125 F bo cw cB bq fL) n xt mW xu jA xv iu xw jB fl H
 | _,_,_,_,_,_,_,_,_=>none
def aw.lh16047 (bo:atd) (cw:as8) (cB:as_) (bq:as8) (ks:as7) (n:Nat) (tm:Tm) (H:Hp):OA:=match ks,tm 0,tm 2,tm 3,tm 4,tm 5,tm 8,tm 43,tm 44,tm 45 with
 | [fL],(.sl xr),(.ptr ox CL),(.int .i64 kW),(.sl pO),(.int .i64 gJ),(.int .i64 jz),(.sl CM),(.int .i64 kX),(.int .i64 ir)=>aw.l16047 F bo cw cB bq (aw.l125 F bo cw cB bq fL) n xr ox CL kW pO gJ jz CM kX ir H
 | _,_,_,_,_,_,_,_,_,_=>none
def aw.lh (bo:atd) (cw:as8) (cB:as_) (bq:as8) (p:Nat) (ks:as7) (n:Nat) (tm:Tm) (H:Hp):OA:=bif p.beq 16047 then aw.lh16047 F bo cw cB bq ks n tm H else (bif p.beq 8021 then aw.lh8021 F bo cw cB bq ks n tm H else (bif p.beq 125 then aw.lh125 F bo cw cB bq ks n tm H else (none)))
def aw.pn:Nat->List Nat:=cQ [(18,[16]),(19,[13,15])]
def aw.tb:Nat->List (List Nat):=cQ [(18,[[],[],[0,1],[0,1,2],[],[0,1,2,3,4],[0,1,2,3,4,5],[],[],[],[9],[8,9,10],[7,8,9,10,11],[7,8,9,10,11,12],[0,1,2,3,4,5,6,7,8,9,10,11,12,13],[],[0,1,2,3,4,5,6,7,8,9,10,11,12,13,14,15]]),(19,[[],[],[],[],[2,3],[2,3,4],[],[],[],[7,8],[7,8,9],[7,8,9,10],[6,7,8,9,10,11],[2,3,4,5,6,7,8,9,10,11,12],[0,1,2,3,4,5,6,7,8,9,10,11,12,13],[0,1,2,3,4,5,6,7,8,9,10,11,12,13,14]])]
def aw.cs (F:Nat) (bo:atd) (cw:as8) (cB:as_) (bq:as8):Cs:=[(127,mk18 bo),(128,mk9 cw),(130,mk12 cB),(129,mk9 bq)]
theorem aw.loops (bo:atd) (cw:as8) (cB:as_) (bq:as8):LO (aY (aw.cs F bo cw cB bq)) aw.pn (aw.lh F bo cw cB bq) F Try.f94:=
 (ae.rt (ae.rt (ae.rt (ae.rt (ae.lt (ae.rt (ae.block (ae.la (λn tm H r h=>by change aw.lh125 F bo cw cB bq [] n tm H=_ at h;unfold aw.lh125 at h;split at h;have e:bK tm [(0,_),(2,_),(3,_),(4,_),(5,_)]:=⟨‹_›,‹_›,‹_›,‹_›,‹_›,trivial⟩;obtain _ | k125:=n;cases h;exact ⟨_,rfl,by rw [<- bM e];exact Eq.trans (by kernel_rfl) h⟩;cases h) λk125=>(ae.rt (ae.lt (ae.block (ae.rt (ae.seq (ae.rt (ae.block (ae.la (λn tm H r h=>by change aw.lh8021 F bo cw cB bq [k125] n tm H=_ at h;unfold aw.lh8021 at h;split at h;have e:bK tm [(0,_),(2,_),(3,_),(4,_),(5,_),(6,_),(26,_),(27,_)]:=⟨‹_›,‹_›,‹_›,‹_›,‹_›,‹_›,‹_›,‹_›,trivial⟩;cases (show [k125]=_ from ‹_›);obtain _ | k8021:=n;cases h;exact ⟨_,rfl,by rw [<- bM e];exact Eq.trans (by kernel_rfl) h⟩;cases h) λk8021=>ae.no))) (ae.rt (ae.rt (ae.block (ae.la (λn tm H r h=>by change aw.lh16047 F bo cw cB bq [k125] n tm H=_ at h;unfold aw.lh16047 at h;split at h;have e:bK tm [(0,_),(2,_),(3,_),(4,_),(5,_),(8,_),(43,_),(44,_),(45,_)]:=⟨‹_›,‹_›,‹_›,‹_›,‹_›,‹_›,‹_›,‹_›,‹_›,trivial⟩;cases (show [k125]=_ from ‹_›);obtain _ | k16047:=n;cases h;exact ⟨_,rfl,by rw [<- bM e];exact Eq.trans (by kernel_rfl) h⟩;cases h) λk16047=>ae.no)))))))))))))))))
theorem aw.eqX (bo:atd) (cw:as8) (cB:as_) (bq:as8) (aa:Sl) (H:Hp):EX (aY (aw.cs F bo cw cB bq)) aw.pn (aw.lh F bo cw cB bq) F Try.f94 [(.sl aa)] H=aw.twX F bo cw cB bq aa H:=by kernel_rfl
theorem aw.k:Ok Try.prog 94 (mk3 (aw.tw F)):=by
 intro args H v H' h
 unfold mk3 at h
 split at h
 ·exact okT (TB:=aw.tb) Try.func94 (aM (cl.k F) (aM (cY.k F) (aM (dO.k F) (aM (cp.k F) bA)))) (aw.loops F (cl.tw F) (cY.tw F) (dO.tw F) (cp.tw F)) ((aw.eqX F (cl.tw F) (cY.tw F) (dO.tw F) (cp.tw F) _ H).trans h) (by kernel_rfl)
 ·cases h
def bI.l117 (F:Nat) (ci:as4) :Nat->Nat->Nat->Nat->Nat->Int->Int->Hp->OA
 | 0,_,_,_,_,_,_,_=>none
 | aiI+1,eV,ig,gP,pP,kY,iv,H27=>(bif (decide (iv<kY)) then ((Hp.ldSl H27 gP (pP+1)).bind λs40=>(Hp.ldSl H27 gP (pP+1)).bind λs41=>(Sl.idx s41 iv 1).bind λp42=>(Hp.ldI H27 .i64 p42.1 p42.2).bind λn43=>(Sl.idx s40 iv 1).bind λp44=>(Hp.st H27 p44.1 p44.2 (.int .i64 (wrap .i64 (0 - n43)))).bind λH45=>bI.l117 F ci aiI eV ig gP pP kY (wrap .i64 (iv+1)) H45) else ((Hp.ldI H27 .i64 gP pP).bind λn46=>(Hp.ldSl H27 gP (pP+1)).bind λs47=>(Hp.st H27 eV ig (.int .i64 n46)).bind λH48=>(Hp.st H48 eV (ig+1) (.sl s47)).bind λH49=>(Hp.ldI H49 .i64 eV ig).bind λn50=>(Hp.ldSl H49 eV (ig+1)).bind λs51=>some ((.agg [(.int .i64 n50),(.sl s51)]),H49)))
termination_by structural n=>n
def bI.twX (ci:as4) (aa:Int) (af:Sl) (H:Hp):OA:=(Hp.new H [(.int .i64 aa),(.sl af)]).bind λH3=>(Hp.new H3 [.int .i64 0,.sl ⟨none,0,.ex 0⟩]).bind λH4=>(Hp.ldSl H4 H.length 1).bind λs5=>(ci s5 H4).bind λr6=>((r6.1).asSl).bind λs7=>(Hp.new r6.2 [.int .i64 0,.sl ⟨none,0,.ex 0⟩]).bind λH8=>(Hp.st H8 r6.2.length 0 (.int .i64 0)).bind λH9=>(Hp.st H9 r6.2.length (0+1) (.sl s7)).bind λH10=>(Hp.ldSl H10 r6.2.length 1).bind λs11=>(bif (decide ((s11.n:Int)>0)) then ((Hp.ldSl H10 r6.2.length 1).bind λs12=>(Sl.idx s12 0 1).bind λp13=>(Hp.ldI H10 .i64 p13.1 p13.2).bind λn14=>(bif (decide (n14<0)) then ((Hp.ldSl H10 r6.2.length 1).bind λs15=>bI.l117 F ci F H3.length 0 r6.2.length 0 (s15.n:Int) 0 H10) else ((Hp.ldI H10 .i64 r6.2.length 0).bind λn52=>(Hp.ldSl H10 r6.2.length (0+1)).bind λs53=>(Hp.st H10 H3.length 0 (.int .i64 n52)).bind λH54=>(Hp.st H54 H3.length (0+1) (.sl s53)).bind λH55=>(Hp.ldI H55 .i64 H3.length 0).bind λn56=>(Hp.ldSl H55 H3.length (0+1)).bind λs57=>some ((.agg [(.int .i64 n56),(.sl s57)]),H55)))) else ((Hp.ldI H10 .i64 r6.2.length 0).bind λn58=>(Hp.ldSl H10 r6.2.length (0+1)).bind λs59=>(Hp.st H10 H3.length 0 (.int .i64 n58)).bind λH60=>(Hp.st H60 H3.length (0+1) (.sl s59)).bind λH61=>(Hp.ldI H61 .i64 H3.length 0).bind λn62=>(Hp.ldSl H61 H3.length (0+1)).bind λs63=>some ((.agg [(.int .i64 n62),(.sl s63)]),H61)))
def bI.tw:=bI.twX F (dx.tw F)
def bI.lh117 (ci:as4) (ks:as7) (n:Nat) (tm:Tm) (H:Hp):OA:=match ks,tm 2,tm 3,tm 22,tm 23 with
 | [],(.ptr eV ig),(.ptr gP pP),(.int .i64 kY),(.int .i64 iv)=>bI.l117 F ci n eV ig gP pP kY iv H
 | _,_,_,_,_=>none
def bI.lh (ci:as4) (p:Nat) (ks:as7) (n:Nat) (tm:Tm) (H:Hp):OA:=bif p.beq 117 then bI.lh117 F ci ks n tm H else (none)
def bI.pn:Nat->List Nat:=cQ [(6,[10])]
def bI.tb:Nat->List (List Nat):=cQ [(6,[[],[0],[],[],[3],[],[3,4,5],[3,4,5,6],[3,4,5,6,7],[0,1,2,3,4,5,6,7,8],[0,1,2,3,4,5,6,7,8,9]])]
def bI.cs (F:Nat) (ci:as4):Cs:=[(126,mk3 ci)]
theorem bI.loops (ci:as4):LO (aY (bI.cs F ci)) bI.pn (bI.lh F ci) F Try.f93:=
 (ae.rt (ae.rt (ae.lt (ae.rt (ae.cond (ae.rt (ae.block (ae.la (λn tm H r h=>by change bI.lh117 F ci [] n tm H=_ at h;unfold bI.lh117 at h;split at h;have e:bK tm [(2,_),(3,_),(22,_),(23,_)]:=⟨‹_›,‹_›,‹_›,‹_›,trivial⟩;obtain _ | k117:=n;cases h;exact ⟨_,rfl,by rw [<- bM e];exact Eq.trans (by kernel_rfl) h⟩;cases h) λk117=>ae.no))) ae.no)))))
theorem bI.eqX (ci:as4) (aa:Int) (af:Sl) (H:Hp):EX (aY (bI.cs F ci)) bI.pn (bI.lh F ci) F Try.f93 [(.agg [(.int .i64 aa),(.sl af)])] H=bI.twX F ci aa af H:=by kernel_rfl
theorem bI.k:Ok Try.prog 93 (mk10 (bI.tw F)):=by
 intro args H v H' h
 unfold mk10 at h
 split at h
 ·exact okT (TB:=bI.tb) Try.func93 (aM (dx.k F) bA) (bI.loops F (dx.tw F)) ((bI.eqX F (dx.tw F) _ _ H).trans h) (by kernel_rfl)
 ·cases h
def bh.j1 (F:Nat) (eW:as2) (bx:as2) (eO:as4) (eX:as4) (eY:as5) (pQ:Nat) (CS:Nat) (aiJ:Sl) (H67:Hp):OA:=(eX aiJ H67).bind λr68=>((r68.1).asAgg 2).bind λl69=>(l69[0]?).bind λv70=>((v70).asI .i64).bind λn71=>(l69[1]?).bind λv72=>((v72).asSl).bind λs73=>(eY n71 s73 r68.2).bind λr74=>((r74.1).asAgg 2).bind λl75=>(l75[0]?).bind λv76=>((v76).asI .i64).bind λn77=>(l75[1]?).bind λv78=>((v78).asSl).bind λs79=>(Hp.st r74.2 pQ CS (.int .i64 n77)).bind λH80=>(Hp.st H80 pQ (CS+1) (.sl s79)).bind λH81=>(Hp.ldI H81 .i64 pQ CS).bind λn82=>(Hp.ldSl H81 pQ (CS+1)).bind λs83=>some ((.agg [(.int .i64 n82),(.sl s83)]),H81)
def bh.l253 (F:Nat) (eW:as2) (bx:as2) (eO:as4) (eX:as4) (eY:as5) :Nat->Nat->Nat->Sl->Int->Int->Int->Hp->OA
 | 0,_,_,_,_,_,_,_=>none
 | aiK+1,oy,CT,vA,kZ,k_,iw,H48=>(bif (decide (iw<k_)) then ((Sl.idx vA iw 1).bind λp84=>(Hp.ldSl H48 p84.1 p84.2).bind λs85=>(Sl.cut s85 2 0 (wrap .i64 (kZ - 1))).bind λs86=>(Sl.idx vA iw 1).bind λp87=>(Hp.st H48 p87.1 p87.2 (.sl s86)).bind λH88=>bh.l253 F eW bx eO eX eY aiK oy CT vA kZ k_ (wrap .i64 (iw+1)) H88) else (bh.j1 F eW bx eO eX eY oy CT vA H48))
termination_by structural n=>n
def bh.j2 (eW:as2) (bx:as2) (eO:as4) (eX:as4) (eY:as5) (oz:Nat) (lX:Nat) (HI:Sl) (oA:Int) (H29:Hp):OA:=(eO HI H29).bind λr30=>((r30.1).asI .i64).bind λn31=>(bif (n31 != (wrap .i64 (oA - 1))) then ((Hp.st r30.2 oz lX (.int .i64 0)).bind λH32=>(Hp.st H32 oz (lX+1) (.sl (⟨none,0,.ex 0⟩:Sl))).bind λH33=>(Hp.ldI H33 .i64 oz lX).bind λn34=>(Hp.ldSl H33 oz (lX+1)).bind λs35=>some ((.agg [(.int .i64 n34),(.sl s35)]),H33)) else (bh.l253 F eW bx eO eX eY F oz lX HI oA (HI.n:Int) 0 r30.2))
def bh.twX (eW:as2) (bx:as2) (eO:as4) (eX:as4) (eY:as5) (aa:Sl) (af:Int) (H:Hp):OA:=(Hp.new H [(.sl aa),(.int .i64 af)]).bind λH3=>(Hp.new H3 [.int .i64 0,.sl ⟨none,0,.ex 0⟩]).bind λH4=>(Hp.ldSl H4 H.length 0).bind λs5=>(Hp.ldI H4 .i64 H.length (0+1)).bind λn6=>(eW s5 n6 H4).bind λr7=>((r7.1).asSl).bind λs8=>(Hp.ldSl r7.2 H.length 0).bind λs9=>(Hp.ldI r7.2 .i64 H.length (0+1)).bind λn10=>(bx s9 n10 r7.2).bind λr11=>((r11.1).asTup 2).bind λl12=>(l12[0]?).bind λv13=>((v13).asSl).bind λs14=>(l12[1]?).bind λv15=>((v15).asI .i64).bind λn16=>(eO s8 r11.2).bind λr17=>((r17.1).asI .i64).bind λn18=>(bif (n18==n16) then ((Sl.cut s8 1 0 (wrap .i64 (n16 - 1))).bind λs19=>bh.j2 F eW bx eO eX eY H3.length 0 s19 n16 r17.2) else (bh.j2 F eW bx eO eX eY H3.length 0 s8 n16 r17.2))
def bh.tw:=bh.twX F (aX.tw F) (bg.tw F) (eo.tw F) (aw.tw F) (bI.tw F)
def bh.lh253 (eW:as2) (bx:as2) (eO:as4) (eX:as4) (eY:as5) (ks:as7) (n:Nat) (tm:Tm) (H:Hp):OA:=match ks,tm 2,tm 3,tm 5,tm 29,tm 30 with
 | [],(.ptr oy CT),(.sl vA),(.int .i64 kZ),(.int .i64 k_),(.int .i64 iw)=>bh.l253 F eW bx eO eX eY n oy CT vA kZ k_ iw H
 | _,_,_,_,_,_=>none
def bh.lh (eW:as2) (bx:as2) (eO:as4) (eX:as4) (eY:as5) (p:Nat) (ks:as7) (n:Nat) (tm:Tm) (H:Hp):OA:=bif p.beq 253 then bh.lh253 F eW bx eO eX eY ks n tm H else (none)
def bh.cs (F:Nat) (eW:as2) (bx:as2) (eO:as4) (eX:as4) (eY:as5):Cs:=[(90,mk4 eW),(91,mk4 bx),(92,mk3 eO),(94,mk3 eX),(93,mk10 eY)]
theorem bh.loops (eW:as2) (bx:as2) (eO:as4) (eX:as4) (eY:as5):LO (aY (bh.cs F eW bx eO eX eY)) aJ (bh.lh F eW bx eO eX eY) F Try.f49:=
 (ae.rt (ae.rt (ae.rt (ae.rt (ae.rt (ae.lt (ae.rt (ae.block (ae.la (λn tm H r h=>by change bh.lh253 F eW bx eO eX eY [] n tm H=_ at h;unfold bh.lh253 at h;split at h;have e:bK tm [(2,_),(3,_),(5,_),(29,_),(30,_)]:=⟨‹_›,‹_›,‹_›,‹_›,‹_›,trivial⟩;obtain _ | k253:=n;cases h;exact ⟨_,rfl,by rw [<- bM e];exact Eq.trans (by kernel_rfl) h⟩;cases h) λk253=>ae.no)))))))))
theorem bh.eqX (eW:as2) (bx:as2) (eO:as4) (eX:as4) (eY:as5) (aa:Sl) (af:Int) (H:Hp):EX (aY (bh.cs F eW bx eO eX eY)) aJ (bh.lh F eW bx eO eX eY) F Try.f49 [(.agg [(.sl aa),(.int .i64 af)])] H=bh.twX F eW bx eO eX eY aa af H:=by kernel_rfl
theorem bh.k:Ok Try.prog 49 (mk4 (bh.tw F)):=by
 intro args H v H' h
 unfold mk4 at h
 split at h
 ·exact okT (TB:=aJ) Try.func49 (aM (aX.k F) (aM (bg.k F) (aM (eo.k F) (aM (aw.k F) (aM (bI.k F) bA))))) (bh.loops F (aX.tw F) (bg.tw F) (eo.tw F) (aw.tw F) (bI.tw F)) ((bh.eqX F (aX.tw F) (bg.tw F) (eo.tw F) (aw.tw F) (bI.tw F) _ _ H).trans h) (by kernel_rfl)
 ·cases h
def eG.twX (F:Nat) (vB:as2) (vC:as2) (aa:Sl) (af:Int) (H:Hp):OA:=(Hp.new H [(.sl aa),(.int .i64 af)]).bind λH3=>(Hp.new H3 [.int .i64 0,.sl ⟨none,0,.ex 0⟩]).bind λH4=>(Hp.ldSl H4 H.length 0).bind λs5=>(Hp.ldI H4 .i64 H.length (0+1)).bind λn6=>(vB s5 n6 H4).bind λr7=>((r7.1).asI .i64).bind λn8=>(bif (n8 != 0) then ((Hp.st r7.2 H3.length 0 (.int .i64 0)).bind λH9=>(Hp.st H9 H3.length (0+1) (.sl (⟨none,0,.ex 0⟩:Sl))).bind λH10=>(Hp.ldI H10 .i64 H3.length 0).bind λn11=>(Hp.ldSl H10 H3.length (0+1)).bind λs12=>some ((.tup [(.agg [(.int .i64 n11),(.sl s12)]),(.int .i64 n8)]),H10)) else ((Hp.ldSl r7.2 H.length 0).bind λs13=>(Hp.ldI r7.2 .i64 H.length (0+1)).bind λn14=>(vC s13 n14 r7.2).bind λr15=>((r15.1).asAgg 2).bind λl16=>(l16[0]?).bind λv17=>((v17).asI .i64).bind λn18=>(l16[1]?).bind λv19=>((v19).asSl).bind λs20=>(Hp.st r15.2 H3.length 0 (.int .i64 n18)).bind λH21=>(Hp.st H21 H3.length (0+1) (.sl s20)).bind λH22=>(Hp.ldI H22 .i64 H3.length 0).bind λn23=>(Hp.ldSl H22 H3.length (0+1)).bind λs24=>some ((.tup [(.agg [(.int .i64 n23),(.sl s24)]),(.int .i64 0)]),H22)))
def eG.tw:=eG.twX F (eL.tw F) (bh.tw F)
def eG.cs (F:Nat) (vB:as2) (vC:as2):Cs:=[(32,mk4 vB),(49,mk4 vC)]
theorem eG.eqX (vB:as2) (vC:as2) (aa:Sl) (af:Int) (H:Hp):EX (aY (eG.cs F vB vC)) aJ lh0 F Try.f21 [(.agg [(.sl aa),(.int .i64 af)])] H=eG.twX F vB vC aa af H:=by kernel_rfl
theorem eG.k:Ok Try.prog 21 (mk4 (eG.tw F)):=by
 intro args H v H' h
 unfold mk4 at h
 split at h
 ·exact okT (TB:=aJ) Try.func21 (aM (eL.k F) (aM (bh.k F) bA)) ae.no ((eG.eqX F (eL.tw F) (bh.tw F) _ _ H).trans h) (by kernel_rfl)
 ·cases h
def bp.j3 (F:Nat) (c_:as5) (C61_:at6) (vD:Int) (CU:Nat) (aiL:Nat) (vE:Int) (vF:Int) (aiM:Sl) (vG:Int) (vH:Int) (H82:Hp):OA:=C61_ vD CU aiL (wrap .i64 (vE+vF)) aiM vG (wrap .i64 (vH+1)) H82
def bp.l61 (F:Nat) (c_:as5) :Nat->Int->Nat->Nat->Int->Sl->Int->Int->Hp->OA
 | 0,_,_,_,_,_,_,_,_=>none
 | bE+1,fb,dR,gd,jC,xx,jD,gK,H22=>(bif (decide (gK<jD)) then ((Sl.idx xx gK 1).bind λp63=>(Hp.ldI H22 .i64 p63.1 p63.2).bind λn64=>(Hp.ldI H22 .i64 dR gd).bind λn65=>(bif ((Int.tmod (wrap .i64 (n65+gK)) 2) != 0) then (bp.j3 F c_ (bp.l61 F c_ bE) fb dR gd jC (wrap .i64 (n64 * fb)) xx jD gK H22) else (bp.j3 F c_ (bp.l61 F c_ bE) fb dR gd jC n64 xx jD gK H22))) else (some ((.tup [(.int .i64 jC),(.bool true)]),H22)))
termination_by structural n=>n
def bp.twX (c_:as5) (aa:Int) (af:Sl) (au:Int) (H:Hp):OA:=(Hp.new H [(.int .i64 aa),(.sl af)]).bind λH4=>(Hp.ldI H4 .i64 H.length 0).bind λn5=>(Hp.ldSl H4 H.length (0+1)).bind λs6=>(c_ n5 s6 H4).bind λr7=>((r7.1).asB).bind λb8=>(bif (!b8) then (some ((.tup [(.int .i64 0),(.bool false)]),r7.2)) else ((bif (au != 1) then ((bif (au != (-1)) then (some ((.tup [(.int .i64 0),(.bool false)]),r7.2)) else ((Hp.ldSl r7.2 H.length 1).bind λs9=>bp.l61 F c_ F au H.length 0 0 s9 (s9.n:Int) 0 r7.2))) else ((Hp.ldSl r7.2 H.length 1).bind λs83=>bp.l61 F c_ F au H.length 0 0 s83 (s83.n:Int) 0 r7.2))))
def bp.tw:=bp.twX F (cO.tw F)
def bp.lh61 (c_:as5) (ks:as7) (n:Nat) (tm:Tm) (H:Hp):OA:=match ks,tm 1,tm 2,tm 6,tm 21,tm 22,tm 23 with
 | [],(.int .i64 fb),(.ptr dR gd),(.int .i64 jC),(.sl xx),(.int .i64 jD),(.int .i64 gK)=>bp.l61 F c_ n fb dR gd jC xx jD gK H
 | _,_,_,_,_,_,_=>none
def bp.lh (c_:as5) (p:Nat) (ks:as7) (n:Nat) (tm:Tm) (H:Hp):OA:=bif p.beq 61 then bp.lh61 F c_ ks n tm H else (none)
def bp.cs (F:Nat) (c_:as5):Cs:=[(86,mk10 c_)]
theorem bp.loops (c_:as5):LO (aY (bp.cs F c_)) aJ (bp.lh F c_) F Try.f47:=
 (ae.rt (ae.rt (ae.rt (ae.lt (ae.rt (ae.block (ae.la (λn tm H r h=>by change bp.lh61 F c_ [] n tm H=_ at h;unfold bp.lh61 at h;split at h;have e:bK tm [(1,_),(2,_),(6,_),(21,_),(22,_),(23,_)]:=⟨‹_›,‹_›,‹_›,‹_›,‹_›,‹_›,trivial⟩;obtain _ | k61:=n;cases h;exact ⟨_,rfl,by rw [<- bM e];exact Eq.trans (by kernel_rfl) h⟩;cases h) λk61=>ae.no)))))))
theorem bp.eqX (c_:as5) (aa:Int) (af:Sl) (au:Int) (H:Hp):EX (aY (bp.cs F c_)) aJ (bp.lh F c_) F Try.f47 [(.agg [(.int .i64 aa),(.sl af)]),(.int .i64 au)] H=bp.twX F c_ aa af au H:=by kernel_rfl
theorem bp.k:Ok Try.prog 47 (mk11 (bp.tw F)):=by
 intro args H v H' h
 unfold mk11 at h
 split at h
 ·exact okT (TB:=aJ) Try.func47 (aM (cO.k F) bA) (bp.loops F (cO.tw F)) ((bp.eqX F (cO.tw F) _ _ _ H).trans h) (by kernel_rfl)
 ·cases h
def eH.twX (F:Nat) (vI:as2) (vJ:atu) (dr:as_) (aa:Sl) (af:Int) (H:Hp):OA:=(Hp.new H [(.sl aa),(.int .i64 af)]).bind λH3=>(Hp.ldSl H3 H.length 0).bind λs4=>(Hp.ldI H3 .i64 H.length (0+1)).bind λn5=>(vI s4 n5 H3).bind λr6=>((r6.1).asTup 2).bind λl7=>(l7[0]?).bind λv8=>((v8).asAgg 2).bind λl9=>(l9[0]?).bind λv10=>((v10).asI .i64).bind λn11=>(l9[1]?).bind λv12=>((v12).asSl).bind λs13=>(l7[1]?).bind λv14=>((v14).asI .i64).bind λn15=>(Hp.new r6.2 [.int .i64 0,.sl ⟨none,0,.ex 0⟩]).bind λH16=>(Hp.st H16 r6.2.length 0 (.int .i64 n11)).bind λH17=>(Hp.st H17 r6.2.length (0+1) (.sl s13)).bind λH18=>(bif (n15 != 0) then (some ((.tup [(.int .i64 0),(.int .i64 n15)]),H18)) else ((Hp.ldI H18 .i64 r6.2.length 0).bind λn19=>(Hp.ldSl H18 r6.2.length (0+1)).bind λs20=>(vJ n19 s20 (-1) H18).bind λr21=>((r21.1).asTup 2).bind λl22=>(l22[0]?).bind λv23=>((v23).asI .i64).bind λn24=>(l22[1]?).bind λv25=>((v25).asB).bind λb26=>(dr n24 r21.2).bind λr27=>((r27.1).asI .i64).bind λn28=>some ((.tup [(.int .i64 n28),(.int .i64 0)]),r27.2)))
def eH.tw:=eH.twX F (eG.tw F) (bp.tw F) (df.tw F)
def eH.cs (F:Nat) (vI:as2) (vJ:atu) (dr:as_):Cs:=[(21,mk4 vI),(47,mk11 vJ),(35,mk12 dr)]
theorem eH.eqX (vI:as2) (vJ:atu) (dr:as_) (aa:Sl) (af:Int) (H:Hp):EX (aY (eH.cs F vI vJ dr)) aJ lh0 F Try.f19 [(.agg [(.sl aa),(.int .i64 af)])] H=eH.twX F vI vJ dr aa af H:=by kernel_rfl
theorem eH.k:Ok Try.prog 19 (mk4 (eH.tw F)):=by
 intro args H v H' h
 unfold mk4 at h
 split at h
 ·exact okT (TB:=aJ) Try.func19 (aM (eG.k F) (aM (bp.k F) (aM (df.k F) bA))) ae.no ((eH.eqX F (eG.tw F) (bp.tw F) (df.tw F) _ _ H).trans h) (by kernel_rfl)
 ·cases h
def fm.twX (F:Nat) (aa:Int) (af:Int) (bV:Int) (bW:Int) (bQ:Int) (cD:Int) (lf:Int) (lg:Int) (lj:Int) (ll:Int) (H:Hp):OA:=(Hp.new H [(.int .i64 aa),(.int .i64 af),(.int .i64 bV),(.int .i64 bW),(.int .i64 bQ)]).bind λH11=>(Hp.new H11 [(.int .i64 cD),(.int .i64 lf),(.int .i64 lg),(.int .i64 lj),(.int .i64 ll)]).bind λH12=>(Hp.ldI H12 .i64 H.length 0).bind λn13=>(Hp.ldI H12 .i64 H11.length 0).bind λn14=>(bif (n13 != n14) then (some ((.bool false),H12)) else ((Hp.ldI H12 .i64 H.length 1).bind λn15=>(Hp.ldI H12 .i64 H11.length 1).bind λn16=>(bif (n15 != n16) then (some ((.bool false),H12)) else ((Hp.ldI H12 .i64 H.length 2).bind λn17=>(Hp.ldI H12 .i64 H11.length 2).bind λn18=>(bif (n17 != n18) then (some ((.bool false),H12)) else ((Hp.ldI H12 .i64 H.length 3).bind λn19=>(Hp.ldI H12 .i64 H11.length 3).bind λn20=>(bif (n19 != n20) then (some ((.bool false),H12)) else ((Hp.ldI H12 .i64 H.length 4).bind λn21=>(Hp.ldI H12 .i64 H11.length 4).bind λn22=>(bif (n21 != n22) then (some ((.bool false),H12)) else (some ((.bool true),H12)))))))))))
def fm.tw:=fm.twX F
def mk21 (g:atz) (args:atg) (H:Hp):OA:=match args with
 | [(.agg [(.int .i64 aa),(.int .i64 af),(.int .i64 bV),(.int .i64 bW),(.int .i64 bQ)]),(.agg [(.int .i64 cD),(.int .i64 lf),(.int .i64 lg),(.int .i64 lj),(.int .i64 ll)])]=>g aa af bV bW bQ cD lf lg lj ll H
 | _=>none
theorem mk21_E (g:atz) (aa:Int) (af:Int) (bV:Int) (bW:Int) (bQ:Int) (cD:Int) (lf:Int) (lg:Int) (lj:Int) (ll:Int) (H:Hp):mk21 g [(.agg [(.int .i64 aa),(.int .i64 af),(.int .i64 bV),(.int .i64 bW),(.int .i64 bQ)]),(.agg [(.int .i64 cD),(.int .i64 lf),(.int .i64 lg),(.int .i64 lj),(.int .i64 ll)])] H=g aa af bV bW bQ cD lf lg lj ll H:=rfl
theorem fm.k:Ok Try.prog 76 (mk21 (fm.tw F)):=by
 intro args H v H' h
 unfold mk21 at h
 split at h
 ·exact ok0 Try.func76 (Eq.trans (by kernel_rfl) h) (by kernel_rfl) (by kernel_rfl)
 ·cases h
def bU.l29 (F:Nat) (gh:atz) :Nat->Sl->Sl->Int->Hp->OA
 | 0,_,_,_,_=>none
 | gU+1,kg,CV,iy,H8=>(bif (decide (iy<(kg.n:Int))) then ((Sl.idx kg iy 5).bind λp23=>(Hp.ldI H8 .i64 p23.1 p23.2).bind λn24=>(Hp.ldI H8 .i64 p23.1 (p23.2+1)).bind λn25=>(Hp.ldI H8 .i64 p23.1 (p23.2+2)).bind λn26=>(Hp.ldI H8 .i64 p23.1 (p23.2+3)).bind λn27=>(Hp.ldI H8 .i64 p23.1 (p23.2+4)).bind λn28=>(Sl.idx CV iy 5).bind λp29=>(Hp.ldI H8 .i64 p29.1 p29.2).bind λn30=>(Hp.ldI H8 .i64 p29.1 (p29.2+1)).bind λn31=>(Hp.ldI H8 .i64 p29.1 (p29.2+2)).bind λn32=>(Hp.ldI H8 .i64 p29.1 (p29.2+3)).bind λn33=>(Hp.ldI H8 .i64 p29.1 (p29.2+4)).bind λn34=>(gh n24 n25 n26 n27 n28 n30 n31 n32 n33 n34 H8).bind λr35=>((r35.1).asB).bind λb36=>(bif (!b36) then (some ((.bool false),r35.2)) else (bU.l29 F gh gU kg CV (wrap .i64 (iy+1)) r35.2))) else (some ((.bool true),H8)))
def bU.twX (gh:atz) (aa:Sl) (aA:Sl) (H:Hp):OA:=(bif ((aa.n:Int) != (aA.n:Int)) then (some ((.bool false),H)) else (bU.l29 F gh F aa aA 0 H))
def bU.tw:=bU.twX F (fm.tw F)
def bU.lh29 (gh:atz) (ks:as7) (n:Nat) (tm:Tm) (H:Hp):OA:=match ks,tm 0,tm 1,tm 5 with
 | [],(.sl kg),(.sl CV),(.int .i64 iy)=>bU.l29 F gh n kg CV iy H
 | _,_,_,_=>none
def bU.lh (gh:atz) (p:Nat) (ks:as7) (n:Nat) (tm:Tm) (H:Hp):OA:=bif p.beq 29 then bU.lh29 F gh ks n tm H else (none)
def bU.pn:Nat->List Nat:=cQ [(6,[8])]
def bU.tb:Nat->List (List Nat):=cQ [(6,[[],[],[0,1],[0,1,2],[],[],[4,5],[4,5,6],[0,1,2,3,4,5,6,7],[0,1,2,3,4,5,6,7,8]])]
def mk22 (g:atY) (args:atg) (H:Hp):OA:=match args with
 | [(.sl aa),(.sl aA)]=>g aa aA H
 | _=>none
theorem mk22_E (g:atY) (aa:Sl) (aA:Sl) (H:Hp):mk22 g [(.sl aa),(.sl aA)] H=g aa aA H:=rfl
def bU.cs (F:Nat) (gh:atz):Cs:=[(76,mk21 gh)]
theorem bU.loops (gh:atz):LO (aY (bU.cs F gh)) bU.pn (bU.lh F gh) F Try.f38:=
 (ae.rt (ae.rt (ae.lt (ae.rt (ae.block (ae.la (λn tm H r h=>by change bU.lh29 F gh [] n tm H=_ at h;unfold bU.lh29 at h;split at h;have e:bK tm [(0,_),(1,_),(5,_)]:=⟨‹_›,‹_›,‹_›,trivial⟩;obtain _ | k29:=n;cases h;exact ⟨_,rfl,by rw [<- bM e];exact Eq.trans (by kernel_rfl) h⟩;cases h) λk29=>ae.no))))))
theorem bU.eqX (gh:atz) (aa:Sl) (aA:Sl) (H:Hp):EX (aY (bU.cs F gh)) bU.pn (bU.lh F gh) F Try.f38 [(.sl aa),(.sl aA)] H=bU.twX F gh aa aA H:=by kernel_rfl
theorem bU.k:Ok Try.prog 38 (mk22 (bU.tw F)):=by
 intro args H v H' h
 unfold mk22 at h
 split at h
 ·exact okT (TB:=bU.tb) Try.func38 (aM (fm.k F) bA) (bU.loops F (fm.tw F)) ((bU.eqX F (fm.tw F) _ _ H).trans h) (by kernel_rfl)
 ·cases h
def eJ.twX (F:Nat) (vK:atY) (aa:Sl) (af:Int) (au:Sl) (bu:Int) (H:Hp):OA:=(Hp.new H [(.sl aa),(.int .i64 af)]).bind λH5=>(Hp.new H5 [(.sl au),(.int .i64 bu)]).bind λH6=>(Hp.ldSl H6 H.length 0).bind λs7=>(Hp.ldSl H6 H5.length 0).bind λs8=>(vK s7 s8 H6).bind λr9=>((r9.1).asB).bind λb10=>(bif (!b10) then (some ((.bool false),r9.2)) else ((Hp.ldI r9.2 .i64 H.length 1).bind λn11=>(Hp.ldI r9.2 .i64 H5.length 1).bind λn12=>(bif (n11 != n12) then (some ((.bool false),r9.2)) else (some ((.bool true),r9.2)))))
def eJ.tw:=eJ.twX F (bU.tw F)
def mk23 (g:att) (args:atg) (H:Hp):OA:=match args with
 | [(.agg [(.sl aa),(.int .i64 af)]),(.agg [(.sl au),(.int .i64 bu)])]=>g aa af au bu H
 | _=>none
theorem mk23_E (g:att) (aa:Sl) (af:Int) (au:Sl) (bu:Int) (H:Hp):mk23 g [(.agg [(.sl aa),(.int .i64 af)]),(.agg [(.sl au),(.int .i64 bu)])] H=g aa af au bu H:=rfl
def eJ.cs (F:Nat) (vK:atY):Cs:=[(38,mk22 vK)]
theorem eJ.eqX (vK:atY) (aa:Sl) (af:Int) (au:Sl) (bu:Int) (H:Hp):EX (aY (eJ.cs F vK)) aJ lh0 F Try.f11 [(.agg [(.sl aa),(.int .i64 af)]),(.agg [(.sl au),(.int .i64 bu)])] H=eJ.twX F vK aa af au bu H:=by kernel_rfl
theorem eJ.k:Ok Try.prog 11 (mk23 (eJ.tw F)):=by
 intro args H v H' h
 unfold mk23 at h
 split at h
 ·exact okT (TB:=aJ) Try.func11 (aM (bU.k F) bA) ae.no ((eJ.eqX F (bU.tw F) _ _ _ _ H).trans h) (by kernel_rfl)
 ·cases h
def dL.twX (F:Nat) (vL:ate) (oB:as2) (vM:as2) (vN:as2) (vO:att) (aa:Sl) (af:Int) (H:Hp):OA:=(Hp.new H [(.sl aa),(.int .i64 af)]).bind λH3=>(Hp.ldSl H3 H.length 0).bind λs4=>(Hp.ldI H3 .i64 H.length (0+1)).bind λn5=>(vL s4 n5 1048576 H3).bind λr6=>((r6.1).asI .i64).bind λn7=>(bif (decide (n7<0)) then (some ((.bool true),r6.2)) else ((Hp.ldSl r6.2 H.length 0).bind λs8=>(Hp.ldI r6.2 .i64 H.length (0+1)).bind λn9=>(oB s8 n9 r6.2).bind λr10=>((r10.1).asAgg 2).bind λl11=>(l11[0]?).bind λv12=>((v12).asSl).bind λs13=>(l11[1]?).bind λv14=>((v14).asI .i64).bind λn15=>(vM s13 n15 r10.2).bind λr16=>((r16.1).asTup 2).bind λl17=>(l17[0]?).bind λv18=>((v18).asI .i64).bind λn19=>(l17[1]?).bind λv20=>((v20).asI .i64).bind λn21=>(Hp.ldSl r16.2 H.length 0).bind λs22=>(Hp.ldI r16.2 .i64 H.length (0+1)).bind λn23=>(oB s22 n23 r16.2).bind λr24=>((r24.1).asAgg 2).bind λl25=>(l25[0]?).bind λv26=>((v26).asSl).bind λs27=>(l25[1]?).bind λv28=>((v28).asI .i64).bind λn29=>(Hp.new r24.2 [.sl ⟨none,0,.ex 0⟩,.int .i64 0]).bind λH30=>(Hp.st H30 r24.2.length 0 (.sl s27)).bind λH31=>(Hp.st H31 r24.2.length (0+1) (.int .i64 n29)).bind λH32=>(Hp.ldSl H32 r24.2.length 0).bind λs33=>(Hp.ldI H32 .i64 r24.2.length (0+1)).bind λn34=>(vN s33 n34 H32).bind λr35=>((r35.1).asTup 2).bind λl36=>(l36[0]?).bind λv37=>((v37).asI .i64).bind λn38=>(l36[1]?).bind λv39=>((v39).asI .i64).bind λn40=>(bif (n38 != n19) then (some ((.bool false),r35.2)) else ((bif (n40 != n21) then (some ((.bool false),r35.2)) else ((Hp.ldSl r35.2 r24.2.length 0).bind λs41=>(Hp.ldI r35.2 .i64 r24.2.length (0+1)).bind λn42=>(Hp.ldSl r35.2 H.length 0).bind λs43=>(Hp.ldI r35.2 .i64 H.length (0+1)).bind λn44=>(oB s43 n44 r35.2).bind λr45=>((r45.1).asAgg 2).bind λl46=>(l46[0]?).bind λv47=>((v47).asSl).bind λs48=>(l46[1]?).bind λv49=>((v49).asI .i64).bind λn50=>(if aZ r35.2 r45.2 then ((vO s41 n42 s48 n50 r45.2).bind λr51=>((r51.1).asB).bind λb52=>(bif (!b52) then (some ((.bool false),r51.2)) else (some ((.bool true),r51.2)))) else none)))))))
def dL.tw:=dL.twX F (dZ.tw F) (dM.tw F) (eC.tw F) (eH.tw F) (eJ.tw F)
def dL.pn:Nat->List Nat:=cQ [(10,[3])]
def dL.tb:Nat->List (List Nat):=cQ [(10,[[],[],[1],[0,1,2],[0,1,2,3]])]
def dL.cs (F:Nat) (vL:ate) (oB:as2) (vM:as2) (vN:as2) (vO:att):Cs:=[(7,mk1 vL),(9,mk4 oB),(18,mk4 vM),(19,mk4 vN),(11,mk23 vO)]
theorem dL.eqX (vL:ate) (oB:as2) (vM:as2) (vN:as2) (vO:att) (aa:Sl) (af:Int) (H:Hp):EX (aY (dL.cs F vL oB vM vN vO)) dL.pn lh0 F Try.f5 [(.agg [(.sl aa),(.int .i64 af)])] H=dL.twX F vL oB vM vN vO aa af H:=by kernel_rfl
theorem dL.k:Ok Try.prog 5 (mk4 (dL.tw F)):=by
 intro args H v H' h
 unfold mk4 at h
 split at h
 ·exact okT (TB:=dL.tb) Try.func5 (aM (dZ.k F) (aM (dM.k F) (aM (eC.k F) (aM (eH.k F) (aM (eJ.k F) bA))))) ae.no ((dL.eqX F (dZ.tw F) (dM.tw F) (eC.tw F) (eH.tw F) (eJ.tw F) _ _ H).trans h) (by kernel_rfl)
 ·cases h
theorem dL.T {F:Nat} {aa:Sl} {af:Int} {H:Hp} {v:AV} {H':Hp} (h:dL.tw F aa af H=some (v,H')):Go.AE.T Try.prog 5 [(.agg [(.sl aa),(.int .i64 af)])] H v H':=dL.k F _ _ _ _ ((mk4_E (dL.tw F) aa af H).trans h)
end
end Go.Proofs.Ytppbogklbhfboaa.AE
