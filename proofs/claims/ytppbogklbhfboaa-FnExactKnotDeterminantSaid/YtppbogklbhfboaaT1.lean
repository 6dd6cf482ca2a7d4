import Derived.Test.YtppbogklbhfboaaTab1
import Derived.Test.YtppbogklbhfboaaE2
set_option linter.unusedVariables false
set_option linter.unusedSimpArgs false
namespace Go.Proofs.Ytppbogklbhfboaa.AE
open Go Go.AE Go.Proofs Go.RowKit Go.Maps IntKind
variable (F:Nat)
set_option linter.unusedVariables false
set_option maxHeartbeats 4000000
set_option maxRecDepth 100000
noncomputable section
def fp.twX (F:Nat) (aa:Sl) (aA:Int) (H:Hp):OA:=(bif (decide ((wrap .i64 (aA - (aa.n:Int)))<0)) then (some ((.int .i64 (-1)),H)) else (some ((.int .i64 (wrap .i64 (aA - (aa.n:Int)))),H)))
def fp.tw:=fp.twX F
def mk0 (g:ate) (args:att) (H:Hp):OA:=match args with
 | [(.sl aa),(.int .i64 aA)]=>g aa aA H
 | _=>none
theorem mk0_E (g:ate) (aa:Sl) (aA:Int) (H:Hp):mk0 g [(.sl aa),(.int .i64 aA)] H=g aa aA H:=rfl
theorem fp.k:Ok Try.prog 25 (mk0 (fp.tw F)):=by
 intro args H v H' h
 unfold mk0 at h
 split at h
 ·exact ok0 Try.func25 (Eq.trans (by kernel_rfl) h) (by kernel_rfl) (by kernel_rfl)
 ·cases h
def d_.twX (F:Nat) (r_:ate) (aa:Sl) (af:Int) (au:Int) (H:Hp):OA:=(Hp.new H [(.sl aa),(.int .i64 af)]).bind λH4=>(Hp.ldSl H4 H.length 0).bind λs5=>(r_ s5 au H4).bind λr6=>((r6.1).asI .i64).bind λn7=>(bif (decide (n7<0)) then (some ((.int .i64 (-1)),r6.2)) else (some ((.int .i64 n7),r6.2)))
def d_.tw:=d_.twX F (fp.tw F)
def mk1 (g:atr) (args:att) (H:Hp):OA:=match args with
 | [(.agg [(.sl aa),(.int .i64 af)]),(.int .i64 au)]=>g aa af au H
 | _=>none
theorem mk1_E (g:atr) (aa:Sl) (af:Int) (au:Int) (H:Hp):mk1 g [(.agg [(.sl aa),(.int .i64 af)]),(.int .i64 au)] H=g aa af au H:=rfl
def d_.cs (F:Nat) (r_:ate):Cs:=[(25,mk0 r_)]
theorem d_.eqX (r_:ate) (aa:Sl) (af:Int) (au:Int) (H:Hp):EX (aY (d_.cs F r_)) aJ lh0 F Try.f7 [(.agg [(.sl aa),(.int .i64 af)]),(.int .i64 au)] H=d_.twX F r_ aa af au H:=by kernel_rfl
theorem d_.k:Ok Try.prog 7 (mk1 (d_.tw F)):=by
 intro args H v H' h
 unfold mk1 at h
 split at h
 ·exact okT (TB:=aJ) Try.func7 (aM (fp.k F) bB) ae.no ((d_.eqX F (fp.tw F) _ _ _ H).trans h) (by kernel_rfl)
 ·cases h
def fh.twX (F:Nat) (aa:Int) (af:Int) (bW:Int) (bX:Int) (bR:Int) (H:Hp):OA:=(Hp.new H [(.int .i64 aa),(.int .i64 af),(.int .i64 bW),(.int .i64 bX),(.int .i64 bR)]).bind λH6=>(Hp.new H6 [.int .i64 0,.int .i64 0,.int .i64 0,.int .i64 0,.int .i64 0]).bind λH7=>(Hp.new H7 [.int .i64 0,.int .i64 0,.int .i64 0,.int .i64 0,.int .i64 0]).bind λH8=>(Hp.ldI H8 .i64 H.length 0).bind λn9=>(Hp.st H8 H7.length 0 (.int .i64 n9)).bind λH10=>(Hp.ldI H10 .i64 H.length 1).bind λn11=>(Hp.st H10 H7.length 1 (.int .i64 n11)).bind λH12=>(Hp.ldI H12 .i64 H.length 2).bind λn13=>(Hp.st H12 H7.length 2 (.int .i64 n13)).bind λH14=>(Hp.ldI H14 .i64 H.length 3).bind λn15=>(Hp.st H14 H7.length 3 (.int .i64 n15)).bind λH16=>(Hp.ldI H16 .i64 H.length 4).bind λn17=>(Hp.st H16 H7.length 4 (.int .i64 n17)).bind λH18=>(Hp.ldI H18 .i64 H7.length 0).bind λn19=>(Hp.ldI H18 .i64 H7.length (0+1)).bind λn20=>(Hp.ldI H18 .i64 H7.length (0+2)).bind λn21=>(Hp.ldI H18 .i64 H7.length (0+3)).bind λn22=>(Hp.ldI H18 .i64 H7.length (0+4)).bind λn23=>(Hp.st H18 H6.length 0 (.int .i64 n19)).bind λH24=>(Hp.st H24 H6.length (0+1) (.int .i64 n20)).bind λH25=>(Hp.st H25 H6.length (0+1+1) (.int .i64 n21)).bind λH26=>(Hp.st H26 H6.length (0+1+1+1) (.int .i64 n22)).bind λH27=>(Hp.st H27 H6.length (0+1+1+1+1) (.int .i64 n23)).bind λH28=>(Hp.ldI H28 .i64 H6.length 0).bind λn29=>(Hp.ldI H28 .i64 H6.length (0+1)).bind λn30=>(Hp.ldI H28 .i64 H6.length (0+2)).bind λn31=>(Hp.ldI H28 .i64 H6.length (0+3)).bind λn32=>(Hp.ldI H28 .i64 H6.length (0+4)).bind λn33=>some ((.agg [(.int .i64 n29),(.int .i64 n30),(.int .i64 n31),(.int .i64 n32),(.int .i64 n33)]),H28)
def fh.tw:=fh.twX F
def mk2 (g:atu) (args:att) (H:Hp):OA:=match args with
 | [(.agg [(.int .i64 aa),(.int .i64 af),(.int .i64 bW),(.int .i64 bX),(.int .i64 bR)])]=>g aa af bW bX bR H
 | _=>none
theorem mk2_E (g:atu) (aa:Int) (af:Int) (bW:Int) (bX:Int) (bR:Int) (H:Hp):mk2 g [(.agg [(.int .i64 aa),(.int .i64 af),(.int .i64 bW),(.int .i64 bX),(.int .i64 bR)])] H=g aa af bW bX bR H:=rfl
theorem fh.k:Ok Try.prog 59 (mk2 (fh.tw F)):=by
 intro args H v H' h
 unfold mk2 at h
 split at h
 ·exact ok0 Try.func59 (Eq.trans (by kernel_rfl) h) (by kernel_rfl) (by kernel_rfl)
 ·cases h
def cg.l29 (F:Nat) (fZ:atu) :Nat->Sl->Sl->Int->Hp->OA
 | 0,_,_,_,_=>none
 | gW+1,kj,wZ,eA,H7=>(bif (decide (eA<(kj.n:Int))) then ((Sl.idx kj eA 5).bind λp32=>(Hp.ldI H7 .i64 p32.1 p32.2).bind λn33=>(Hp.ldI H7 .i64 p32.1 (p32.2+1)).bind λn34=>(Hp.ldI H7 .i64 p32.1 (p32.2+2)).bind λn35=>(Hp.ldI H7 .i64 p32.1 (p32.2+3)).bind λn36=>(Hp.ldI H7 .i64 p32.1 (p32.2+4)).bind λn37=>(fZ n33 n34 n35 n36 n37 H7).bind λr38=>((r38.1).asAgg 5).bind λl39=>(l39[0]?).bind λv40=>((v40).asI .i64).bind λn41=>(l39[1]?).bind λv42=>((v42).asI .i64).bind λn43=>(l39[2]?).bind λv44=>((v44).asI .i64).bind λn45=>(l39[3]?).bind λv46=>((v46).asI .i64).bind λn47=>(l39[4]?).bind λv48=>((v48).asI .i64).bind λn49=>(Sl.idx wZ eA 5).bind λp50=>(Hp.st r38.2 p50.1 p50.2 (.int .i64 n41)).bind λH51=>(Hp.st H51 p50.1 (p50.2+1) (.int .i64 n43)).bind λH52=>(Hp.st H52 p50.1 (p50.2+1+1) (.int .i64 n45)).bind λH53=>(Hp.st H53 p50.1 (p50.2+1+1+1) (.int .i64 n47)).bind λH54=>(Hp.st H54 p50.1 (p50.2+1+1+1+1) (.int .i64 n49)).bind λH55=>cg.l29 F fZ gW kj wZ (wrap .i64 (eA+1)) H55) else (some ((.sl wZ),H7)))
def cg.twX (fZ:atu) (aa:Sl) (H:Hp):OA:=(Hp.mk H [.int .i64 0,.int .i64 0,.int .i64 0,.int .i64 0,.int .i64 0] 40 (aa.n:Int) (aa.n:Int)).bind λm2=>cg.l29 F fZ F aa m2.1 0 m2.2
def cg.tw:=cg.twX F (fh.tw F)
def cg.lh29 (fZ:atu) (ks:atj) (n:Nat) (tm:Tm) (H:Hp):OA:=match ks,tm 0,tm 3,tm 4 with
 | [],(.sl kj),(.sl wZ),(.int .i64 eA)=>cg.l29 F fZ n kj wZ eA H
 | _,_,_,_=>none
def cg.lh (fZ:atu) (p:Nat) (ks:atj) (n:Nat) (tm:Tm) (H:Hp):OA:=bif p.beq 29 then cg.lh29 F fZ ks n tm H else (none)
def mk3 (g:atg) (args:att) (H:Hp):OA:=match args with
 | [(.sl aa)]=>g aa H
 | _=>none
theorem mk3_E (g:atg) (aa:Sl) (H:Hp):mk3 g [(.sl aa)] H=g aa H:=rfl
def cg.cs (F:Nat) (fZ:atu):Cs:=[(59,mk2 fZ)]
theorem cg.loops (fZ:atu):LO (aY (cg.cs F fZ)) aJ (cg.lh F fZ) F Try.f31:=
 (ae.rt (ae.rt (ae.lt (ae.rt (ae.block (ae.la (λn tm H r h=>by change cg.lh29 F fZ [] n tm H=_ at h;unfold cg.lh29 at h;split at h;have e:bL tm [(0,_),(3,_),(4,_)]:=⟨‹_›,‹_›,‹_›,trivial⟩;obtain _ | k29:=n;cases h;exact ⟨_,rfl,by rw [<- bN e];exact Eq.trans (by kernel_rfl) h⟩;cases h) λk29=>ae.no))))))
theorem cg.eqX (fZ:atu) (aa:Sl) (H:Hp):EX (aY (cg.cs F fZ)) aJ (cg.lh F fZ) F Try.f31 [(.sl aa)] H=cg.twX F fZ aa H:=by kernel_rfl
theorem cg.k:Ok Try.prog 31 (mk3 (cg.tw F)):=by
 intro args H v H' h
 unfold mk3 at h
 split at h
 ·exact okT (TB:=aJ) Try.func31 (aM (fh.k F) bB) (cg.loops F (fh.tw F)) ((cg.eqX F (fh.tw F) _ H).trans h) (by kernel_rfl)
 ·cases h
def dN.twX (F:Nat) (sb:atg) (aa:Sl) (af:Int) (H:Hp):OA:=(Hp.new H [(.sl aa),(.int .i64 af)]).bind λH3=>(Hp.new H3 [.sl ⟨none,0,.ex 0⟩,.int .i64 0]).bind λH4=>(Hp.new H4 [.sl ⟨none,0,.ex 0⟩,.int .i64 0]).bind λH5=>(Hp.ldSl H5 H.length 0).bind λs6=>(sb s6 H5).bind λr7=>((r7.1).asSl).bind λs8=>(Hp.st r7.2 H4.length 0 (.sl s8)).bind λH9=>(Hp.ldI H9 .i64 H.length 1).bind λn10=>(Hp.st H9 H4.length 1 (.int .i64 n10)).bind λH11=>(Hp.ldSl H11 H4.length 0).bind λs12=>(Hp.ldI H11 .i64 H4.length (0+1)).bind λn13=>(Hp.st H11 H3.length 0 (.sl s12)).bind λH14=>(Hp.st H14 H3.length (0+1) (.int .i64 n13)).bind λH15=>(Hp.ldSl H15 H3.length 0).bind λs16=>(Hp.ldI H15 .i64 H3.length (0+1)).bind λn17=>some ((.agg [(.sl s16),(.int .i64 n17)]),H15)
def dN.tw:=dN.twX F (cg.tw F)
def mk4 (g:ate) (args:att) (H:Hp):OA:=match args with
 | [(.agg [(.sl aa),(.int .i64 af)])]=>g aa af H
 | _=>none
theorem mk4_E (g:ate) (aa:Sl) (af:Int) (H:Hp):mk4 g [(.agg [(.sl aa),(.int .i64 af)])] H=g aa af H:=rfl
def dN.cs (F:Nat) (sb:atg):Cs:=[(31,mk3 sb)]
theorem dN.eqX (sb:atg) (aa:Sl) (af:Int) (H:Hp):EX (aY (dN.cs F sb)) aJ lh0 F Try.f9 [(.agg [(.sl aa),(.int .i64 af)])] H=dN.twX F sb aa af H:=by kernel_rfl
theorem dN.k:Ok Try.prog 9 (mk4 (dN.tw F)):=by
 intro args H v H' h
 unfold mk4 at h
 split at h
 ·exact okT (TB:=aJ) Try.func9 (aM (cg.k F) bB) ae.no ((dN.eqX F (cg.tw F) _ _ H).trans h) (by kernel_rfl)
 ·cases h
def cS.twX (F:Nat) (aa:Int) (aA:Int) (cM:Int) (H:Hp):OA:=(bif (decide (aa>=aA)) then (some ((.bool (decide (aa<=cM))),H)) else (some ((.bool false),H)))
def cS.tw:=cS.twX F
def mk5 (g:atp) (args:att) (H:Hp):OA:=match args with
 | [(.int .i64 aa),(.int .i64 aA),(.int .i64 cM)]=>g aa aA cM H
 | _=>none
theorem mk5_E (g:atp) (aa:Int) (aA:Int) (cM:Int) (H:Hp):mk5 g [(.int .i64 aa),(.int .i64 aA),(.int .i64 cM)] H=g aa aA cM H:=rfl
theorem cS.k:Ok Try.prog 39 (mk5 (cS.tw F)):=by
 intro args H v H' h
 unfold mk5 at h
 split at h
 ·exact ok0 Try.func39 (Eq.trans (by kernel_rfl) h) (by kernel_rfl) (by kernel_rfl)
 ·cases h
def cX.twX (F:Nat) (aa:Int) (af:Int) (bW:Int) (bX:Int) (bR:Int) (cE:Int) (H:Hp):OA:=(Hp.new H [(.int .i64 aa),(.int .i64 af),(.int .i64 bW),(.int .i64 bX),(.int .i64 bR)]).bind λH7=>(Hp.ldI H7 .i64 H.length 0).bind λn8=>(Hp.ldI H7 .i64 H.length 1).bind λn9=>(Hp.ldI H7 .i64 H.length 2).bind λn10=>(Hp.ldI H7 .i64 H.length 3).bind λn11=>(Hp.new H7 [(.int .i64 n8),(.int .i64 n9),(.int .i64 n10),(.int .i64 n11)]).bind λH12=>(Sl.idx (⟨some (H7.length,0),4,.ex 4⟩:Sl) cE 1).bind λp13=>(Hp.ldI H12 .i64 p13.1 p13.2).bind λn14=>some ((.int .i64 n14),H12)
def cX.tw:=cX.twX F
def mk6 (g:atn) (args:att) (H:Hp):OA:=match args with
 | [(.agg [(.int .i64 aa),(.int .i64 af),(.int .i64 bW),(.int .i64 bX),(.int .i64 bR)]),(.int .i64 cE)]=>g aa af bW bX bR cE H
 | _=>none
theorem mk6_E (g:atn) (aa:Int) (af:Int) (bW:Int) (bX:Int) (bR:Int) (cE:Int) (H:Hp):mk6 g [(.agg [(.int .i64 aa),(.int .i64 af),(.int .i64 bW),(.int .i64 bX),(.int .i64 bR)]),(.int .i64 cE)] H=g aa af bW bX bR cE H:=rfl
theorem cX.k:Ok Try.prog 95 (mk6 (cX.tw F)):=by
 intro args H v H' h
 unfold mk6 at h
 split at h
 ·exact ok0 Try.func95 (Eq.trans (by kernel_rfl) h) (by kernel_rfl) (by kernel_rfl)
 ·cases h
def cY.twX (F:Nat) (aa:Int) (af:Int) (bW:Int) (bX:Int) (bR:Int) (cE:Int) (H:Hp):OA:=(Hp.new H [(.int .i64 aa),(.int .i64 af),(.int .i64 bW),(.int .i64 bX),(.int .i64 bR)]).bind λH7=>(bif (cE==0) then (some ((.bool true),H7)) else ((bif (cE==3) then ((Hp.ldI H7 .i64 H.length 4).bind λn8=>(bif (n8==1) then (some ((.bool true),H7)) else ((bif (cE==1) then ((Hp.ldI H7 .i64 H.length 4).bind λn9=>some ((.bool (n9==(-1))),H7)) else (some ((.bool false),H7)))))) else ((bif (cE==1) then ((Hp.ldI H7 .i64 H.length 4).bind λn10=>some ((.bool (n10==(-1))),H7)) else (some ((.bool false),H7)))))))
def cY.tw:=cY.twX F
theorem cY.k:Ok Try.prog 96 (mk6 (cY.tw F)):=by
 intro args H v H' h
 unfold mk6 at h
 split at h
 ·exact ok0 Try.func96 (Eq.trans (by kernel_rfl) h) (by kernel_rfl) (by kernel_rfl)
 ·cases h
def bc.l3927 (F:Nat) (bC:atn) (bY:atp) (bD:atn) (C61_:aud):Nat->Nat->Nat->Int->Sl->Sl->Int->Nat->Nat->Int->Hp->OA
 | 0,_,_,_,_,_,_,_,_,_,_=>none
 | U_+1,mF,w_,gX,pz,pA,f_,ga,iM,gp,H126=>(bif (decide (gp<4)) then ((Hp.ldI H126 .i64 ga iM).bind λn151=>(Hp.ldI H126 .i64 ga (iM+1)).bind λn152=>(Hp.ldI H126 .i64 ga (iM+2)).bind λn153=>(Hp.ldI H126 .i64 ga (iM+3)).bind λn154=>(Hp.ldI H126 .i64 ga (iM+4)).bind λn155=>(bC n151 n152 n153 n154 n155 gp H126).bind λr156=>((r156.1).asI .i64).bind λn157=>(bY n157 0 (wrap .i64 (gX - 1)) r156.2).bind λr158=>((r158.1).asB).bind λb159=>(bif (!b159) then (some ((.bool false),r158.2)) else ((Hp.ldI r158.2 .i64 ga iM).bind λn160=>(Hp.ldI r158.2 .i64 ga (iM+1)).bind λn161=>(Hp.ldI r158.2 .i64 ga (iM+2)).bind λn162=>(Hp.ldI r158.2 .i64 ga (iM+3)).bind λn163=>(Hp.ldI r158.2 .i64 ga (iM+4)).bind λn164=>(bD n160 n161 n162 n163 n164 gp r158.2).bind λr165=>((r165.1).asB).bind λb166=>(bif b166 then ((Sl.idx pz n157 1).bind λp167=>(Hp.ldB r165.2 p167.1 p167.2).bind λb168=>(bif b168 then (some ((.bool false),r165.2)) else ((Sl.idx pz n157 1).bind λp169=>(Hp.st r165.2 p169.1 p169.2 (.bool true)).bind λH170=>bc.l3927 F bC bY bD C61_ U_ mF w_ gX pz pA f_ ga iM (wrap .i64 (gp+1)) H170))) else ((Sl.idx pA n157 1).bind λp171=>(Hp.ldB r165.2 p171.1 p171.2).bind λb172=>(bif b172 then (some ((.bool false),r165.2)) else ((Sl.idx pA n157 1).bind λp173=>(Hp.st r165.2 p173.1 p173.2 (.bool true)).bind λH174=>bc.l3927 F bC bY bD C61_ U_ mF w_ gX pz pA f_ ga iM (wrap .i64 (gp+1)) H174))))))) else (C61_ mF w_ gX pz pA (wrap .i64 (f_+1)) H126))
termination_by structural n=>n
def bc.l61 (F:Nat) (bC:atn) (bY:atp) (bD:atn) :Nat->Nat->Nat->Int->Sl->Sl->Int->Hp->OA
 | 0,_,_,_,_,_,_,_=>none
 | bF+1,fC,eb,gq,kl,e_,gY,H16=>(Hp.ldSl H16 fC eb).bind λs96=>(bif (decide (gY<(s96.n:Int))) then ((Hp.ldSl H16 fC eb).bind λs97=>(Sl.idx s97 gY 5).bind λp98=>(Hp.ldI H16 .i64 p98.1 p98.2).bind λn99=>(Hp.ldI H16 .i64 p98.1 (p98.2+1)).bind λn100=>(Hp.ldI H16 .i64 p98.1 (p98.2+2)).bind λn101=>(Hp.ldI H16 .i64 p98.1 (p98.2+3)).bind λn102=>(Hp.ldI H16 .i64 p98.1 (p98.2+4)).bind λn103=>(Hp.new H16 [.int .i64 0,.int .i64 0,.int .i64 0,.int .i64 0,.int .i64 0]).bind λH104=>(Hp.st H104 H16.length 0 (.int .i64 n99)).bind λH105=>(Hp.st H105 H16.length (0+1) (.int .i64 n100)).bind λH106=>(Hp.st H106 H16.length (0+1+1) (.int .i64 n101)).bind λH107=>(Hp.st H107 H16.length (0+1+1+1) (.int .i64 n102)).bind λH108=>(Hp.st H108 H16.length (0+1+1+1+1) (.int .i64 n103)).bind λH109=>(Hp.ldI H109 .i64 H16.length 4).bind λn110=>(bif (n110 != 1) then ((Hp.ldI H109 .i64 H16.length 4).bind λn111=>(bif (n111 != (-1)) then (some ((.bool false),H109)) else (bc.l3927 F bC bY bD (bc.l61 F bC bY bD bF) F fC eb gq kl e_ gY H16.length 0 0 H109))) else (bc.l3927 F bC bY bD (bc.l61 F bC bY bD bF) F fC eb gq kl e_ gY H16.length 0 0 H109))) else (some ((.bool true),H16)))
termination_by structural n=>n
def bc.twX (bC:atn) (bY:atp) (bD:atn) (aa:Sl) (af:Int) (H:Hp):OA:=(Hp.new H [(.sl aa),(.int .i64 af)]).bind λH3=>(Hp.ldSl H3 H.length 0).bind λs4=>(Hp.mk H3 [.bool false] 1 (wrap .i64 (2 * (s4.n:Int))) (wrap .i64 (2 * (s4.n:Int)))).bind λm5=>(Hp.mk m5.2 [.bool false] 1 (wrap .i64 (2 * (s4.n:Int))) (wrap .i64 (2 * (s4.n:Int)))).bind λm6=>bc.l61 F bC bY bD F H.length 0 (wrap .i64 (2 * (s4.n:Int))) m5.1 m6.1 0 m6.2
def bc.tw:=bc.twX F (cX.tw F) (cS.tw F) (cY.tw F)
def bc.lh61 (bC:atn) (bY:atp) (bD:atn) (ks:atj) (n:Nat) (tm:Tm) (H:Hp):OA:=match ks,tm 1,tm 3,tm 4,tm 5,tm 6 with
 | [],(.ptr fC eb),(.int .i64 gq),(.sl kl),(.sl e_),(.int .i64 gY)=>bc.l61 F bC bY bD n fC eb gq kl e_ gY H
 | _,_,_,_,_,_=>none
def bc.lh3927 (bC:atn) (bY:atp) (bD:atn) (ks:atj) (n:Nat) (tm:Tm) (H:Hp):OA:=match ks,tm 1,tm 3,tm 4,tm 5,tm 6,tm 7,tm 8 with
 | [bF],(.ptr mF w_),(.int .i64 gX),(.sl pz),(.sl pA),(.int .i64 f_),(.ptr ga iM),(.int .i64 gp)=>bc.l3927 F bC bY bD (bc.l61 F bC bY bD bF) n mF w_ gX pz pA f_ ga iM gp H
 | _,_,_,_,_,_,_,_=>none
def bc.lh (bC:atn) (bY:atp) (bD:atn) (p:Nat) (ks:atj) (n:Nat) (tm:Tm) (H:Hp):OA:=bif p.beq 3927 then bc.lh3927 F bC bY bD ks n tm H else (bif p.beq 61 then bc.lh61 F bC bY bD ks n tm H else (none))
def bc.tb:Nat->List (List Nat):=cR [(2,[[],[0],[],[2],[0,1],[0,1,2,3,4]])]
def bc.cs (F:Nat) (bC:atn) (bY:atp) (bD:atn):Cs:=[(95,mk6 bC),(39,mk5 bY),(96,mk6 bD)]
theorem bc.loops (bC:atn) (bY:atp) (bD:atn):LO (aY (bc.cs F bC bY bD)) aJ (bc.lh F bC bY bD) F Try.f50:=
 (ae.rt (ae.rt (ae.rt (ae.lt (ae.rt (ae.block (ae.la (λn tm H r h=>by change bc.lh61 F bC bY bD [] n tm H=_ at h;unfold bc.lh61 at h;split at h;have e:bL tm [(1,_),(3,_),(4,_),(5,_),(6,_)]:=⟨‹_›,‹_›,‹_›,‹_›,‹_›,trivial⟩;obtain _ | k61:=n;cases h;exact ⟨_,rfl,by rw [<- bN e];exact Eq.trans (by kernel_rfl) h⟩;cases h) λk61=>(ae.rt (ae.lt (ae.block (ae.rt (ae.rt (ae.rt (ae.block (ae.la (λn tm H r h=>by change bc.lh3927 F bC bY bD [k61] n tm H=_ at h;unfold bc.lh3927 at h;split at h;have e:bL tm [(1,_),(3,_),(4,_),(5,_),(6,_),(7,_),(8,_)]:=⟨‹_›,‹_›,‹_›,‹_›,‹_›,‹_›,‹_›,trivial⟩;cases (show [k61]=_ from ‹_›);obtain _ | k3927:=n;cases h;exact ⟨_,rfl,by rw [<- bN e];exact Eq.trans (by kernel_rfl) h⟩;cases h) λk3927=>ae.no)))))))))))))))
theorem bc.eqX (bC:atn) (bY:atp) (bD:atn) (aa:Sl) (af:Int) (H:Hp):EX (aY (bc.cs F bC bY bD)) aJ (bc.lh F bC bY bD) F Try.f50 [(.agg [(.sl aa),(.int .i64 af)])] H=bc.twX F bC bY bD aa af H:=by kernel_rfl
theorem bc.k:Ok Try.prog 50 (mk4 (bc.tw F)):=by
 intro args H v H' h
 unfold mk4 at h
 split at h
 ·exact okT (TB:=bc.tb) Try.func50 (aM (cX.k F) (aM (cS.k F) (aM (cY.k F) bB))) (bc.loops F (cX.tw F) (cS.tw F) (cY.tw F)) ((bc.eqX F (cX.tw F) (cS.tw F) (cY.tw F) _ _ H).trans h) (by kernel_rfl)
 ·cases h
def aK.j3 (F:Nat) (bC:atn) (bD:atn) (C13_:atT) (nD:Int) (sd:Bool) (se:Nat) (agN:Nat) (sf:Int) (H147:Hp):OA:=C13_ nD sd se agN (wrap .i64 (sf+1)) H147
def aK.j4 (bC:atn) (bD:atn) (C13_:atT) (gZ:Int) (si:Bool) (AK:Nat) (agO:Nat) (sj:Int) (H134:Hp):OA:=aK.j3 F bC bD C13_ gZ si AK agO sj H134
def aK.l213 (F:Nat) (bC:atn) (bD:atn) (C13_:atT):Nat->Int->Bool->Nat->Nat->Int->Int->Hp->OA
 | 0,_,_,_,_,_,_,_=>none
 | Va+1,g_,hG,kn,pB,fD,c_,H103=>(bif (decide (c_<4)) then ((Hp.ldSl H103 kn pB).bind λs148=>(Sl.idx s148 fD 5).bind λp149=>(Hp.ldI H103 .i64 p149.1 p149.2).bind λn150=>(Hp.ldI H103 .i64 p149.1 (p149.2+1)).bind λn151=>(Hp.ldI H103 .i64 p149.1 (p149.2+2)).bind λn152=>(Hp.ldI H103 .i64 p149.1 (p149.2+3)).bind λn153=>(Hp.ldI H103 .i64 p149.1 (p149.2+4)).bind λn154=>(bC n150 n151 n152 n153 n154 c_ H103).bind λr155=>((r155.1).asI .i64).bind λn156=>(bif (n156==g_) then ((Hp.ldSl r155.2 kn pB).bind λs157=>(Sl.idx s157 fD 5).bind λp158=>(Hp.ldI r155.2 .i64 p158.1 p158.2).bind λn159=>(Hp.ldI r155.2 .i64 p158.1 (p158.2+1)).bind λn160=>(Hp.ldI r155.2 .i64 p158.1 (p158.2+2)).bind λn161=>(Hp.ldI r155.2 .i64 p158.1 (p158.2+3)).bind λn162=>(Hp.ldI r155.2 .i64 p158.1 (p158.2+4)).bind λn163=>(bD n159 n160 n161 n162 n163 c_ r155.2).bind λr164=>((r164.1).asB).bind λb165=>(bif (b165==hG) then (some ((.tup [(.int .i64 fD),(.int .i64 c_)]),r164.2)) else (aK.l213 F bC bD C13_ Va g_ hG kn pB fD (wrap .i64 (c_+1)) r164.2))) else (aK.l213 F bC bD C13_ Va g_ hG kn pB fD (wrap .i64 (c_+1)) r155.2))) else (aK.j4 F bC bD C13_ g_ hG kn pB fD H103))
termination_by structural n=>n
def aK.l13 (F:Nat) (bC:atn) (bD:atn) :Nat->Int->Bool->Nat->Nat->Int->Hp->OA
 | 0,_,_,_,_,_,_=>none
 | mG+1,cu,fE,eB,gb,ko,H15=>(Hp.ldSl H15 eB gb).bind λs91=>(bif (decide (ko<(s91.n:Int))) then (aK.l213 F bC bD (aK.l13 F bC bD mG) F cu fE eB gb ko 0 H15) else (some ((.tup [(.int .i64 (-1)),(.int .i64 (-1))]),H15)))
termination_by structural n=>n
def aK.twX (bC:atn) (bD:atn) (aa:Sl) (af:Int) (au:Int) (iN:Bool) (H:Hp):OA:=(Hp.new H [(.sl aa),(.int .i64 af)]).bind λH5=>aK.l13 F bC bD F au iN H.length 0 0 H5
def aK.tw:=aK.twX F (cX.tw F) (cY.tw F)
def aK.lh13 (bC:atn) (bD:atn) (ks:atj) (n:Nat) (tm:Tm) (H:Hp):OA:=match ks,tm 1,tm 2,tm 3,tm 8 with
 | [],(.int .i64 cu),(.bool fE),(.ptr eB gb),(.int .i64 ko)=>aK.l13 F bC bD n cu fE eB gb ko H
 | _,_,_,_,_=>none
def aK.lh213 (bC:atn) (bD:atn) (ks:atj) (n:Nat) (tm:Tm) (H:Hp):OA:=match ks,tm 1,tm 2,tm 3,tm 8,tm 9 with
 | [mG],(.int .i64 g_),(.bool hG),(.ptr kn pB),(.int .i64 fD),(.int .i64 c_)=>aK.l213 F bC bD (aK.l13 F bC bD mG) n g_ hG kn pB fD c_ H
 | _,_,_,_,_,_=>none
def aK.lh (bC:atn) (bD:atn) (p:Nat) (ks:atj) (n:Nat) (tm:Tm) (H:Hp):OA:=bif p.beq 213 then aK.lh213 F bC bD ks n tm H else (bif p.beq 13 then aK.lh13 F bC bD ks n tm H else (none))
def mk7 (g:atw) (args:att) (H:Hp):OA:=match args with
 | [(.agg [(.sl aa),(.int .i64 af)]),(.int .i64 au),(.bool iN)]=>g aa af au iN H
 | _=>none
theorem mk7_E (g:atw) (aa:Sl) (af:Int) (au:Int) (iN:Bool) (H:Hp):mk7 g [(.agg [(.sl aa),(.int .i64 af)]),(.int .i64 au),(.bool iN)] H=g aa af au iN H:=rfl
def aK.cs (F:Nat) (bC:atn) (bD:atn):Cs:=[(95,mk6 bC),(96,mk6 bD)]
theorem aK.loops (bC:atn) (bD:atn):LO (aY (aK.cs F bC bD)) aJ (aK.lh F bC bD) F Try.f98:=
 (ae.rt (ae.lt (ae.rt (ae.block (ae.la (λn tm H r h=>by change aK.lh13 F bC bD [] n tm H=_ at h;unfold aK.lh13 at h;split at h;have e:bL tm [(1,_),(2,_),(3,_),(8,_)]:=⟨‹_›,‹_›,‹_›,‹_›,trivial⟩;obtain _ | k13:=n;cases h;exact ⟨_,rfl,by rw [<- bN e];exact Eq.trans (by kernel_rfl) h⟩;cases h) λk13=>(ae.rt (ae.lt (ae.block (ae.rt (ae.block (ae.la (λn tm H r h=>by change aK.lh213 F bC bD [k13] n tm H=_ at h;unfold aK.lh213 at h;split at h;have e:bL tm [(1,_),(2,_),(3,_),(8,_),(9,_)]:=⟨‹_›,‹_›,‹_›,‹_›,‹_›,trivial⟩;cases (show [k13]=_ from ‹_›);obtain _ | k213:=n;cases h;exact ⟨_,rfl,by rw [<- bN e];exact Eq.trans (by kernel_rfl) h⟩;cases h) λk213=>ae.no)))))))))))
theorem aK.eqX (bC:atn) (bD:atn) (aa:Sl) (af:Int) (au:Int) (iN:Bool) (H:Hp):EX (aY (aK.cs F bC bD)) aJ (aK.lh F bC bD) F Try.f98 [(.agg [(.sl aa),(.int .i64 af)]),(.int .i64 au),(.bool iN)] H=aK.twX F bC bD aa af au iN H:=by kernel_rfl
theorem aK.k:Ok Try.prog 98 (mk7 (aK.tw F)):=by
 intro args H v H' h
 unfold mk7 at h
 split at h
 ·exact okT (TB:=aJ) Try.func98 (aM (cX.k F) (aM (cY.k F) bB)) (aK.loops F (cX.tw F) (cY.tw F)) ((aK.eqX F (cX.tw F) (cY.tw F) _ _ _ _ H).trans h) (by kernel_rfl)
 ·cases h
def dd.twX (F:Nat) (bC:atn) (bD:atn) (ci:atw) (aa:Sl) (af:Int) (au:Int) (H:Hp):OA:=(Hp.new H [(.sl aa),(.int .i64 af)]).bind λH4=>(Hp.ldSl H4 H.length 0).bind λs5=>(Sl.idx s5 (wrap .i64 (Int.tdiv au 4)) 5).bind λp6=>(Hp.ldI H4 .i64 p6.1 p6.2).bind λn7=>(Hp.ldI H4 .i64 p6.1 (p6.2+1)).bind λn8=>(Hp.ldI H4 .i64 p6.1 (p6.2+2)).bind λn9=>(Hp.ldI H4 .i64 p6.1 (p6.2+3)).bind λn10=>(Hp.ldI H4 .i64 p6.1 (p6.2+4)).bind λn11=>(Hp.new H4 [.int .i64 0,.int .i64 0,.int .i64 0,.int .i64 0,.int .i64 0]).bind λH12=>(Hp.st H12 H4.length 0 (.int .i64 n7)).bind λH13=>(Hp.st H13 H4.length (0+1) (.int .i64 n8)).bind λH14=>(Hp.st H14 H4.length (0+1+1) (.int .i64 n9)).bind λH15=>(Hp.st H15 H4.length (0+1+1+1) (.int .i64 n10)).bind λH16=>(Hp.st H16 H4.length (0+1+1+1+1) (.int .i64 n11)).bind λH17=>(Hp.ldSl H17 H.length 0).bind λs18=>(Hp.ldI H17 .i64 H.length (0+1)).bind λn19=>(Hp.ldI H17 .i64 H4.length 0).bind λn20=>(Hp.ldI H17 .i64 H4.length (0+1)).bind λn21=>(Hp.ldI H17 .i64 H4.length (0+2)).bind λn22=>(Hp.ldI H17 .i64 H4.length (0+3)).bind λn23=>(Hp.ldI H17 .i64 H4.length (0+4)).bind λn24=>(bC n20 n21 n22 n23 n24 (Int.tmod (wrap .i64 ((Int.tmod au 4)+1)) 4) H17).bind λr25=>((r25.1).asI .i64).bind λn26=>(if aZ H17 r25.2 then ((Hp.ldI r25.2 .i64 H4.length 0).bind λn27=>(Hp.ldI r25.2 .i64 H4.length (0+1)).bind λn28=>(Hp.ldI r25.2 .i64 H4.length (0+2)).bind λn29=>(Hp.ldI r25.2 .i64 H4.length (0+3)).bind λn30=>(Hp.ldI r25.2 .i64 H4.length (0+4)).bind λn31=>(bD n27 n28 n29 n30 n31 (Int.tmod (wrap .i64 ((Int.tmod au 4)+1)) 4) r25.2).bind λr32=>((r32.1).asB).bind λb33=>(if aZ r25.2 r32.2 then ((ci s18 n19 n26 (!b33) r32.2).bind λr34=>((r34.1).asTup 2).bind λl35=>(l35[0]?).bind λv36=>((v36).asI .i64).bind λn37=>(l35[1]?).bind λv38=>((v38).asI .i64).bind λn39=>some ((.int .i64 (wrap .i64 ((wrap .i64 (4 * n37))+n39))),r34.2)) else none)) else none)
def dd.tw:=dd.twX F (cX.tw F) (cY.tw F) (aK.tw F)
def dd.pn:Nat->List Nat:=cR [(3,[8])]
def dd.tb:Nat->List (List Nat):=cR [(3,[[],[],[],[1,2],[],[],[1,2,3,4,5],[1,2,3,4,5,6],[0,1,2,3,4,5,6,7],[0,1,2,3,4,5,6,7,8],[0,1,2,3,4,5,6,7,8,9],[0,1,2,3,4,5,6,7,8,9],[0,1,2,3,4,5,6,7,8,9,10],[0,1,2,3,4,5,6,7,8,9,10,11,12]])]
def dd.cs (F:Nat) (bC:atn) (bD:atn) (ci:atw):Cs:=[(95,mk6 bC),(96,mk6 bD),(98,mk7 ci)]
theorem dd.eqX (bC:atn) (bD:atn) (ci:atw) (aa:Sl) (af:Int) (au:Int) (H:Hp):EX (aY (dd.cs F bC bD ci)) dd.pn lh0 F Try.f97 [(.agg [(.sl aa),(.int .i64 af)]),(.int .i64 au)] H=dd.twX F bC bD ci aa af au H:=by kernel_rfl
theorem dd.k:Ok Try.prog 97 (mk1 (dd.tw F)):=by
 intro args H v H' h
 unfold mk1 at h
 split at h
 ·exact okT (TB:=dd.tb) Try.func97 (aM (cX.k F) (aM (cY.k F) (aM (aK.k F) bB))) ae.no ((dd.eqX F (cX.tw F) (cY.tw F) (aK.tw F) _ _ _ H).trans h) (by kernel_rfl)
 ·cases h
def aP.j4 (F:Nat) (dp:atr) (C61_:atF) (fq:Nat) (Hz:Nat) (HA:Sl) (HB:Sl) (sk:Int) (H108:Hp):OA:=C61_ fq Hz HA HB (wrap .i64 (sk+1)) H108
def aP.j5 (F:Nat) (dp:atr) (C61_:atF) (AL:Nat) (agP:Nat) (agQ:Sl) (agR:Sl) (sq:Int) (H164:Hp):OA:=C61_ AL agP agQ agR (wrap .i64 (sq+1)) H164
def aP.j6 (dp:atr) (C61_:atF) (AN:Nat) (nD:Nat) (se:Sl) (HC:Sl) (kp:Int) (agS:Sl) (H147:Hp):OA:=(Hp.new H147 [(.sl agS)]).bind λH148=>(Sl.row H148 (⟨some (H147.length,0),1,.ex 1⟩:Sl) 1).bind λxs150=>(Hp.app H148 1 24 se (⟨some (H147.length,0),1,.ex 1⟩:Sl).n xs150).bind λa149=>aP.j5 F dp C61_ AN nD a149.1 HC kp a149.2
def aP.l7853 (F:Nat) (dp:atr) (C61_:atF):Nat->Nat->Nat->Sl->Sl->Int->Sl->Int->Hp->OA
 | 0,_,_,_,_,_,_,_,_=>none
 | agT+1,lN,su,AO,sv,kq,f_,gr,H122=>(Sl.idx sv gr 1).bind λp165=>(Hp.ldB H122 p165.1 p165.2).bind λb166=>(bif (!b166) then ((Sl.idx sv gr 1).bind λp167=>(Hp.st H122 p167.1 p167.2 (.bool true)).bind λH168=>(Hp.new H168 [(.int .i64 gr)]).bind λH169=>(Sl.row H169 (⟨some (H168.length,0),1,.ex 1⟩:Sl) 1).bind λxs171=>(Hp.app H169 1 8 f_ (⟨some (H168.length,0),1,.ex 1⟩:Sl).n xs171).bind λa170=>(Hp.ldSl a170.2 lN su).bind λs172=>(Hp.ldI a170.2 .i64 lN (su+1)).bind λn173=>(dp s172 n173 gr a170.2).bind λr174=>((r174.1).asI .i64).bind λn175=>aP.l7853 F dp C61_ agT lN su AO sv kq a170.1 n175 r174.2) else (aP.j6 F dp C61_ lN su AO sv kq f_ H122))
termination_by structural n=>n
def aP.l61 (F:Nat) (dp:atr) :Nat->Nat->Nat->Sl->Sl->Int->Hp->OA
 | 0,_,_,_,_,_,_=>none
 | bF+1,fC,eb,gq,kl,e_,H15=>(bif (decide (e_<(kl.n:Int))) then ((Sl.idx kl e_ 1).bind λp96=>(Hp.ldB H15 p96.1 p96.2).bind λb97=>(bif b97 then (aP.j4 F dp (aP.l61 F dp bF) fC eb gq kl e_ H15) else ((Hp.new H15 []).bind λH109=>aP.l7853 F dp (aP.l61 F dp bF) F fC eb gq kl e_ (⟨some (H15.length,0),0,.ex 0⟩:Sl) e_ H109))) else (some ((.sl gq),H15)))
termination_by structural n=>n
def aP.twX (dp:atr) (aa:Sl) (af:Int) (H:Hp):OA:=(Hp.new H [(.sl aa),(.int .i64 af)]).bind λH3=>(Hp.new H3 []).bind λH4=>(Hp.ldSl H4 H.length 0).bind λs5=>(Hp.mk H4 [.bool false] 1 (wrap .i64 (4 * (s5.n:Int))) (wrap .i64 (4 * (s5.n:Int)))).bind λm6=>aP.l61 F dp F H.length 0 (⟨some (H3.length,0),0,.ex 0⟩:Sl) m6.1 0 m6.2
def aP.tw:=aP.twX F (dd.tw F)
def aP.lh61 (dp:atr) (ks:atj) (n:Nat) (tm:Tm) (H:Hp):OA:=match ks,tm 1,tm 3,tm 4,tm 5 with
 | [],(.ptr fC eb),(.sl gq),(.sl kl),(.int .i64 e_)=>aP.l61 F dp n fC eb gq kl e_ H
 | _,_,_,_,_=>none
def aP.lh7853 (dp:atr) (ks:atj) (n:Nat) (tm:Tm) (H:Hp):OA:=match ks,tm 1,tm 3,tm 4,tm 5,tm 6,tm 7 with
 | [bF],(.ptr lN su),(.sl AO),(.sl sv),(.int .i64 kq),(.sl f_),(.int .i64 gr)=>aP.l7853 F dp (aP.l61 F dp bF) n lN su AO sv kq f_ gr H
 | _,_,_,_,_,_,_=>none
def aP.lh (dp:atr) (p:Nat) (ks:atj) (n:Nat) (tm:Tm) (H:Hp):OA:=bif p.beq 7853 then aP.lh7853 F dp ks n tm H else (bif p.beq 61 then aP.lh61 F dp ks n tm H else (none))
def aP.cs (F:Nat) (dp:atr):Cs:=[(97,mk1 dp)]
theorem aP.loops (dp:atr):LO (aY (aP.cs F dp)) aJ (aP.lh F dp) F Try.f51:=
 (ae.rt (ae.rt (ae.rt (ae.lt (ae.rt (ae.block (ae.la (λn tm H r h=>by change aP.lh61 F dp [] n tm H=_ at h;unfold aP.lh61 at h;split at h;have e:bL tm [(1,_),(3,_),(4,_),(5,_)]:=⟨‹_›,‹_›,‹_›,‹_›,trivial⟩;obtain _ | k61:=n;cases h;exact ⟨_,rfl,by rw [<- bN e];exact Eq.trans (by kernel_rfl) h⟩;cases h) λk61=>(ae.rt (ae.lt (ae.block (ae.rt (ae.rt (ae.lt (ae.rt (ae.block (ae.la (λn tm H r h=>by change aP.lh7853 F dp [k61] n tm H=_ at h;unfold aP.lh7853 at h;split at h;have e:bL tm [(1,_),(3,_),(4,_),(5,_),(6,_),(7,_)]:=⟨‹_›,‹_›,‹_›,‹_›,‹_›,‹_›,trivial⟩;cases (show [k61]=_ from ‹_›);obtain _ | k7853:=n;cases h;exact ⟨_,rfl,by rw [<- bN e];exact Eq.trans (by kernel_rfl) h⟩;cases h) λk7853=>ae.no))))))))))))))))
theorem aP.eqX (dp:atr) (aa:Sl) (af:Int) (H:Hp):EX (aY (aP.cs F dp)) aJ (aP.lh F dp) F Try.f51 [(.agg [(.sl aa),(.int .i64 af)])] H=aP.twX F dp aa af H:=by kernel_rfl
theorem aP.k:Ok Try.prog 51 (mk4 (aP.tw F)):=by
 intro args H v H' h
 unfold mk4 at h
 split at h
 ·exact okT (TB:=aJ) Try.func51 (aM (dd.k F) bB) (aP.loops F (dd.tw F)) ((aP.eqX F (dd.tw F) _ _ H).trans h) (by kernel_rfl)
 ·cases h
def aD.j6 (F:Nat) (ci:atw) (C61_:atC) (AP:Nat) (agU:Nat) (agV:Sl) (sw:Int) (H243:Hp):OA:=C61_ AP agU agV (wrap .i64 (sw+1)) H243
def aD.j7 (ci:atw) (C61_:atC) (AQ:Nat) (agW:Nat) (sx:Sl) (nE:Int) (H226:Hp):OA:=aD.j6 F ci C61_ AQ agW sx nE H226
def aD.j8 (F:Nat) (ci:atw) (C7855_:at7) (AR:Nat) (agX:Nat) (agY:Sl) (sy:Int) (sB:Int) (sC:Int) (sD:Int) (H265:Hp):OA:=C7855_ AR agX agY sy sB sC (wrap .i64 (sD+1)) H265
def aD.l7855 (F:Nat) (ci:atw) (C61_:atC):Nat->Nat->Nat->Sl->Int->Int->Int->Int->Hp->OA
 | 0,_,_,_,_,_,_,_,_=>none
 | Vb+1,mH,xa,nF,iZ,fF,fG,gu,H187=>(bif (decide (gu<(nF.n:Int))) then ((Sl.idx nF gu 1).bind λp244=>(Hp.ldI H187 .i64 p244.1 p244.2).bind λn245=>(bif (n245==(if fG>fF then fG else fF)) then ((Sl.idx nF gu 1).bind λp246=>(Hp.st H187 p246.1 p246.2 (.int .i64 (if fG<fF then fG else fF))).bind λH247=>aD.j8 F ci (aD.l7855 F ci C61_ Vb) mH xa nF iZ fF fG gu H247) else (aD.j8 F ci (aD.l7855 F ci C61_ Vb) mH xa nF iZ fF fG gu H187))) else (aD.j7 F ci C61_ mH xa nF iZ H187))
termination_by structural n=>n
def aD.l61 (F:Nat) (ci:atw) :Nat->Nat->Nat->Sl->Int->Hp->OA
 | 0,_,_,_,_,_=>none
 | bF+1,jN,nG,sE,hJ,H35=>(Hp.ldSl H35 jN nG).bind λs151=>(bif (decide (hJ<(wrap .i64 (2 * (s151.n:Int))))) then ((Hp.ldSl H35 jN nG).bind λs152=>(Hp.ldI H35 .i64 jN (nG+1)).bind λn153=>(ci s152 n153 hJ true H35).bind λr154=>((r154.1).asTup 2).bind λl155=>(l155[0]?).bind λv156=>((v156).asI .i64).bind λn157=>(l155[1]?).bind λv158=>((v158).asI .i64).bind λn159=>(Hp.ldSl r154.2 jN nG).bind λs160=>(Hp.ldI r154.2 .i64 jN (nG+1)).bind λn161=>(ci s160 n161 hJ false r154.2).bind λr162=>((r162.1).asTup 2).bind λl163=>(l163[0]?).bind λv164=>((v164).asI .i64).bind λn165=>(l163[1]?).bind λv166=>((v166).asI .i64).bind λn167=>(Sl.idx sE n157 1).bind λp168=>(Hp.ldI r162.2 .i64 p168.1 p168.2).bind λn169=>(Sl.idx sE n165 1).bind λp170=>(Hp.ldI r162.2 .i64 p170.1 p170.2).bind λn171=>aD.l7855 F ci (aD.l61 F ci bF) F jN nG sE hJ n169 n171 0 r162.2) else (some ((.sl sE),H35)))
termination_by structural n=>n
def aD.j9 (ci:atw) (AS:Nat) (sF:Nat) (agZ:Sl) (H25:Hp):OA:=aD.l61 F ci F AS sF agZ 0 H25
def aD.l29 (F:Nat) (ci:atw) :Nat->Nat->Nat->Sl->Int->Hp->OA
 | 0,_,_,_,_,_=>none
 | gW+1,de,cu,eB,dO,H12=>(Hp.ldSl H12 de cu).bind λs266=>(bif (decide (dO<(s266.n:Int))) then ((Hp.new H12 [(.int .i64 dO)]).bind λH267=>(Sl.row H267 (⟨some (H12.length,0),1,.ex 1⟩:Sl) 1).bind λxs269=>(Hp.app H267 1 8 eB (⟨some (H12.length,0),1,.ex 1⟩:Sl).n xs269).bind λa268=>aD.l29 F ci gW de cu a268.1 (wrap .i64 (dO+1)) a268.2) else (aD.j9 F ci de cu eB H12))
termination_by structural n=>n
def aD.twX (ci:atw) (aa:Sl) (af:Int) (H:Hp):OA:=(Hp.new H [(.sl aa),(.int .i64 af)]).bind λH3=>(Hp.new H3 []).bind λH4=>aD.l29 F ci F H.length 0 (⟨some (H3.length,0),0,.ex 0⟩:Sl) 0 H4
def aD.tw:=aD.twX F (aK.tw F)
def aD.lh29 (ci:atw) (ks:atj) (n:Nat) (tm:Tm) (H:Hp):OA:=match ks,tm 1,tm 3,tm 4 with
 | [],(.ptr de cu),(.sl eB),(.int .i64 dO)=>aD.l29 F ci n de cu eB dO H
 | _,_,_,_=>none
def aD.lh61 (ci:atw) (ks:atj) (n:Nat) (tm:Tm) (H:Hp):OA:=match ks,tm 1,tm 3,tm 5 with
 | [],(.ptr jN nG),(.sl sE),(.int .i64 hJ)=>aD.l61 F ci n jN nG sE hJ H
 | _,_,_,_=>none
def aD.lh7855 (ci:atw) (ks:atj) (n:Nat) (tm:Tm) (H:Hp):OA:=match ks,tm 1,tm 3,tm 5,tm 10,tm 11,tm 12 with
 | [bF],(.ptr mH xa),(.sl nF),(.int .i64 iZ),(.int .i64 fF),(.int .i64 fG),(.int .i64 gu)=>aD.l7855 F ci (aD.l61 F ci bF) n mH xa nF iZ fF fG gu H
 | _,_,_,_,_,_,_=>none
def aD.lh (ci:atw) (p:Nat) (ks:atj) (n:Nat) (tm:Tm) (H:Hp):OA:=bif p.beq 7855 then aD.lh7855 F ci ks n tm H else (bif p.beq 61 then aD.lh61 F ci ks n tm H else (bif p.beq 29 then aD.lh29 F ci ks n tm H else (none)))
def aD.tb:Nat->List (List Nat):=cR [(11,[[],[],[0,1],[0,1,2],[],[],[4,5],[4,5,6],[0,1,2,3],[0,1,2,3,4,5,6,7,8]])]
def aD.cs (F:Nat) (ci:atw):Cs:=[(98,mk7 ci)]
theorem aD.loops (ci:atw):LO (aY (aD.cs F ci)) aJ (aD.lh F ci) F Try.f52:=
 (ae.rt (ae.rt (ae.seq (ae.rt (ae.block (ae.la (λn tm H r h=>by change aD.lh29 F ci [] n tm H=_ at h;unfold aD.lh29 at h;split at h;have e:bL tm [(1,_),(3,_),(4,_)]:=⟨‹_›,‹_›,‹_›,trivial⟩;obtain _ | k29:=n;cases h;exact ⟨_,rfl,by rw [<- bN e];exact Eq.trans (by kernel_rfl) h⟩;cases h) λk29=>ae.no))) (ae.lt (ae.rt (ae.block (ae.la (λn tm H r h=>by change aD.lh61 F ci [] n tm H=_ at h;unfold aD.lh61 at h;split at h;have e:bL tm [(1,_),(3,_),(5,_)]:=⟨‹_›,‹_›,‹_›,trivial⟩;obtain _ | k61:=n;cases h;exact ⟨_,rfl,by rw [<- bN e];exact Eq.trans (by kernel_rfl) h⟩;cases h) λk61=>(ae.rt (ae.lt (ae.block (ae.rt (ae.rt (ae.rt (ae.rt (ae.block (ae.la (λn tm H r h=>by change aD.lh7855 F ci [k61] n tm H=_ at h;unfold aD.lh7855 at h;split at h;have e:bL tm [(1,_),(3,_),(5,_),(10,_),(11,_),(12,_)]:=⟨‹_›,‹_›,‹_›,‹_›,‹_›,‹_›,trivial⟩;cases (show [k61]=_ from ‹_›);obtain _ | k7855:=n;cases h;exact ⟨_,rfl,by rw [<- bN e];exact Eq.trans (by kernel_rfl) h⟩;cases h) λk7855=>ae.no))))))))))))))))
theorem aD.eqX (ci:atw) (aa:Sl) (af:Int) (H:Hp):EX (aY (aD.cs F ci)) aJ (aD.lh F ci) F Try.f52 [(.agg [(.sl aa),(.int .i64 af)])] H=aD.twX F ci aa af H:=by kernel_rfl
theorem aD.k:Ok Try.prog 52 (mk4 (aD.tw F)):=by
 intro args H v H' h
 unfold mk4 at h
 split at h
 ·exact okT (TB:=aD.tb) Try.func52 (aM (aK.k F) bB) (aD.loops F (aK.tw F)) ((aD.eqX F (aK.tw F) _ _ H).trans h) (by kernel_rfl)
 ·cases h
def bx.j2 (F:Nat) (fa:ate) (C61_:atH) (sG:Int) (ag0:Sl) (sH:Int) (H42:Hp):OA:=C61_ sG ag0 (wrap .i64 (sH+1)) H42
def bx.l61 (F:Nat) (fa:ate) :Nat->Int->Sl->Int->Hp->OA
 | 0,_,_,_,_=>none
 | bF+1,i_,sI,gv,H16=>(bif (decide (gv<(sI.n:Int))) then ((Sl.idx sI gv 1).bind λp30=>(Hp.ldI H16 .i64 p30.1 p30.2).bind λn31=>(bif (n31==gv) then (bx.j2 F fa (bx.l61 F fa bF) (wrap .i64 (i_+1)) sI gv H16) else (bx.j2 F fa (bx.l61 F fa bF) i_ sI gv H16))) else (some ((.int .i64 i_),H16)))
def bx.twX (fa:ate) (aa:Sl) (af:Int) (H:Hp):OA:=(Hp.new H [(.sl aa),(.int .i64 af)]).bind λH3=>(Hp.ldSl H3 H.length 0).bind λs4=>(Hp.ldI H3 .i64 H.length (0+1)).bind λn5=>(fa s4 n5 H3).bind λr6=>((r6.1).asSl).bind λs7=>bx.l61 F fa F 0 s7 0 r6.2
def bx.tw:=bx.twX F (aD.tw F)
def bx.lh61 (fa:ate) (ks:atj) (n:Nat) (tm:Tm) (H:Hp):OA:=match ks,tm 3,tm 4,tm 5 with
 | [],(.int .i64 i_),(.sl sI),(.int .i64 gv)=>bx.l61 F fa n i_ sI gv H
 | _,_,_,_=>none
def bx.lh (fa:ate) (p:Nat) (ks:atj) (n:Nat) (tm:Tm) (H:Hp):OA:=bif p.beq 61 then bx.lh61 F fa ks n tm H else (none)
def bx.cs (F:Nat) (fa:ate):Cs:=[(52,mk4 fa)]
theorem bx.loops (fa:ate):LO (aY (bx.cs F fa)) aJ (bx.lh F fa) F Try.f27:=
 (ae.rt (ae.rt (ae.rt (ae.lt (ae.rt (ae.block (ae.la (λn tm H r h=>by change bx.lh61 F fa [] n tm H=_ at h;unfold bx.lh61 at h;split at h;have e:bL tm [(3,_),(4,_),(5,_)]:=⟨‹_›,‹_›,‹_›,trivial⟩;obtain _ | k61:=n;cases h;exact ⟨_,rfl,by rw [<- bN e];exact Eq.trans (by kernel_rfl) h⟩;cases h) λk61=>ae.no)))))))
theorem bx.eqX (fa:ate) (aa:Sl) (af:Int) (H:Hp):EX (aY (bx.cs F fa)) aJ (bx.lh F fa) F Try.f27 [(.agg [(.sl aa),(.int .i64 af)])] H=bx.twX F fa aa af H:=by kernel_rfl
theorem bx.k:Ok Try.prog 27 (mk4 (bx.tw F)):=by
 intro args H v H' h
 unfold mk4 at h
 split at h
 ·exact okT (TB:=aJ) Try.func27 (aM (aD.k F) bB) (bx.loops F (aD.tw F)) ((bx.eqX F (aD.tw F) _ _ H).trans h) (by kernel_rfl)
 ·cases h
def dG.twX (F:Nat) (bY:atp) (sJ:ate) (sK:ate) (sL:ate) (aa:Sl) (af:Int) (H:Hp):OA:=(Hp.new H [(.sl aa),(.int .i64 af)]).bind λH3=>(Hp.ldSl H3 H.length 0).bind λs4=>(bif (decide ((s4.n:Int)>10)) then (some ((.bool false),H3)) else ((Hp.ldI H3 .i64 H.length 1).bind λn5=>(bY n5 0 8 H3).bind λr6=>((r6.1).asB).bind λb7=>(bif (!b7) then (some ((.bool false),r6.2)) else ((Hp.ldSl r6.2 H.length 0).bind λs8=>(Hp.ldI r6.2 .i64 H.length (0+1)).bind λn9=>(sJ s8 n9 r6.2).bind λr10=>((r10.1).asB).bind λb11=>(bif (!b11) then (some ((.bool false),r10.2)) else ((Hp.ldSl r10.2 H.length 0).bind λs12=>(Hp.ldI r10.2 .i64 H.length (0+1)).bind λn13=>(sK s12 n13 r10.2).bind λr14=>((r14.1).asSl).bind λs15=>(if aZ r10.2 r14.2 then ((Hp.ldSl r14.2 H.length 0).bind λs16=>(Hp.ldSl r14.2 H.length 0).bind λs17=>(Hp.ldI r14.2 .i64 H.length (0+1)).bind λn18=>(sL s17 n18 r14.2).bind λr19=>((r19.1).asI .i64).bind λn20=>(if aZ r14.2 r19.2 then (some ((.bool ((s15.n:Int)==(wrap .i64 ((s16.n:Int)+(wrap .i64 (2 * n20)))))),r19.2)) else none)) else none)))))))
def dG.tw:=dG.twX F (cS.tw F) (bc.tw F) (aP.tw F) (bx.tw F)
def dG.tb:Nat->List (List Nat):=cR [(3,[[],[0],[0,1],[],[3],[3,4],[],[0,1,6],[0,1,6,7],[0,1,3,4,5,6,7,8],[0,1,2,3,4,5,6,7,8,9],[0,1,2,3,4,5,6,7,8,9,10]])]
def dG.cs (F:Nat) (bY:atp) (sJ:ate) (sK:ate) (sL:ate):Cs:=[(39,mk5 bY),(50,mk4 sJ),(51,mk4 sK),(27,mk4 sL)]
theorem dG.eqX (bY:atp) (sJ:ate) (sK:ate) (sL:ate) (aa:Sl) (af:Int) (H:Hp):EX (aY (dG.cs F bY sJ sK sL)) aJ lh0 F Try.f26 [(.agg [(.sl aa),(.int .i64 af)])] H=dG.twX F bY sJ sK sL aa af H:=by kernel_rfl
theorem dG.k:Ok Try.prog 26 (mk4 (dG.tw F)):=by
 intro args H v H' h
 unfold mk4 at h
 split at h
 ·exact okT (TB:=dG.tb) Try.func26 (aM (cS.k F) (aM (bc.k F) (aM (aP.k F) (aM (bx.k F) bB)))) ae.no ((dG.eqX F (cS.tw F) (bc.tw F) (aP.tw F) (bx.tw F) _ _ H).trans h) (by kernel_rfl)
 ·cases h
def aj.j6 (F:Nat) (AT:Nat) (ag2:Nat) (ag3:Sl) (sM:Int) (H211:Hp):OA:=(Hp.ldI H211 .i64 AT (ag2+1)).bind λn212=>some ((.tup [(.sl ag3),(.int .i64 (wrap .i64 (sM+n212)))]),H211)
def aj.j7 (F:Nat) (C509_:at9) (AU:Nat) (ag4:Nat) (ag5:Sl) (ag6:Sl) (sO:Int) (sQ:Int) (H234:Hp):OA:=C509_ AU ag4 ag5 ag6 sO (wrap .i64 (sQ+1)) H234
def aj.l509 (F:Nat) :Nat->Nat->Nat->Sl->Sl->Int->Int->Hp->OA
 | 0,_,_,_,_,_,_,_=>none
 | AW+1,mI,xb,pD,sS,gw,fH,H166=>(bif (decide (fH<(pD.n:Int))) then ((Sl.idx pD fH 1).bind λp213=>(Hp.ldI H166 .i64 p213.1 p213.2).bind λn214=>(bif (n214==fH) then ((Hp.new H166 [(.int .i64 gw)]).bind λH215=>(Sl.row H215 (⟨some (H166.length,0),1,.ex 1⟩:Sl) 1).bind λxs217=>(Hp.app H215 1 8 sS (⟨some (H166.length,0),1,.ex 1⟩:Sl).n xs217).bind λa216=>aj.j7 F (aj.l509 F AW) mI xb pD a216.1 (wrap .i64 (gw+1)) fH a216.2) else ((Sl.idx pD fH 1).bind λp235=>(Hp.ldI H166 .i64 p235.1 p235.2).bind λn236=>(Sl.idx sS n236 1).bind λp237=>(Hp.ldI H166 .i64 p237.1 p237.2).bind λn238=>(Hp.new H166 [(.int .i64 n238)]).bind λH239=>(Sl.row H239 (⟨some (H166.length,0),1,.ex 1⟩:Sl) 1).bind λxs241=>(Hp.app H239 1 8 sS (⟨some (H166.length,0),1,.ex 1⟩:Sl).n xs241).bind λa240=>aj.j7 F (aj.l509 F AW) mI xb pD a240.1 gw fH a240.2))) else (aj.j6 F mI xb sS gw H166))
termination_by structural n=>n
def aj.j8 (AY:Nat) (ag7:Nat) (ag8:Sl) (H150:Hp):OA:=(Hp.new H150 []).bind λH151=>aj.l509 F F AY ag7 ag8 (⟨some (H150.length,0),0,.ex 0⟩:Sl) 0 0 H151
def aj.j10 (F:Nat) (C61_:atC) (AZ:Nat) (ag9:Nat) (ag_:Sl) (sT:Int) (H320:Hp):OA:=C61_ AZ ag9 ag_ (wrap .i64 (sT+1)) H320
def aj.j11 (C61_:atC) (A_:Nat) (aha:Nat) (ahb:Sl) (sU:Int) (H304:Hp):OA:=aj.j10 F C61_ A_ aha ahb sU H304
def aj.j12 (F:Nat) (C1963_:at7) (Ba:Nat) (ahc:Nat) (ahd:Sl) (sV:Int) (sW:Int) (sX:Int) (sY:Int) (H341:Hp):OA:=C1963_ Ba ahc ahd sV sW sX (wrap .i64 (sY+1)) H341
def aj.l1963 (F:Nat) (C61_:atC):Nat->Nat->Nat->Sl->Int->Int->Int->Int->Hp->OA
 | 0,_,_,_,_,_,_,_,_=>none
 | Vc+1,mJ,xc,nH,ja,fI,fJ,gy,H267=>(bif (decide (gy<(nH.n:Int))) then ((Sl.idx nH gy 1).bind λp321=>(Hp.ldI H267 .i64 p321.1 p321.2).bind λn322=>(bif (n322==(if fJ>fI then fJ else fI)) then ((Sl.idx nH gy 1).bind λp323=>(Hp.st H267 p323.1 p323.2 (.int .i64 (if fJ<fI then fJ else fI))).bind λH324=>aj.j12 F (aj.l1963 F C61_ Vc) mJ xc nH ja fI fJ gy H324) else (aj.j12 F (aj.l1963 F C61_ Vc) mJ xc nH ja fI fJ gy H267))) else (aj.j11 F C61_ mJ xc nH ja H267))
termination_by structural n=>n
def aj.l61 (F:Nat) :Nat->Nat->Nat->Sl->Int->Hp->OA
 | 0,_,_,_,_,_=>none
 | bF+1,kr,eT,sZ,hK,H38=>(Hp.ldSl H38 kr eT).bind λs242=>(bif (decide (hK<(s242.n:Int))) then ((Hp.ldSl H38 kr eT).bind λs243=>(Sl.idx s243 hK 5).bind λp244=>(Hp.ldI H38 .i64 p244.1 (p244.2+1)).bind λn245=>(Sl.idx sZ n245 1).bind λp246=>(Hp.ldI H38 .i64 p246.1 p246.2).bind λn247=>(Hp.ldSl H38 kr eT).bind λs248=>(Sl.idx s248 hK 5).bind λp249=>(Hp.ldI H38 .i64 p249.1 (p249.2+3)).bind λn250=>(Sl.idx sZ n250 1).bind λp251=>(Hp.ldI H38 .i64 p251.1 p251.2).bind λn252=>aj.l1963 F (aj.l61 F bF) F kr eT sZ hK n247 n252 0 H38) else (aj.j8 F kr eT sZ H38))
termination_by structural n=>n
def aj.j13 (sF:Nat) (ahe:Nat) (ahf:Sl) (H27:Hp):OA:=aj.l61 F F sF ahe ahf 0 H27
def aj.l29 (F:Nat) :Nat->Nat->Nat->Sl->Int->Hp->OA
 | 0,_,_,_,_,_=>none
 | gW+1,de,cu,dO,eu,H13=>(Hp.ldSl H13 de cu).bind λs342=>(bif (decide (eu<(wrap .i64 (2 * (s342.n:Int))))) then ((Hp.new H13 [(.int .i64 eu)]).bind λH343=>(Sl.row H343 (⟨some (H13.length,0),1,.ex 1⟩:Sl) 1).bind λxs345=>(Hp.app H343 1 8 dO (⟨some (H13.length,0),1,.ex 1⟩:Sl).n xs345).bind λa344=>aj.l29 F gW de cu a344.1 (wrap .i64 (eu+1)) a344.2) else (aj.j13 F de cu dO H13))
termination_by structural n=>n
def aj.twX (aa:Sl) (af:Int) (H:Hp):OA:=(Hp.new H [(.sl aa),(.int .i64 af)]).bind λH3=>(Hp.new H3 []).bind λH4=>aj.l29 F F H.length 0 (⟨some (H3.length,0),0,.ex 0⟩:Sl) 0 H4
def aj.tw:=aj.twX F
def aj.lh29 (ks:atj) (n:Nat) (tm:Tm) (H:Hp):OA:=match ks,tm 1,tm 4,tm 5 with
 | [],(.ptr de cu),(.sl dO),(.int .i64 eu)=>aj.l29 F n de cu dO eu H
 | _,_,_,_=>none
def aj.lh61 (ks:atj) (n:Nat) (tm:Tm) (H:Hp):OA:=match ks,tm 1,tm 4,tm 6 with
 | [],(.ptr kr eT),(.sl sZ),(.int .i64 hK)=>aj.l61 F n kr eT sZ hK H
 | _,_,_,_=>none
def aj.lh509 (ks:atj) (n:Nat) (tm:Tm) (H:Hp):OA:=match ks,tm 1,tm 4,tm 10,tm 11,tm 12 with
 | [],(.ptr mI xb),(.sl pD),(.sl sS),(.int .i64 gw),(.int .i64 fH)=>aj.l509 F n mI xb pD sS gw fH H
 | _,_,_,_,_,_=>none
def aj.lh1963 (ks:atj) (n:Nat) (tm:Tm) (H:Hp):OA:=match ks,tm 1,tm 4,tm 6,tm 7,tm 8,tm 9 with
 | [bF],(.ptr mJ xc),(.sl nH),(.int .i64 ja),(.int .i64 fI),(.int .i64 fJ),(.int .i64 gy)=>aj.l1963 F (aj.l61 F bF) n mJ xc nH ja fI fJ gy H
 | _,_,_,_,_,_,_=>none
def aj.lh (p:Nat) (ks:atj) (n:Nat) (tm:Tm) (H:Hp):OA:=bif p.beq 1963 then aj.lh1963 F ks n tm H else (bif p.beq 509 then aj.lh509 F ks n tm H else (bif p.beq 61 then aj.lh61 F ks n tm H else (bif p.beq 29 then aj.lh29 F ks n tm H else (none))))
def aj.tb:Nat->List (List Nat):=cR [(9,[[],[],[1],[],[1,2,3],[1,2,3,4],[1,2,3,4,5],[0,1,2,3,4,5,6],[0,1,2,3,4,5,6,7],[],[],[10],[],[10,11,12],[10,11,12,13],[10,11,12,13,14],[9,10,11,12,13,14,15],[9,10,11,12,13,14,15,16],[0,1,2,3,4,5,6,7,8],[0,1,2,3,4,5,6,7,8,9,10,11,12,13,14,15,16,17,18]]),(24,[[],[],[],[2],[1,2,3],[0],[0,1,2,3,4,5]])]
theorem aj.loops:LO (aY []) aJ (aj.lh F) F Try.f77:=
 (ae.rt (ae.rt (ae.seq (ae.rt (ae.block (ae.la (λn tm H r h=>by change aj.lh29 F [] n tm H=_ at h;unfold aj.lh29 at h;split at h;have e:bL tm [(1,_),(4,_),(5,_)]:=⟨‹_›,‹_›,‹_›,trivial⟩;obtain _ | k29:=n;cases h;exact ⟨_,rfl,by rw [<- bN e];exact Eq.trans (by kernel_rfl) h⟩;cases h) λk29=>ae.no))) (ae.seq (ae.rt (ae.block (ae.la (λn tm H r h=>by change aj.lh61 F [] n tm H=_ at h;unfold aj.lh61 at h;split at h;have e:bL tm [(1,_),(4,_),(6,_)]:=⟨‹_›,‹_›,‹_›,trivial⟩;obtain _ | k61:=n;cases h;exact ⟨_,rfl,by rw [<- bN e];exact Eq.trans (by kernel_rfl) h⟩;cases h) λk61=>(ae.rt (ae.lt (ae.block (ae.rt (ae.rt (ae.block (ae.la (λn tm H r h=>by change aj.lh1963 F [k61] n tm H=_ at h;unfold aj.lh1963 at h;split at h;have e:bL tm [(1,_),(4,_),(6,_),(7,_),(8,_),(9,_)]:=⟨‹_›,‹_›,‹_›,‹_›,‹_›,‹_›,trivial⟩;cases (show [k61]=_ from ‹_›);obtain _ | k1963:=n;cases h;exact ⟨_,rfl,by rw [<- bN e];exact Eq.trans (by kernel_rfl) h⟩;cases h) λk1963=>ae.no)))))))))) (ae.rt (ae.rt (ae.lt (ae.rt (ae.block (ae.la (λn tm H r h=>by change aj.lh509 F [] n tm H=_ at h;unfold aj.lh509 at h;split at h;have e:bL tm [(1,_),(4,_),(10,_),(11,_),(12,_)]:=⟨‹_›,‹_›,‹_›,‹_›,‹_›,trivial⟩;obtain _ | k509:=n;cases h;exact ⟨_,rfl,by rw [<- bN e];exact Eq.trans (by kernel_rfl) h⟩;cases h) λk509=>ae.no))))))))))
theorem aj.k:Ok Try.prog 77 (mk4 (aj.tw F)):=by
 intro args H v H' h
 unfold mk4 at h
 split at h
 ·exact okT (PN:=aJ) (LH:=(aj.lh F)) (F:=F) (TB:=aj.tb) Try.func77 bB (aj.loops F) (Eq.trans (by kernel_rfl) h) (by kernel_rfl)
 ·cases h
def bi.j2 (F:Nat) (bS:ate) (C61_:atF) (fq:Nat) (Hz:Nat) (HA:Sl) (HB:Sl) (gz:Int) (H113:Hp):OA:=C61_ fq Hz HA HB (wrap .i64 (gz+1)) H113
def bi.l61 (F:Nat) (bS:ate) :Nat->Nat->Nat->Sl->Sl->Int->Hp->OA
 | 0,_,_,_,_,_,_=>none
 | bF+1,lO,s_,jO,pE,hO,H21=>(Hp.ldSl H21 lO s_).bind λs70=>(bif (decide (hO<(s70.n:Int))) then ((Hp.ldSl H21 lO s_).bind λs71=>(Sl.idx s71 hO 5).bind λp72=>(Hp.ldI H21 .i64 p72.1 p72.2).bind λn73=>(Hp.ldI H21 .i64 p72.1 (p72.2+1)).bind λn74=>(Hp.ldI H21 .i64 p72.1 (p72.2+2)).bind λn75=>(Hp.ldI H21 .i64 p72.1 (p72.2+3)).bind λn76=>(Hp.ldI H21 .i64 p72.1 (p72.2+4)).bind λn77=>(Hp.new H21 [.int .i64 0,.int .i64 0,.int .i64 0,.int .i64 0,.int .i64 0]).bind λH78=>(Hp.st H78 H21.length 0 (.int .i64 n73)).bind λH79=>(Hp.st H79 H21.length (0+1) (.int .i64 n74)).bind λH80=>(Hp.st H80 H21.length (0+1+1) (.int .i64 n75)).bind λH81=>(Hp.st H81 H21.length (0+1+1+1) (.int .i64 n76)).bind λH82=>(Hp.st H82 H21.length (0+1+1+1+1) (.int .i64 n77)).bind λH83=>(Hp.ldI H83 .i64 H21.length 0).bind λn84=>(Sl.idx pE n84 1).bind λp85=>(Hp.ldI H83 .i64 p85.1 p85.2).bind λn86=>(Hp.ldI H83 .i64 H21.length 2).bind λn87=>(Sl.idx pE n87 1).bind λp88=>(Hp.ldI H83 .i64 p88.1 p88.2).bind λn89=>(Hp.ldI H83 .i64 H21.length 1).bind λn90=>(Sl.idx pE n90 1).bind λp91=>(Hp.ldI H83 .i64 p91.1 p91.2).bind λn92=>(Hp.ldI H83 .i64 H21.length 4).bind λn93=>(bif (n93==1) then ((Hp.new H83 [(.int .i64 (wrap .i64 (n89+1))),(.int .i64 (wrap .i64 (n92+1))),(.int .i64 (wrap .i64 (0 - (wrap .i64 (n86+1))))),(.int .i64 (wrap .i64 (0 - (wrap .i64 (n92+1)))))]).bind λH94=>(Hp.new H94 [(.sl (⟨some (H83.length,0),4,.ex 4⟩:Sl))]).bind λH95=>(Sl.row H95 (⟨some (H94.length,0),1,.ex 1⟩:Sl) 1).bind λxs97=>(Hp.app H95 1 24 jO (⟨some (H94.length,0),1,.ex 1⟩:Sl).n xs97).bind λa96=>bi.j2 F bS (bi.l61 F bS bF) lO s_ a96.1 pE hO a96.2) else ((Hp.new H83 [(.int .i64 (wrap .i64 (n89+1))),(.int .i64 (wrap .i64 (0 - (wrap .i64 (n92+1))))),(.int .i64 (wrap .i64 (0 - (wrap .i64 (n86+1))))),(.int .i64 (wrap .i64 (n92+1)))]).bind λH114=>(Hp.new H114 [(.sl (⟨some (H83.length,0),4,.ex 4⟩:Sl))]).bind λH115=>(Sl.row H115 (⟨some (H114.length,0),1,.ex 1⟩:Sl) 1).bind λxs117=>(Hp.app H115 1 24 jO (⟨some (H114.length,0),1,.ex 1⟩:Sl).n xs117).bind λa116=>bi.j2 F bS (bi.l61 F bS bF) lO s_ a116.1 pE hO a116.2))) else (some ((.sl jO),H21)))
termination_by structural n=>n
def bi.twX (bS:ate) (aa:Sl) (af:Int) (H:Hp):OA:=(Hp.new H [(.sl aa),(.int .i64 af)]).bind λH3=>(Hp.new H3 []).bind λH4=>(Hp.ldSl H4 H.length 0).bind λs5=>(Hp.ldI H4 .i64 H.length (0+1)).bind λn6=>(bS s5 n6 H4).bind λr7=>((r7.1).asTup 2).bind λl8=>(l8[0]?).bind λv9=>((v9).asSl).bind λs10=>(l8[1]?).bind λv11=>((v11).asI .i64).bind λn12=>bi.l61 F bS F H.length 0 (⟨some (H3.length,0),0,.ex 0⟩:Sl) s10 0 r7.2
def bi.tw:=bi.twX F (aj.tw F)
def bi.lh61 (bS:ate) (ks:atj) (n:Nat) (tm:Tm) (H:Hp):OA:=match ks,tm 1,tm 3,tm 4,tm 6 with
 | [],(.ptr lO s_),(.sl jO),(.sl pE),(.int .i64 hO)=>bi.l61 F bS n lO s_ jO pE hO H
 | _,_,_,_,_=>none
def bi.lh (bS:ate) (p:Nat) (ks:atj) (n:Nat) (tm:Tm) (H:Hp):OA:=bif p.beq 61 then bi.lh61 F bS ks n tm H else (none)
def bi.tb:Nat->List (List Nat):=cR [(7,[[],[],[1],[0,1,2],[0,1,2,3],[0,1,2,3,4],[],[],[7],[6,7,8],[6,7,8,9],[6,7,8,9,10],[],[],[13],[12,13,14],[12,13,14,15],[12,13,14,15,16],[0,1,2,3,4,5],[0,1,2,3,4,5,6,7,8,9,10,11,18],[0,1,2,3,4,5,6,7,8,9,10,11,12,13,14,15,16,17,18,19]])]
def bi.cs (F:Nat) (bS:ate):Cs:=[(77,mk4 bS)]
theorem bi.loops (bS:ate):LO (aY (bi.cs F bS)) aJ (bi.lh F bS) F Try.f122:=
 (ae.rt (ae.rt (ae.rt (ae.lt (ae.rt (ae.block (ae.la (λn tm H r h=>by change bi.lh61 F bS [] n tm H=_ at h;unfold bi.lh61 at h;split at h;have e:bL tm [(1,_),(3,_),(4,_),(6,_)]:=⟨‹_›,‹_›,‹_›,‹_›,trivial⟩;obtain _ | k61:=n;cases h;exact ⟨_,rfl,by rw [<- bN e];exact Eq.trans (by kernel_rfl) h⟩;cases h) λk61=>ae.no)))))))
theorem bi.eqX (bS:ate) (aa:Sl) (af:Int) (H:Hp):EX (aY (bi.cs F bS)) aJ (bi.lh F bS) F Try.f122 [(.agg [(.sl aa),(.int .i64 af)])] H=bi.twX F bS aa af H:=by kernel_rfl
theorem bi.k:Ok Try.prog 122 (mk4 (bi.tw F)):=by
 intro args H v H' h
 unfold mk4 at h
 split at h
 ·exact okT (TB:=bi.tb) Try.func122 (aM (aj.k F) bB) (bi.loops F (aj.tw F)) ((bi.eqX F (aj.tw F) _ _ H).trans h) (by kernel_rfl)
 ·cases h
def aR.j1 (F:Nat) (ta:Int) (ahg:Sl) (kt:Nat) (nI:Nat) (lP:Int) (nJ:Int) (H39:Hp):OA:=(bif (lP==nJ) then ((Hp.st H39 kt nI (.int .i64 0)).bind λH40=>(Hp.st H40 kt (nI+1) (.sl (⟨none,0,.ex 0⟩:Sl))).bind λH41=>(Hp.ldI H41 .i64 kt nI).bind λn42=>(Hp.ldSl H41 kt (nI+1)).bind λs43=>some ((.agg [(.int .i64 n42),(.sl s43)]),H41)) else ((Hp.new H39 []).bind λH44=>(Sl.cut ahg 1 lP nJ).bind λs45=>(Sl.row H44 s45 1).bind λxs47=>(Hp.app H44 1 8 (⟨some (H39.length,0),0,.ex 0⟩:Sl) s45.n xs47).bind λa46=>(Hp.st a46.2 kt nI (.int .i64 (wrap .i64 (ta+lP)))).bind λH48=>(Hp.st H48 kt (nI+1) (.sl a46.1)).bind λH49=>(Hp.ldI H49 .i64 kt nI).bind λn50=>(Hp.ldSl H49 kt (nI+1)).bind λs51=>some ((.agg [(.int .i64 n50),(.sl s51)]),H49)))
def aR.l30 (F:Nat) :Nat->Int->Sl->Nat->Nat->Int->Int->Hp->OA
 | 0,_,_,_,_,_,_,_=>none
 | ahh+1,jb,tc,mK,fK,fi,gA,H28=>(bif (decide (fi<gA)) then ((Sl.idx tc (wrap .i64 (gA - 1)) 1).bind λp52=>(Hp.ldI H28 .i64 p52.1 p52.2).bind λn53=>(bif (n53==0) then (aR.l30 F ahh jb tc mK fK fi (wrap .i64 (gA - 1)) H28) else (aR.j1 F jb tc mK fK fi gA H28))) else (aR.j1 F jb tc mK fK fi gA H28))
termination_by structural n=>n
def aR.j2 (td:Int) (ahi:Sl) (Bb:Nat) (ahj:Nat) (te:Int) (tf:Int) (H20:Hp):OA:=aR.l30 F F td ahi Bb ahj te tf H20
def aR.l14 (F:Nat) :Nat->Int->Sl->Nat->Nat->Int->Int->Hp->OA
 | 0,_,_,_,_,_,_,_=>none
 | HD+1,jc,tg,eA,fL,gB,hP,H10=>(bif (decide (gB<hP)) then ((Sl.idx tg gB 1).bind λp54=>(Hp.ldI H10 .i64 p54.1 p54.2).bind λn55=>(bif (n55==0) then (aR.l14 F HD jc tg eA fL (wrap .i64 (gB+1)) hP H10) else (aR.j2 F jc tg eA fL gB hP H10))) else (aR.j2 F jc tg eA fL gB hP H10))
termination_by structural n=>n
def aR.twX (aa:Int) (aA:Sl) (H:Hp):OA:=(Hp.new H [.int .i64 0,.sl ⟨none,0,.ex 0⟩]).bind λH3=>aR.l14 F F aa aA H.length 0 0 (aA.n:Int) H3
def aR.tw:=aR.twX F
def aR.lh14 (ks:atj) (n:Nat) (tm:Tm) (H:Hp):OA:=match ks,tm 0,tm 1,tm 4,tm 5,tm 6 with
 | [],(.int .i64 jc),(.sl tg),(.ptr eA fL),(.int .i64 gB),(.int .i64 hP)=>aR.l14 F n jc tg eA fL gB hP H
 | _,_,_,_,_,_=>none
def aR.lh30 (ks:atj) (n:Nat) (tm:Tm) (H:Hp):OA:=match ks,tm 0,tm 1,tm 4,tm 5,tm 6 with
 | [],(.int .i64 jb),(.sl tc),(.ptr mK fK),(.int .i64 fi),(.int .i64 gA)=>aR.l30 F n jb tc mK fK fi gA H
 | _,_,_,_,_,_=>none
def aR.lh (p:Nat) (ks:atj) (n:Nat) (tm:Tm) (H:Hp):OA:=bif p.beq 30 then aR.lh30 F ks n tm H else (bif p.beq 14 then aR.lh14 F ks n tm H else (none))
def mk8 (g:ath) (args:att) (H:Hp):OA:=match args with
 | [(.int .i64 aa),(.sl aA)]=>g aa aA H
 | _=>none
theorem mk8_E (g:ath) (aa:Int) (aA:Sl) (H:Hp):mk8 g [(.int .i64 aa),(.sl aA)] H=g aa aA H:=rfl
theorem aR.loops:LO (aY []) aJ (aR.lh F) F Try.f142:=
 (ae.rt (ae.rt (ae.seq (ae.block (ae.la (λn tm H r h=>by change aR.lh14 F [] n tm H=_ at h;unfold aR.lh14 at h;split at h;have e:bL tm [(0,_),(1,_),(4,_),(5,_),(6,_)]:=⟨‹_›,‹_›,‹_›,‹_›,‹_›,trivial⟩;obtain _ | k14:=n;cases h;exact ⟨_,rfl,by rw [<- bN e];exact Eq.trans (by kernel_rfl) h⟩;cases h) λk14=>ae.no)) (ae.lt (ae.block (ae.la (λn tm H r h=>by change aR.lh30 F [] n tm H=_ at h;unfold aR.lh30 at h;split at h;have e:bL tm [(0,_),(1,_),(4,_),(5,_),(6,_)]:=⟨‹_›,‹_›,‹_›,‹_›,‹_›,trivial⟩;obtain _ | k30:=n;cases h;exact ⟨_,rfl,by rw [<- bN e];exact Eq.trans (by kernel_rfl) h⟩;cases h) λk30=>ae.no))))))
theorem aR.k:Ok Try.prog 142 (mk8 (aR.tw F)):=by
 intro args H v H' h
 unfold mk8 at h
 split at h
 ·exact okT (PN:=aJ) (LH:=(aR.lh F)) (F:=F) (TB:=aJ) Try.func142 bB (aR.loops F) (Eq.trans (by kernel_rfl) h) (by kernel_rfl)
 ·cases h
def aI.j1 (F:Nat) (bK:ath) (pF:Nat) (Bc:Nat) (jd:Int) (nK:Sl) (H132:Hp):OA:=(bK jd nK H132).bind λr133=>((r133.1).asAgg 2).bind λl134=>(l134[0]?).bind λv135=>((v135).asI .i64).bind λn136=>(l134[1]?).bind λv137=>((v137).asSl).bind λs138=>(Hp.st r133.2 pF Bc (.int .i64 n136)).bind λH139=>(Hp.st H139 pF (Bc+1) (.sl s138)).bind λH140=>(Hp.ldI H140 .i64 pF Bc).bind λn141=>(Hp.ldSl H140 pF (Bc+1)).bind λs142=>some ((.agg [(.int .i64 n141),(.sl s142)]),H140)
def aI.l1021 (F:Nat) (bK:ath) :Nat->Nat->Nat->Nat->Nat->Int->Sl->Int->Hp->OA
 | 0,_,_,_,_,_,_,_,_=>none
 | ahk+1,lQ,th,nL,Bd,hQ,ti,c_,H103=>(Hp.ldSl H103 lQ (th+1)).bind λs143=>(bif (decide (c_<(s143.n:Int))) then ((Hp.ldI H103 .i64 lQ th).bind λn144=>(Sl.idx ti (wrap .i64 ((wrap .i64 (n144 - hQ))+c_)) 1).bind λp145=>(Hp.ldI H103 .i64 p145.1 p145.2).bind λn146=>(Hp.ldSl H103 lQ (th+1)).bind λs147=>(Sl.idx s147 c_ 1).bind λp148=>(Hp.ldI H103 .i64 p148.1 p148.2).bind λn149=>(Sl.idx ti (wrap .i64 ((wrap .i64 (n144 - hQ))+c_)) 1).bind λp150=>(Hp.st H103 p150.1 p150.2 (.int .i64 (wrap .i64 (n146+n149)))).bind λH151=>aI.l1021 F bK ahk lQ th nL Bd hQ ti (wrap .i64 (c_+1)) H151) else (aI.j1 F bK nL Bd hQ ti H103))
termination_by structural n=>n
def aI.j2 (bK:ath) (Be:Nat) (ahl:Nat) (Bf:Nat) (ahm:Nat) (tj:Int) (ahn:Sl) (H84:Hp):OA:=aI.l1021 F bK F Be ahl Bf ahm tj ahn 0 H84
def aI.l509 (F:Nat) (bK:ath) :Nat->Nat->Nat->Nat->Nat->Nat->Nat->Int->Sl->Int->Hp->OA
 | 0,_,_,_,_,_,_,_,_,_,_=>none
 | AW+1,lR,tl,nM,Bg,nN,Bh,hU,tn,gC,H57=>(Hp.ldSl H57 lR (tl+1)).bind λs152=>(bif (decide (gC<(s152.n:Int))) then ((Hp.ldI H57 .i64 lR tl).bind λn153=>(Sl.idx tn (wrap .i64 ((wrap .i64 (n153 - hU))+gC)) 1).bind λp154=>(Hp.ldI H57 .i64 p154.1 p154.2).bind λn155=>(Hp.ldSl H57 lR (tl+1)).bind λs156=>(Sl.idx s156 gC 1).bind λp157=>(Hp.ldI H57 .i64 p157.1 p157.2).bind λn158=>(Sl.idx tn (wrap .i64 ((wrap .i64 (n153 - hU))+gC)) 1).bind λp159=>(Hp.st H57 p159.1 p159.2 (.int .i64 (wrap .i64 (n155+n158)))).bind λH160=>aI.l509 F bK AW lR tl nM Bg nN Bh hU tn (wrap .i64 (gC+1)) H160) else (aI.j2 F bK nM Bg nN Bh hU tn H57))
termination_by structural n=>n
def aI.twX (bK:ath) (aa:Int) (af:Sl) (au:Int) (bv:Sl) (H:Hp):OA:=(Hp.new H [(.int .i64 aa),(.sl af)]).bind λH5=>(Hp.new H5 [(.int .i64 au),(.sl bv)]).bind λH6=>(Hp.new H6 [.int .i64 0,.sl ⟨none,0,.ex 0⟩]).bind λH7=>(Hp.ldSl H7 H.length 1).bind λs8=>(bif ((s8.n:Int)==0) then ((Hp.ldI H7 .i64 H5.length 0).bind λn9=>(Hp.ldSl H7 H5.length 1).bind λs10=>(bK n9 s10 H7).bind λr11=>((r11.1).asAgg 2).bind λl12=>(l12[0]?).bind λv13=>((v13).asI .i64).bind λn14=>(l12[1]?).bind λv15=>((v15).asSl).bind λs16=>(Hp.st r11.2 H6.length 0 (.int .i64 n14)).bind λH17=>(Hp.st H17 H6.length (0+1) (.sl s16)).bind λH18=>(Hp.ldI H18 .i64 H6.length 0).bind λn19=>(Hp.ldSl H18 H6.length (0+1)).bind λs20=>some ((.agg [(.int .i64 n19),(.sl s20)]),H18)) else ((Hp.ldSl H7 H5.length 1).bind λs21=>(bif ((s21.n:Int)==0) then ((Hp.ldI H7 .i64 H.length 0).bind λn22=>(Hp.ldSl H7 H.length 1).bind λs23=>(bK n22 s23 H7).bind λr24=>((r24.1).asAgg 2).bind λl25=>(l25[0]?).bind λv26=>((v26).asI .i64).bind λn27=>(l25[1]?).bind λv28=>((v28).asSl).bind λs29=>(Hp.st r24.2 H6.length 0 (.int .i64 n27)).bind λH30=>(Hp.st H30 H6.length (0+1) (.sl s29)).bind λH31=>(Hp.ldI H31 .i64 H6.length 0).bind λn32=>(Hp.ldSl H31 H6.length (0+1)).bind λs33=>some ((.agg [(.int .i64 n32),(.sl s33)]),H31)) else ((Hp.ldI H7 .i64 H.length 0).bind λn34=>(Hp.ldI H7 .i64 H5.length 0).bind λn35=>(Hp.ldI H7 .i64 H.length 0).bind λn36=>(Hp.ldSl H7 H.length 1).bind λs37=>(Hp.ldI H7 .i64 H5.length 0).bind λn38=>(Hp.ldSl H7 H5.length 1).bind λs39=>(Hp.mk H7 [.int .i64 0] 8 (wrap .i64 ((if (wrap .i64 (n38+(s39.n:Int)))>(wrap .i64 (n36+(s37.n:Int))) then (wrap .i64 (n38+(s39.n:Int))) else (wrap .i64 (n36+(s37.n:Int)))) - (if n35<n34 then n35 else n34))) (wrap .i64 ((if (wrap .i64 (n38+(s39.n:Int)))>(wrap .i64 (n36+(s37.n:Int))) then (wrap .i64 (n38+(s39.n:Int))) else (wrap .i64 (n36+(s37.n:Int)))) - (if n35<n34 then n35 else n34)))).bind λm40=>aI.l509 F bK F H.length 0 H5.length 0 H6.length 0 (if n35<n34 then n35 else n34) m40.1 0 m40.2))))
def aI.tw:=aI.twX F (aR.tw F)
def aI.lh509 (bK:ath) (ks:atj) (n:Nat) (tm:Tm) (H:Hp):OA:=match ks,tm 2,tm 3,tm 4,tm 5,tm 7,tm 8 with
 | [],(.ptr lR tl),(.ptr nM Bg),(.ptr nN Bh),(.int .i64 hU),(.sl tn),(.int .i64 gC)=>aI.l509 F bK n lR tl nM Bg nN Bh hU tn gC H
 | _,_,_,_,_,_,_=>none
def aI.lh1021 (bK:ath) (ks:atj) (n:Nat) (tm:Tm) (H:Hp):OA:=match ks,tm 3,tm 4,tm 5,tm 7,tm 9 with
 | [],(.ptr lQ th),(.ptr nL Bd),(.int .i64 hQ),(.sl ti),(.int .i64 c_)=>aI.l1021 F bK n lQ th nL Bd hQ ti c_ H
 | _,_,_,_,_,_=>none
def aI.lh (bK:ath) (p:Nat) (ks:atj) (n:Nat) (tm:Tm) (H:Hp):OA:=bif p.beq 1021 then aI.lh1021 F bK ks n tm H else (bif p.beq 509 then aI.lh509 F bK ks n tm H else (none))
def aI.pn:Nat->List Nat:=cR [(11,[16]),(15,[16])]
def aI.tb:Nat->List (List Nat):=cR [(11,[[],[],[1],[],[1,2,3],[],[1,2,3,4,5],[0,1,2,3,4,5,6],[0,1,2,3,4,5,6,7],[],[9],[],[9,10,11],[9,10,11,12],[0,1,2,3,4,5,6,7,8,9,10,11,12,13],[0,1,2,3,4,5,6,7,8,9,10,11,12,13,14],[0,1,2,3,4,5,6,7,8,9,10,11,12,13,14,15]]),(15,[[],[],[1],[],[1,2,3],[],[1,2,3,4,5],[0,1,2,3,4,5,6],[0,1,2,3,4,5,6,7],[],[9],[],[9,10,11],[9,10,11,12],[0,1,2,3,4,5,6,7,8,9,10,11,12,13],[0,1,2,3,4,5,6,7,8,9,10,11,12,13,14],[0,1,2,3,4,5,6,7,8,9,10,11,12,13,14,15]])]
def mk9 (g:atk) (args:att) (H:Hp):OA:=match args with
 | [(.agg [(.int .i64 aa),(.sl af)]),(.agg [(.int .i64 au),(.sl bv)])]=>g aa af au bv H
 | _=>none
theorem mk9_E (g:atk) (aa:Int) (af:Sl) (au:Int) (bv:Sl) (H:Hp):mk9 g [(.agg [(.int .i64 aa),(.sl af)]),(.agg [(.int .i64 au),(.sl bv)])] H=g aa af au bv H:=rfl
def aI.cs (F:Nat) (bK:ath):Cs:=[(142,mk8 bK)]
theorem aI.loops (bK:ath):LO (aY (aI.cs F bK)) aI.pn (aI.lh F bK) F Try.f121:=
 (ae.rt (ae.rt (ae.rt (ae.rt (ae.rt (ae.rt (ae.seq (ae.rt (ae.block (ae.la (λn tm H r h=>by change aI.lh509 F bK [] n tm H=_ at h;unfold aI.lh509 at h;split at h;have e:bL tm [(2,_),(3,_),(4,_),(5,_),(7,_),(8,_)]:=⟨‹_›,‹_›,‹_›,‹_›,‹_›,‹_›,trivial⟩;obtain _ | k509:=n;cases h;exact ⟨_,rfl,by rw [<- bN e];exact Eq.trans (by kernel_rfl) h⟩;cases h) λk509=>ae.no))) (ae.lt (ae.rt (ae.block (ae.la (λn tm H r h=>by change aI.lh1021 F bK [] n tm H=_ at h;unfold aI.lh1021 at h;split at h;have e:bL tm [(3,_),(4,_),(5,_),(7,_),(9,_)]:=⟨‹_›,‹_›,‹_›,‹_›,‹_›,trivial⟩;obtain _ | k1021:=n;cases h;exact ⟨_,rfl,by rw [<- bN e];exact Eq.trans (by kernel_rfl) h⟩;cases h) λk1021=>ae.no)))))))))))
theorem aI.eqX (bK:ath) (aa:Int) (af:Sl) (au:Int) (bv:Sl) (H:Hp):EX (aY (aI.cs F bK)) aI.pn (aI.lh F bK) F Try.f121 [(.agg [(.int .i64 aa),(.sl af)]),(.agg [(.int .i64 au),(.sl bv)])] H=aI.twX F bK aa af au bv H:=by kernel_rfl
theorem aI.k:Ok Try.prog 121 (mk9 (aI.tw F)):=by
 intro args H v H' h
 unfold mk9 at h
 split at h
 ·exact okT (TB:=aI.tb) Try.func121 (aM (aR.k F) bB) (aI.loops F (aR.tw F)) ((aI.eqX F (aR.tw F) _ _ _ _ H).trans h) (by kernel_rfl)
 ·cases h
def aT.j4 (F:Nat) (bl:atk) (C61_:atU) (aho:Sl) (tp:Int) (Bi:Nat) (HC:Nat) (kp:Nat) (nO:Nat) (nP:Int) (je:Int) (H149:Hp):OA:=C61_ aho tp Bi HC kp nO nP (wrap .i64 (je+1)) H149
def aT.j5 (bl:atk) (C61_:atU) (HE:Sl) (gZ:Int) (xd:Nat) (Vd:Nat) (xe:Nat) (Ve:Nat) (nQ:Int) (lT:Int) (H134:Hp):OA:=(Sl.idx HE lT 1).bind λp135=>(Hp.ldI H134 .i64 p135.1 p135.2).bind λn136=>(bif (decide (n136>0)) then (aT.j4 F bl C61_ HE gZ xd Vd xe Ve (wrap .i64 (nQ+1)) lT H134) else (aT.j4 F bl C61_ HE gZ xd Vd xe Ve (wrap .i64 (nQ - 1)) lT H134))
def aT.j6 (bl:atk) (C61_:atU) (HF:Sl) (fq:Int) (xf:Nat) (Vf:Nat) (mL:Nat) (tq:Nat) (gz:Int) (lU:Int) (H109:Hp):OA:=(Sl.idx HF lU 1).bind λp110=>(Hp.ldI H109 .i64 p110.1 p110.2).bind λn111=>(bif (n111==(wrap .i64 (0 - fq))) then ((Hp.ldI H109 .i64 mL tq).bind λn112=>(Hp.ldSl H109 mL (tq+1)).bind λs113=>(Hp.new H109 [(.int .i64 (-1))]).bind λH114=>(bl n112 s113 (wrap .i64 (gz - 1)) (⟨some (H109.length,0),1,.ex 1⟩:Sl) H114).bind λr115=>((r115.1).asAgg 2).bind λl116=>(l116[0]?).bind λv117=>((v117).asI .i64).bind λn118=>(l116[1]?).bind λv119=>((v119).asSl).bind λs120=>(Hp.st r115.2 mL tq (.int .i64 n118)).bind λH121=>(Hp.st H121 mL (tq+1) (.sl s120)).bind λH122=>aT.j5 F bl C61_ HF fq xf Vf mL tq gz lU H122) else (aT.j5 F bl C61_ HF fq xf Vf mL tq gz lU H109))
def aT.l61 (F:Nat) (bl:atk) :Nat->Sl->Int->Nat->Nat->Nat->Nat->Int->Int->Hp->OA
 | 0,_,_,_,_,_,_,_,_,_=>none
 | bF+1,tt,cu,jP,nR,iO,eu,jf,hY,H15=>(bif (decide (hY<(tt.n:Int))) then ((Sl.idx tt hY 1).bind λp86=>(Hp.ldI H15 .i64 p86.1 p86.2).bind λn87=>(bif (n87==cu) then ((Hp.ldI H15 .i64 iO eu).bind λn88=>(Hp.ldSl H15 iO (eu+1)).bind λs89=>(Hp.new H15 [(.int .i64 1)]).bind λH90=>(bl n88 s89 jf (⟨some (H15.length,0),1,.ex 1⟩:Sl) H90).bind λr91=>((r91.1).asAgg 2).bind λl92=>(l92[0]?).bind λv93=>((v93).asI .i64).bind λn94=>(l92[1]?).bind λv95=>((v95).asSl).bind λs96=>(Hp.st r91.2 iO eu (.int .i64 n94)).bind λH97=>(Hp.st H97 iO (eu+1) (.sl s96)).bind λH98=>aT.j6 F bl (aT.l61 F bl bF) tt cu jP nR iO eu jf hY H98) else (aT.j6 F bl (aT.l61 F bl bF) tt cu jP nR iO eu jf hY H15))) else ((Hp.ldI H15 .i64 iO eu).bind λn150=>(Hp.ldSl H15 iO (eu+1)).bind λs151=>(Hp.st H15 jP nR (.int .i64 n150)).bind λH152=>(Hp.st H152 jP (nR+1) (.sl s151)).bind λH153=>(Hp.ldI H153 .i64 jP nR).bind λn154=>(Hp.ldSl H153 jP (nR+1)).bind λs155=>some ((.agg [(.int .i64 n154),(.sl s155)]),H153)))
termination_by structural n=>n
def aT.twX (bl:atk) (aa:Sl) (aA:Int) (H:Hp):OA:=(Hp.new H [.int .i64 0,.sl ⟨none,0,.ex 0⟩]).bind λH3=>(Hp.new H3 [.int .i64 0,.sl ⟨none,0,.ex 0⟩]).bind λH4=>(Hp.st H4 H3.length 0 (.int .i64 0)).bind λH5=>(Hp.st H5 H3.length (0+1) (.sl (⟨none,0,.ex 0⟩:Sl))).bind λH6=>aT.l61 F bl F aa aA H.length 0 H3.length 0 0 0 H6
def aT.tw:=aT.twX F (aI.tw F)
def aT.lh61 (bl:atk) (ks:atj) (n:Nat) (tm:Tm) (H:Hp):OA:=match ks,tm 0,tm 1,tm 4,tm 5,tm 6,tm 7 with
 | [],(.sl tt),(.int .i64 cu),(.ptr jP nR),(.ptr iO eu),(.int .i64 jf),(.int .i64 hY)=>aT.l61 F bl n tt cu jP nR iO eu jf hY H
 | _,_,_,_,_,_,_=>none
def aT.lh (bl:atk) (p:Nat) (ks:atj) (n:Nat) (tm:Tm) (H:Hp):OA:=bif p.beq 61 then aT.lh61 F bl ks n tm H else (none)
def aT.cs (F:Nat) (bl:atk):Cs:=[(121,mk9 bl)]
theorem aT.loops (bl:atk):LO (aY (aT.cs F bl)) aJ (aT.lh F bl) F Try.f123:=
 (ae.rt (ae.rt (ae.rt (ae.lt (ae.rt (ae.block (ae.la (λn tm H r h=>by change aT.lh61 F bl [] n tm H=_ at h;unfold aT.lh61 at h;split at h;have e:bL tm [(0,_),(1,_),(4,_),(5,_),(6,_),(7,_)]:=⟨‹_›,‹_›,‹_›,‹_›,‹_›,‹_›,trivial⟩;obtain _ | k61:=n;cases h;exact ⟨_,rfl,by rw [<- bN e];exact Eq.trans (by kernel_rfl) h⟩;cases h) λk61=>ae.no)))))))
theorem aT.eqX (bl:atk) (aa:Sl) (aA:Int) (H:Hp):EX (aY (aT.cs F bl)) aJ (aT.lh F bl) F Try.f123 [(.sl aa),(.int .i64 aA)] H=aT.twX F bl aa aA H:=by kernel_rfl
theorem aT.k:Ok Try.prog 123 (mk0 (aT.tw F)):=by
 intro args H v H' h
 unfold mk0 at h
 split at h
 ·exact okT (TB:=aJ) Try.func123 (aM (aI.k F) bB) (aT.loops F (aI.tw F)) ((aT.eqX F (aI.tw F) _ _ H).trans h) (by kernel_rfl)
 ·cases h
def a_.j3 (F:Nat) (bS:ate) (dH:ate) (dI:ate) (C125_:atG) (ahp:Sl) (nO:Int) (nP:Sl) (je:Int) (H149:Hp):OA:=C125_ ahp nO nP (wrap .i64 (je+1)) H149
def a_.j4 (bS:ate) (dH:ate) (dI:ate) (C125_:atG) (ahq:Sl) (jd:Int) (ahr:Sl) (nK:Int) (ahs:Sl) (H132:Hp):OA:=(Hp.new H132 [(.sl ahs)]).bind λH133=>(Sl.row H133 (⟨some (H132.length,0),1,.ex 1⟩:Sl) 1).bind λxs135=>(Hp.app H133 1 24 ahq (⟨some (H132.length,0),1,.ex 1⟩:Sl).n xs135).bind λa134=>a_.j3 F bS dH dI C125_ a134.1 jd ahr nK a134.2
def a_.l8021 (F:Nat) (bS:ate) (dH:ate) (dI:ate) (C125_:atG):Nat->Sl->Int->Sl->Int->Sl->Int->Hp->OA
 | 0,_,_,_,_,_,_,_=>none
 | Bj+1,Bk,jg,xg,jh,Bl,ji,H107=>(bif (decide (ji<=jg)) then ((Sl.idx xg jh 1).bind λp150=>(Hp.ldSl H107 p150.1 p150.2).bind λs151=>(dI s151 ji H107).bind λr152=>((r152.1).asAgg 2).bind λl153=>(l153[0]?).bind λv154=>((v154).asI .i64).bind λn155=>(l153[1]?).bind λv156=>((v156).asSl).bind λs157=>(Hp.new r152.2 [(.int .i64 n155),(.sl s157)]).bind λH158=>(Sl.row H158 (⟨some (r152.2.length,0),1,.ex 1⟩:Sl) 2).bind λxs160=>(Hp.app H158 2 32 Bl (⟨some (r152.2.length,0),1,.ex 1⟩:Sl).n xs160).bind λa159=>a_.l8021 F bS dH dI C125_ Bj Bk jg xg jh a159.1 (wrap .i64 (ji+1)) a159.2) else (a_.j4 F bS dH dI C125_ Bk jg xg jh Bl H107))
def a_.l125 (F:Nat) (bS:ate) (dH:ate) (dI:ate) :Nat->Sl->Int->Sl->Int->Hp->OA
 | 0,_,_,_,_,_=>none
 | fM+1,gR,mM,Bm,ku,H26=>(bif (decide (ku<(Bm.n:Int))) then ((Hp.new H26 []).bind λH94=>a_.l8021 F bS dH dI (a_.l125 F bS dH dI fM) F gR mM Bm ku (⟨some (H26.length,0),0,.ex 0⟩:Sl) 1 H94) else (some ((.sl gR),H26)))
def a_.twX (bS:ate) (dH:ate) (dI:ate) (aa:Sl) (af:Int) (H:Hp):OA:=(Hp.new H [(.sl aa),(.int .i64 af)]).bind λH3=>(Hp.new H3 []).bind λH4=>(Hp.ldSl H4 H.length 0).bind λs5=>(Hp.ldI H4 .i64 H.length (0+1)).bind λn6=>(bS s5 n6 H4).bind λr7=>((r7.1).asTup 2).bind λl8=>(l8[0]?).bind λv9=>((v9).asSl).bind λs10=>(l8[1]?).bind λv11=>((v11).asI .i64).bind λn12=>(Hp.ldSl r7.2 H.length 0).bind λs13=>(Hp.ldI r7.2 .i64 H.length (0+1)).bind λn14=>(dH s13 n14 r7.2).bind λr15=>((r15.1).asSl).bind λs16=>a_.l125 F bS dH dI F (⟨some (H3.length,0),0,.ex 0⟩:Sl) n12 s16 0 r15.2
def a_.tw:=a_.twX F (aj.tw F) (bi.tw F) (aT.tw F)
def a_.lh125 (bS:ate) (dH:ate) (dI:ate) (ks:atj) (n:Nat) (tm:Tm) (H:Hp):OA:=match ks,tm 3,tm 5,tm 6,tm 7 with
 | [],(.sl gR),(.int .i64 mM),(.sl Bm),(.int .i64 ku)=>a_.l125 F bS dH dI n gR mM Bm ku H
 | _,_,_,_,_=>none
def a_.lh8021 (bS:ate) (dH:ate) (dI:ate) (ks:atj) (n:Nat) (tm:Tm) (H:Hp):OA:=match ks,tm 3,tm 5,tm 6,tm 7,tm 8,tm 9 with
 | [fM],(.sl Bk),(.int .i64 jg),(.sl xg),(.int .i64 jh),(.sl Bl),(.int .i64 ji)=>a_.l8021 F bS dH dI (a_.l125 F bS dH dI fM) n Bk jg xg jh Bl ji H
 | _,_,_,_,_,_,_=>none
def a_.lh (bS:ate) (dH:ate) (dI:ate) (p:Nat) (ks:atj) (n:Nat) (tm:Tm) (H:Hp):OA:=bif p.beq 8021 then a_.lh8021 F bS dH dI ks n tm H else (bif p.beq 125 then a_.lh125 F bS dH dI ks n tm H else (none))
def a_.cs (F:Nat) (bS:ate) (dH:ate) (dI:ate):Cs:=[(77,mk4 bS),(122,mk4 dH),(123,mk0 dI)]
theorem a_.loops (bS:ate) (dH:ate) (dI:ate):LO (aY (a_.cs F bS dH dI)) aJ (a_.lh F bS dH dI) F Try.f89:=
 (ae.rt (ae.rt (ae.rt (ae.rt (ae.lt (ae.rt (ae.block (ae.la (λn tm H r h=>by change a_.lh125 F bS dH dI [] n tm H=_ at h;unfold a_.lh125 at h;split at h;have e:bL tm [(3,_),(5,_),(6,_),(7,_)]:=⟨‹_›,‹_›,‹_›,‹_›,trivial⟩;obtain _ | k125:=n;cases h;exact ⟨_,rfl,by rw [<- bN e];exact Eq.trans (by kernel_rfl) h⟩;cases h) λk125=>(ae.rt (ae.lt (ae.block (ae.rt (ae.lt (ae.rt (ae.block (ae.la (λn tm H r h=>by change a_.lh8021 F bS dH dI [k125] n tm H=_ at h;unfold a_.lh8021 at h;split at h;have e:bL tm [(3,_),(5,_),(6,_),(7,_),(8,_),(9,_)]:=⟨‹_›,‹_›,‹_›,‹_›,‹_›,‹_›,trivial⟩;cases (show [k125]=_ from ‹_›);obtain _ | k8021:=n;cases h;exact ⟨_,rfl,by rw [<- bN e];exact Eq.trans (by kernel_rfl) h⟩;cases h) λk8021=>ae.no))))))))))))))))
theorem a_.eqX (bS:ate) (dH:ate) (dI:ate) (aa:Sl) (af:Int) (H:Hp):EX (aY (a_.cs F bS dH dI)) aJ (a_.lh F bS dH dI) F Try.f89 [(.agg [(.sl aa),(.int .i64 af)])] H=a_.twX F bS dH dI aa af H:=by kernel_rfl
theorem a_.k:Ok Try.prog 89 (mk4 (a_.tw F)):=by
 intro args H v H' h
 unfold mk4 at h
 split at h
 ·exact okT (TB:=aJ) Try.func89 (aM (aj.k F) (aM (bi.k F) (aM (aT.k F) bB))) (a_.loops F (aj.tw F) (bi.tw F) (aT.tw F)) ((a_.eqX F (aj.tw F) (bi.tw F) (aT.tw F) _ _ H).trans h) (by kernel_rfl)
 ·cases h
def aH.j3 (F:Nat) (bK:ath) (Bn:Nat) (aht:Nat) (Bo:Nat) (ahu:Nat) (pG:Nat) (Bp:Nat) (ahv:Sl) (H122:Hp):OA:=(Hp.ldI H122 .i64 Bn aht).bind λn123=>(Hp.ldI H122 .i64 Bo ahu).bind λn124=>(bK (wrap .i64 (n123+n124)) ahv H122).bind λr125=>((r125.1).asAgg 2).bind λl126=>(l126[0]?).bind λv127=>((v127).asI .i64).bind λn128=>(l126[1]?).bind λv129=>((v129).asSl).bind λs130=>(Hp.st r125.2 pG Bp (.int .i64 n128)).bind λH131=>(Hp.st H131 pG (Bp+1) (.sl s130)).bind λH132=>(Hp.ldI H132 .i64 pG Bp).bind λn133=>(Hp.ldSl H132 pG (Bp+1)).bind λs134=>some ((.agg [(.int .i64 n133),(.sl s134)]),H132)
def aH.j4 (F:Nat) (bK:ath) (C61_:atV) (Bq:Nat) (ahw:Nat) (Br:Nat) (ahx:Nat) (Bs:Nat) (ahy:Nat) (ahz:Sl) (tu:Int) (H196:Hp):OA:=C61_ Bq ahw Br ahx Bs ahy ahz (wrap .i64 (tu+1)) H196
def aH.j5 (bK:ath) (C61_:atV) (Bt:Nat) (ahA:Nat) (Bu:Nat) (ahB:Nat) (jQ:Nat) (tv:Nat) (ahC:Sl) (tz:Int) (H179:Hp):OA:=aH.j4 F bK C61_ Bt ahA Bu ahB jQ tv ahC tz H179
def aH.l981 (F:Nat) (bK:ath) (C61_:atV):Nat->Nat->Nat->Nat->Nat->Nat->Nat->Sl->Int->Int->Hp->OA
 | 0,_,_,_,_,_,_,_,_,_,_=>none
 | ahD+1,mN,xh,lV,tB,nS,Bv,tC,gD,gE,H151=>(Hp.ldSl H151 lV (tB+1)).bind λs197=>(bif (decide (gE<(s197.n:Int))) then ((Sl.idx tC (wrap .i64 (gD+gE)) 1).bind λp198=>(Hp.ldI H151 .i64 p198.1 p198.2).bind λn199=>(Hp.ldSl H151 mN (xh+1)).bind λs200=>(Sl.idx s200 gD 1).bind λp201=>(Hp.ldI H151 .i64 p201.1 p201.2).bind λn202=>(Hp.ldSl H151 lV (tB+1)).bind λs203=>(Sl.idx s203 gE 1).bind λp204=>(Hp.ldI H151 .i64 p204.1 p204.2).bind λn205=>(Sl.idx tC (wrap .i64 (gD+gE)) 1).bind λp206=>(Hp.st H151 p206.1 p206.2 (.int .i64 (wrap .i64 (n199+(wrap .i64 (n202 * n205)))))).bind λH207=>aH.l981 F bK C61_ ahD mN xh lV tB nS Bv tC gD (wrap .i64 (gE+1)) H207) else (aH.j5 F bK C61_ mN xh lV tB nS Bv tC gD H151))
termination_by structural n=>n
def aH.l61 (F:Nat) (bK:ath) :Nat->Nat->Nat->Nat->Nat->Nat->Nat->Sl->Int->Hp->OA
 | 0,_,_,_,_,_,_,_,_,_=>none
 | bF+1,fb,iQ,nT,hZ,nU,ft,Bw,kv,H34=>(Hp.ldSl H34 fb (iQ+1)).bind λs135=>(bif (decide (kv<(s135.n:Int))) then (aH.l981 F bK (aH.l61 F bK bF) F fb iQ nT hZ nU ft Bw kv 0 H34) else (aH.j3 F bK fb iQ nT hZ nU ft Bw H34))
termination_by structural n=>n
def aH.twX (bK:ath) (aa:Int) (af:Sl) (au:Int) (bv:Sl) (H:Hp):OA:=(Hp.new H [(.int .i64 aa),(.sl af)]).bind λH5=>(Hp.new H5 [(.int .i64 au),(.sl bv)]).bind λH6=>(Hp.new H6 [.int .i64 0,.sl ⟨none,0,.ex 0⟩]).bind λH7=>(Hp.ldSl H7 H.length 1).bind λs8=>(bif ((s8.n:Int)==0) then ((Hp.st H7 H6.length 0 (.int .i64 0)).bind λH9=>(Hp.st H9 H6.length (0+1) (.sl (⟨none,0,.ex 0⟩:Sl))).bind λH10=>(Hp.ldI H10 .i64 H6.length 0).bind λn11=>(Hp.ldSl H10 H6.length (0+1)).bind λs12=>some ((.agg [(.int .i64 n11),(.sl s12)]),H10)) else ((Hp.ldSl H7 H5.length 1).bind λs13=>(bif ((s13.n:Int)==0) then ((Hp.st H7 H6.length 0 (.int .i64 0)).bind λH14=>(Hp.st H14 H6.length (0+1) (.sl (⟨none,0,.ex 0⟩:Sl))).bind λH15=>(Hp.ldI H15 .i64 H6.length 0).bind λn16=>(Hp.ldSl H15 H6.length (0+1)).bind λs17=>some ((.agg [(.int .i64 n16),(.sl s17)]),H15)) else ((Hp.ldSl H7 H.length 1).bind λs18=>(Hp.ldSl H7 H5.length 1).bind λs19=>(Hp.mk H7 [.int .i64 0] 8 (wrap .i64 ((wrap .i64 ((s18.n:Int)+(s19.n:Int))) - 1)) (wrap .i64 ((wrap .i64 ((s18.n:Int)+(s19.n:Int))) - 1))).bind λm20=>aH.l61 F bK F H.length 0 H5.length 0 H6.length 0 m20.1 0 m20.2))))
def aH.tw:=aH.twX F (aR.tw F)
def aH.lh61 (bK:ath) (ks:atj) (n:Nat) (tm:Tm) (H:Hp):OA:=match ks,tm 2,tm 3,tm 4,tm 5,tm 6 with
 | [],(.ptr fb iQ),(.ptr nT hZ),(.ptr nU ft),(.sl Bw),(.int .i64 kv)=>aH.l61 F bK n fb iQ nT hZ nU ft Bw kv H
 | _,_,_,_,_,_=>none
def aH.lh981 (bK:ath) (ks:atj) (n:Nat) (tm:Tm) (H:Hp):OA:=match ks,tm 2,tm 3,tm 4,tm 5,tm 6,tm 7 with
 | [bF],(.ptr mN xh),(.ptr lV tB),(.ptr nS Bv),(.sl tC),(.int .i64 gD),(.int .i64 gE)=>aH.l981 F bK (aH.l61 F bK bF) n mN xh lV tB nS Bv tC gD gE H
 | _,_,_,_,_,_,_=>none
def aH.lh (bK:ath) (p:Nat) (ks:atj) (n:Nat) (tm:Tm) (H:Hp):OA:=bif p.beq 981 then aH.lh981 F bK ks n tm H else (bif p.beq 61 then aH.lh61 F bK ks n tm H else (none))
def aH.pn:Nat->List Nat:=cR [(10,[19])]
def aH.tb:Nat->List (List Nat):=cR [(10,[[],[],[],[1,2],[0,1,2,3],[0,1,2,3,4],[],[6],[],[6,7,8],[6,7,8,9],[],[11],[],[11,12,13],[11,12,13,14],[6,7,8,9,10,11,12,13,14,15],[0,1,2,3,4,5,6,7,8,9,10,11,12,13,14,15,16],[0,1,2,3,4,5,6,7,8,9,10,11,12,13,14,15,16,17],[0,1,2,3,4,5,6,7,8,9,10,11,12,13,14,15,16,17,18]])]
def aH.cs (F:Nat) (bK:ath):Cs:=[(142,mk8 bK)]
theorem aH.loops (bK:ath):LO (aY (aH.cs F bK)) aH.pn (aH.lh F bK) F Try.f120:=
 (ae.rt (ae.rt (ae.rt (ae.lt (ae.rt (ae.block (ae.la (λn tm H r h=>by change aH.lh61 F bK [] n tm H=_ at h;unfold aH.lh61 at h;split at h;have e:bL tm [(2,_),(3,_),(4,_),(5,_),(6,_)]:=⟨‹_›,‹_›,‹_›,‹_›,‹_›,trivial⟩;obtain _ | k61:=n;cases h;exact ⟨_,rfl,by rw [<- bN e];exact Eq.trans (by kernel_rfl) h⟩;cases h) λk61=>(ae.rt (ae.lt (ae.block (ae.rt (ae.block (ae.la (λn tm H r h=>by change aH.lh981 F bK [k61] n tm H=_ at h;unfold aH.lh981 at h;split at h;have e:bL tm [(2,_),(3,_),(4,_),(5,_),(6,_),(7,_)]:=⟨‹_›,‹_›,‹_›,‹_›,‹_›,‹_›,trivial⟩;cases (show [k61]=_ from ‹_›);obtain _ | k981:=n;cases h;exact ⟨_,rfl,by rw [<- bN e];exact Eq.trans (by kernel_rfl) h⟩;cases h) λk981=>ae.no)))))))))))))
theorem aH.eqX (bK:ath) (aa:Int) (af:Sl) (au:Int) (bv:Sl) (H:Hp):EX (aY (aH.cs F bK)) aH.pn (aH.lh F bK) F Try.f120 [(.agg [(.int .i64 aa),(.sl af)]),(.agg [(.int .i64 au),(.sl bv)])] H=aH.twX F bK aa af au bv H:=by kernel_rfl
theorem aH.k:Ok Try.prog 120 (mk9 (aH.tw F)):=by
 intro args H v H' h
 unfold mk9 at h
 split at h
 ·exact okT (TB:=aH.tb) Try.func120 (aM (aR.k F) bB) (aH.loops F (aR.tw F)) ((aH.eqX F (aR.tw F) _ _ _ _ H).trans h) (by kernel_rfl)
 ·cases h
def av.j8 (F:Nat) (cp:atk) (bl:atk) (nV:Int) (pH:Nat) (Bx:Nat) (ahE:Sl) (H243:Hp):OA:=(if (IntKind.u64.wrap nV)<0 then none else ((Sl.idx ahE (wrap .i64 ((wrap .i64 (1 * 2 ^ (min ((IntKind.u64.wrap nV):Int).toNat (IntKind.i64).bits))) - 1)) 2).bind λp244=>(Hp.ldI H243 .i64 p244.1 p244.2).bind λn245=>(Hp.ldSl H243 p244.1 (p244.2+1)).bind λs246=>(Hp.st H243 pH Bx (.int .i64 n245)).bind λH247=>(Hp.st H247 pH (Bx+1) (.sl s246)).bind λH248=>(Hp.ldI H248 .i64 pH Bx).bind λn249=>(Hp.ldSl H248 pH (Bx+1)).bind λs250=>some ((.agg [(.int .i64 n249),(.sl s250)]),H248)))
def av.j11 (F:Nat) (cp:atk) (bl:atk) (C61_:atI) (ahF:Sl) (tD:Int) (By:Nat) (ahG:Nat) (ahH:Sl) (tE:Int) (H398:Hp):OA:=C61_ ahF tD By ahG ahH (wrap .i64 (tE+1)) H398
def av.j12 (cp:atk) (bl:atk) (C61_:atI) (ahI:Sl) (tF:Int) (Bz:Nat) (ahJ:Nat) (Vg:Sl) (nW:Int) (xi:Nat) (Vh:Nat) (H377:Hp):OA:=(Hp.ldI H377 .i64 xi Vh).bind λn378=>(Hp.ldSl H377 xi (Vh+1)).bind λs379=>(Sl.idx Vg nW 2).bind λp380=>(Hp.st H377 p380.1 p380.2 (.int .i64 n378)).bind λH381=>(Hp.st H381 p380.1 (p380.2+1) (.sl s379)).bind λH382=>av.j11 F cp bl C61_ ahI tF Bz ahJ Vg nW H382
def av.j13 (F:Nat) (cp:atk) (bl:atk) (C31421_:aua) (ahK:Sl) (tG:Int) (BA:Nat) (ahL:Nat) (ahM:Sl) (tH:Int) (tI:Int) (BB:Nat) (ahN:Nat) (tJ:Int) (tK:Int) (H415:Hp):OA:=C31421_ ahK tG BA ahL ahM tH tI BB ahN tJ (wrap .i64 (tK - 1)) H415
def av.j14 (F:Nat) (cp:atk) (bl:atk) (C31421_:aua) (ahO:Sl) (tL:Int) (BC:Nat) (ahP:Nat) (ahQ:Sl) (tM:Int) (tO:Int) (BD:Nat) (ahR:Nat) (tP:Int) (tQ:Int) (H470:Hp):OA:=C31421_ ahO tL BC ahP ahQ tM tO BD ahR tP (wrap .i64 (tQ - 1)) H470
def av.l31421 (F:Nat) (cp:atk) (bl:atk) (C61_:atI):Nat->Sl->Int->Nat->Nat->Sl->Int->Int->Nat->Nat->Int->Int->Hp->OA
 | 0,_,_,_,_,_,_,_,_,_,_,_,_=>none
 | Vi+1,tR,jj,mO,xj,tS,gF,jk,jl,mP,h_,eU,H289=>(bif (decide (eU>=0)) then ((if (IntKind.u64.wrap eU)<0 then none else ((bif ((Go.bits .and .i64 (Int.fdiv gF (2 ^ (min ((IntKind.u64.wrap eU):Int).toNat (IntKind.i64).bits))) 1)==0) then (av.j13 F cp bl (av.l31421 F cp bl C61_ Vi) tR jj mO xj tS gF jk jl mP h_ eU H289) else ((Sl.idx tR jk 1).bind λp416=>(Hp.ldSl H289 p416.1 p416.2).bind λs417=>(Sl.idx s417 eU 2).bind λp418=>(Hp.ldI H289 .i64 p418.1 p418.2).bind λn419=>(Hp.ldSl H289 p418.1 (p418.2+1)).bind λs420=>(if (IntKind.u64.wrap eU)<0 then none else ((Sl.idx tS (wrap .i64 (gF - (wrap .i64 (1 * 2 ^ (min ((IntKind.u64.wrap eU):Int).toNat (IntKind.i64).bits))))) 2).bind λp421=>(Hp.ldI H289 .i64 p421.1 p421.2).bind λn422=>(Hp.ldSl H289 p421.1 (p421.2+1)).bind λs423=>(cp n419 s420 n422 s423 H289).bind λr424=>((r424.1).asAgg 2).bind λl425=>(l425[0]?).bind λv426=>((v426).asI .i64).bind λn427=>(l425[1]?).bind λv428=>((v428).asSl).bind λs429=>(if aZ H289 r424.2 then ((Hp.new r424.2 [.int .i64 0,.sl ⟨none,0,.ex 0⟩]).bind λH430=>(Hp.st H430 r424.2.length 0 (.int .i64 n427)).bind λH431=>(Hp.st H431 r424.2.length (0+1) (.sl s429)).bind λH432=>(Hp.ldI H432 .i64 jl mP).bind λn433=>(Hp.ldSl H432 jl (mP+1)).bind λs434=>(Hp.ldI H432 .i64 r424.2.length 0).bind λn435=>(Hp.ldSl H432 r424.2.length (0+1)).bind λs436=>(Hp.new H432 [(.int .i64 h_)]).bind λH437=>(cp n435 s436 0 (⟨some (H432.length,0),1,.ex 1⟩:Sl) H437).bind λr438=>((r438.1).asAgg 2).bind λl439=>(l439[0]?).bind λv440=>((v440).asI .i64).bind λn441=>(l439[1]?).bind λv442=>((v442).asSl).bind λs443=>(if aZ H437 r438.2 then ((bl n433 s434 n441 s443 r438.2).bind λr444=>((r444.1).asAgg 2).bind λl445=>(l445[0]?).bind λv446=>((v446).asI .i64).bind λn447=>(l445[1]?).bind λv448=>((v448).asSl).bind λs449=>(Hp.st r444.2 jl mP (.int .i64 n447)).bind λH450=>(Hp.st H450 jl (mP+1) (.sl s449)).bind λH451=>av.j14 F cp bl (av.l31421 F cp bl C61_ Vi) tR jj mO xj tS gF jk jl mP (wrap .i64 (0 - h_)) eU H451) else none)) else none)))))))) else (av.j12 F cp bl C61_ tR jj mO xj tS gF jl mP H289))
termination_by structural n=>n
def av.j15 (cp:atk) (bl:atk) (C61_:atI) (ahS:Sl) (nX:Int) (BE:Nat) (ahT:Nat) (ahU:Sl) (tT:Int) (tU:Int) (H271:Hp):OA:=(Hp.new H271 [.int .i64 0,.sl ⟨none,0,.ex 0⟩]).bind λH272=>(Hp.st H272 H271.length 0 (.int .i64 0)).bind λH273=>(Hp.st H273 H271.length (0+1) (.sl (⟨none,0,.ex 0⟩:Sl))).bind λH274=>av.l31421 F cp bl C61_ F ahS nX BE ahT ahU tT tU H271.length 0 1 (wrap .i64 (nX - 1)) H274
def av.l3925 (F:Nat) (cp:atk) (bl:atk) (C61_:atI):Nat->Sl->Int->Nat->Nat->Sl->Int->Int->Int->Hp->OA
 | 0,_,_,_,_,_,_,_,_,_=>none
 | ahV+1,BF,jm,nY,BG,BH,jn,kw,ia,H260=>(bif (decide (ia<jm)) then ((if (IntKind.u64.wrap ia)<0 then none else (av.l3925 F cp bl C61_ ahV BF jm nY BG BH jn (wrap .i64 (kw+(Go.bits .and .i64 (Int.fdiv jn (2 ^ (min ((IntKind.u64.wrap ia):Int).toNat (IntKind.i64).bits))) 1))) (wrap .i64 (ia+1)) H260))) else (av.j15 F cp bl C61_ BF jm nY BG BH jn kw H260))
termination_by structural n=>n
def av.l61 (F:Nat) (cp:atk) (bl:atk) :Nat->Sl->Int->Nat->Nat->Sl->Int->Hp->OA
 | 0,_,_,_,_,_,_,_=>none
 | bF+1,HG,eb,dO,gd,BI,kx,H15=>(if (IntKind.u64.wrap eb)<0 then none else ((bif (decide (kx<(wrap .i64 (1 * 2 ^ (min ((IntKind.u64.wrap eb):Int).toNat (IntKind.i64).bits))))) then (av.l3925 F cp bl (av.l61 F cp bl bF) F HG eb dO gd BI kx (-1) 0 H15) else (av.j8 F cp bl eb dO gd BI H15))))
termination_by structural n=>n
def av.twX (cp:atk) (bl:atk) (aa:Sl) (aA:Int) (H:Hp):OA:=(Hp.new H [.int .i64 0,.sl ⟨none,0,.ex 0⟩]).bind λH3=>(if (IntKind.u64.wrap aA)<0 then none else ((Hp.mk H3 [.int .i64 0,.sl ⟨none,0,.ex 0⟩] 32 (wrap .i64 (1 * 2 ^ (min ((IntKind.u64.wrap aA):Int).toNat (IntKind.i64).bits))) (wrap .i64 (1 * 2 ^ (min ((IntKind.u64.wrap aA):Int).toNat (IntKind.i64).bits)))).bind λm4=>(Hp.new m4.2 [(.int .i64 1)]).bind λH5=>(Sl.idx m4.1 0 2).bind λp6=>(Hp.st H5 p6.1 p6.2 (.int .i64 0)).bind λH7=>(Hp.st H7 p6.1 (p6.2+1) (.sl (⟨some (m4.2.length,0),1,.ex 1⟩:Sl))).bind λH8=>av.l61 F cp bl F aa aA H.length 0 m4.1 1 H8))
def av.tw:=av.twX F (aH.tw F) (aI.tw F)
def av.lh61 (cp:atk) (bl:atk) (ks:atj) (n:Nat) (tm:Tm) (H:Hp):OA:=match ks,tm 0,tm 1,tm 4,tm 5,tm 6 with
 | [],(.sl HG),(.int .i64 eb),(.ptr dO gd),(.sl BI),(.int .i64 kx)=>av.l61 F cp bl n HG eb dO gd BI kx H
 | _,_,_,_,_,_=>none
def av.lh3925 (cp:atk) (bl:atk) (ks:atj) (n:Nat) (tm:Tm) (H:Hp):OA:=match ks,tm 0,tm 1,tm 4,tm 5,tm 6,tm 7,tm 8 with
 | [bF],(.sl BF),(.int .i64 jm),(.ptr nY BG),(.sl BH),(.int .i64 jn),(.int .i64 kw),(.int .i64 ia)=>av.l3925 F cp bl (av.l61 F cp bl bF) n BF jm nY BG BH jn kw ia H
 | _,_,_,_,_,_,_,_=>none
def av.lh31421 (cp:atk) (bl:atk) (ks:atj) (n:Nat) (tm:Tm) (H:Hp):OA:=match ks,tm 0,tm 1,tm 4,tm 5,tm 6,tm 7,tm 9,tm 10,tm 11 with
 | [bF],(.sl tR),(.int .i64 jj),(.ptr mO xj),(.sl tS),(.int .i64 gF),(.int .i64 jk),(.ptr jl mP),(.int .i64 h_),(.int .i64 eU)=>av.l31421 F cp bl (av.l61 F cp bl bF) n tR jj mO xj tS gF jk jl mP h_ eU H
 | _,_,_,_,_,_,_,_,_,_=>none
def av.lh (cp:atk) (bl:atk) (p:Nat) (ks:atj) (n:Nat) (tm:Tm) (H:Hp):OA:=bif p.beq 31421 then av.lh31421 F cp bl ks n tm H else (bif p.beq 3925 then av.lh3925 F cp bl ks n tm H else (bif p.beq 61 then av.lh61 F cp bl ks n tm H else (none)))
def av.pn:Nat->List Nat:=cR [(17,[17]),(18,[6,7])]
def av.tb:Nat->List (List Nat):=cR [(17,[[],[],[0,1],[0,1,2],[],[0,1,2,3,4],[0,1,2,3,4,5],[],[],[],[9],[9,10],[8,9,10,11],[7,8,9,10,11,12],[7,8,9,10,11,12,13],[0,1,2,3,4,5,6,7,8,9,10,11,12,13,14],[],[0,1,2,3,4,5,6,7,8,9,10,11,12,13,14,15,16]]),(18,[[],[],[],[2],[2,3],[1,2,3,4],[0,1,2,3,4,5],[0,1,2,3,4,5,6]])]
def av.cs (F:Nat) (cp:atk) (bl:atk):Cs:=[(120,mk9 cp),(121,mk9 bl)]
theorem av.loops (cp:atk) (bl:atk):LO (aY (av.cs F cp bl)) av.pn (av.lh F cp bl) F Try.f88:=
 (ae.rt (ae.rt (ae.rt (ae.lt (ae.rt (ae.block (ae.la (λn tm H r h=>by change av.lh61 F cp bl [] n tm H=_ at h;unfold av.lh61 at h;split at h;have e:bL tm [(0,_),(1,_),(4,_),(5,_),(6,_)]:=⟨‹_›,‹_›,‹_›,‹_›,‹_›,trivial⟩;obtain _ | k61:=n;cases h;exact ⟨_,rfl,by rw [<- bN e];exact Eq.trans (by kernel_rfl) h⟩;cases h) λk61=>(ae.rt (ae.lt (ae.block (ae.rt (ae.seq (ae.rt (ae.block (ae.la (λn tm H r h=>by change av.lh3925 F cp bl [k61] n tm H=_ at h;unfold av.lh3925 at h;split at h;have e:bL tm [(0,_),(1,_),(4,_),(5,_),(6,_),(7,_),(8,_)]:=⟨‹_›,‹_›,‹_›,‹_›,‹_›,‹_›,‹_›,trivial⟩;cases (show [k61]=_ from ‹_›);obtain _ | k3925:=n;cases h;exact ⟨_,rfl,by rw [<- bN e];exact Eq.trans (by kernel_rfl) h⟩;cases h) λk3925=>ae.no))) (ae.rt (ae.rt (ae.lt (ae.rt (ae.block (ae.la (λn tm H r h=>by change av.lh31421 F cp bl [k61] n tm H=_ at h;unfold av.lh31421 at h;split at h;have e:bL tm [(0,_),(1,_),(4,_),(5,_),(6,_),(7,_),(9,_),(10,_),(11,_)]:=⟨‹_›,‹_›,‹_›,‹_›,‹_›,‹_›,‹_›,‹_›,‹_›,trivial⟩;cases (show [k61]=_ from ‹_›);obtain _ | k31421:=n;cases h;exact ⟨_,rfl,by rw [<- bN e];exact Eq.trans (by kernel_rfl) h⟩;cases h) λk31421=>ae.no))))))))))))))))))
theorem av.eqX (cp:atk) (bl:atk) (aa:Sl) (aA:Int) (H:Hp):EX (aY (av.cs F cp bl)) av.pn (av.lh F cp bl) F Try.f88 [(.sl aa),(.int .i64 aA)] H=av.twX F cp bl aa aA H:=by kernel_rfl
theorem av.k:Ok Try.prog 88 (mk0 (av.tw F)):=by
 intro args H v H' h
 unfold mk0 at h
 split at h
 ·exact okT (TB:=av.tb) Try.func88 (aM (aH.k F) (aM (aI.k F) bB)) (av.loops F (aH.tw F) (aI.tw F)) ((av.eqX F (aH.tw F) (aI.tw F) _ _ H).trans h) (by kernel_rfl)
 ·cases h
def bG.l125 (F:Nat) (bY:atp) :Nat->Nat->Nat->Int->Hp->OA
 | 0,_,_,_,_=>none
 | fM+1,mQ,xk,fK,H25=>(Hp.ldSl H25 mQ (xk+1)).bind λs32=>(bif (decide (fK<(s32.n:Int))) then ((Hp.ldSl H25 mQ (xk+1)).bind λs33=>(Sl.idx s33 fK 1).bind λp34=>(Hp.ldI H25 .i64 p34.1 p34.2).bind λn35=>(bY n35 (-1000000000000) 1000000000000 H25).bind λr36=>((r36.1).asB).bind λb37=>(bif (!b37) then (some ((.bool false),r36.2)) else (bG.l125 F bY fM mQ xk (wrap .i64 (fK+1)) r36.2))) else (some ((.bool true),H25)))
termination_by structural n=>n
def bG.twX (bY:atp) (aa:Int) (af:Sl) (H:Hp):OA:=(Hp.new H [(.int .i64 aa),(.sl af)]).bind λH3=>(Hp.ldSl H3 H.length 1).bind λs4=>(bif ((s4.n:Int)==0) then ((Hp.ldI H3 .i64 H.length 0).bind λn5=>some ((.bool (n5==0)),H3)) else ((bif (decide ((s4.n:Int)>160)) then (some ((.bool false),H3)) else ((Hp.ldI H3 .i64 H.length 0).bind λn6=>(bY n6 (-240) 240 H3).bind λr7=>((r7.1).asB).bind λb8=>(bif (!b8) then (some ((.bool false),r7.2)) else ((Hp.ldI r7.2 .i64 H.length 0).bind λn9=>(bif (decide ((wrap .i64 ((wrap .i64 (n9+(s4.n:Int))) - 1))>240)) then (some ((.bool false),r7.2)) else ((Hp.ldSl r7.2 H.length 1).bind λs10=>(Sl.idx s10 0 1).bind λp11=>(Hp.ldI r7.2 .i64 p11.1 p11.2).bind λn12=>(bif (n12==0) then (some ((.bool false),r7.2)) else ((Hp.ldSl r7.2 H.length 1).bind λs13=>(Sl.idx s13 (wrap .i64 ((s4.n:Int) - 1)) 1).bind λp14=>(Hp.ldI r7.2 .i64 p14.1 p14.2).bind λn15=>(bif (n15==0) then (some ((.bool false),r7.2)) else (bG.l125 F bY F H.length 0 0 r7.2))))))))))))
def bG.tw:=bG.twX F (cS.tw F)
def bG.lh125 (bY:atp) (ks:atj) (n:Nat) (tm:Tm) (H:Hp):OA:=match ks,tm 1,tm 4 with
 | [],(.ptr mQ xk),(.int .i64 fK)=>bG.l125 F bY n mQ xk fK H
 | _,_,_=>none
def bG.lh (bY:atp) (p:Nat) (ks:atj) (n:Nat) (tm:Tm) (H:Hp):OA:=bif p.beq 125 then bG.lh125 F bY ks n tm H else (none)
def mk10 (g:ath) (args:att) (H:Hp):OA:=match args with
 | [(.agg [(.int .i64 aa),(.sl af)])]=>g aa af H
 | _=>none
theorem mk10_E (g:ath) (aa:Int) (af:Sl) (H:Hp):mk10 g [(.agg [(.int .i64 aa),(.sl af)])] H=g aa af H:=rfl
def bG.cs (F:Nat) (bY:atp):Cs:=[(39,mk5 bY)]
theorem bG.loops (bY:atp):LO (aY (bG.cs F bY)) aJ (bG.lh F bY) F Try.f85:=
 (ae.rt (ae.rt (ae.rt (ae.rt (ae.lt (ae.rt (ae.block (ae.la (λn tm H r h=>by change bG.lh125 F bY [] n tm H=_ at h;unfold bG.lh125 at h;split at h;have e:bL tm [(1,_),(4,_)]:=⟨‹_›,‹_›,trivial⟩;obtain _ | k125:=n;cases h;exact ⟨_,rfl,by rw [<- bN e];exact Eq.trans (by kernel_rfl) h⟩;cases h) λk125=>ae.no))))))))
theorem bG.eqX (bY:atp) (aa:Int) (af:Sl) (H:Hp):EX (aY (bG.cs F bY)) aJ (bG.lh F bY) F Try.f85 [(.agg [(.int .i64 aa),(.sl af)])] H=bG.twX F bY aa af H:=by kernel_rfl
theorem bG.k:Ok Try.prog 85 (mk10 (bG.tw F)):=by
 intro args H v H' h
 unfold mk10 at h
 split at h
 ·exact okT (TB:=aJ) Try.func85 (aM (cS.k F) bB) (bG.loops F (cS.tw F)) ((bG.eqX F (cS.tw F) _ _ H).trans h) (by kernel_rfl)
 ·cases h
def bm.j2 (F:Nat) (cv:ath) (C61_:aue) (BJ:Nat) (ahW:Nat) (BK:Nat) (ahX:Nat) (tV:Nat) (HI:Nat) (tW:Int) (nZ:Int) (H84:Hp):OA:=(Hp.ldSl H84 tV (HI+1)).bind λs85=>(Hp.new H84 [(.int .i64 nZ)]).bind λH86=>(Sl.row H86 (⟨some (H84.length,0),1,.ex 1⟩:Sl) 1).bind λxs88=>(Hp.app H86 1 8 s85 (⟨some (H84.length,0),1,.ex 1⟩:Sl).n xs88).bind λa87=>(Hp.st a87.2 tV (HI+1) (.sl a87.1)).bind λH89=>C61_ BJ ahW BK ahX tV HI (wrap .i64 (tW+1)) H89
def bm.l61 (F:Nat) (cv:ath) :Nat->Nat->Nat->Nat->Nat->Nat->Nat->Int->Hp->OA
 | 0,_,_,_,_,_,_,_,_=>none
 | bF+1,ky,pI,fb,iQ,hZ,tX,ft,H31=>(Hp.ldSl H31 ky (pI+1)).bind λs64=>(bif (decide (ft<(s64.n:Int))) then ((Hp.ldSl H31 ky (pI+1)).bind λs65=>(Sl.idx s65 ft 1).bind λp66=>(Hp.ldI H31 .i64 p66.1 p66.2).bind λn67=>(Hp.ldSl H31 ky (pI+1)).bind λs68=>(Sl.idx s68 0 1).bind λp69=>(Hp.ldI H31 .i64 p69.1 p69.2).bind λn70=>(bif (decide (n70<0)) then (bm.j2 F cv (bm.l61 F cv bF) ky pI fb iQ hZ tX ft (wrap .i64 (0 - n67)) H31) else (bm.j2 F cv (bm.l61 F cv bF) ky pI fb iQ hZ tX ft n67 H31))) else ((Hp.ldI H31 .i64 hZ tX).bind λn90=>(Hp.ldSl H31 hZ (tX+1)).bind λs91=>(Hp.st H31 fb iQ (.int .i64 n90)).bind λH92=>(Hp.st H92 fb (iQ+1) (.sl s91)).bind λH93=>(Hp.ldI H93 .i64 fb iQ).bind λn94=>(Hp.ldSl H93 fb (iQ+1)).bind λs95=>some ((.agg [(.int .i64 n94),(.sl s95)]),H93)))
termination_by structural n=>n
def bm.twX (cv:ath) (aa:Int) (af:Sl) (H:Hp):OA:=(Hp.new H [(.int .i64 aa),(.sl af)]).bind λH3=>(Hp.new H3 [.int .i64 0,.sl ⟨none,0,.ex 0⟩]).bind λH4=>(Hp.ldI H4 .i64 H.length 0).bind λn5=>(Hp.ldSl H4 H.length (0+1)).bind λs6=>(cv n5 s6 H4).bind λr7=>((r7.1).asB).bind λb8=>(bif (!b8) then ((Hp.st r7.2 H3.length 0 (.int .i64 0)).bind λH9=>(Hp.st H9 H3.length (0+1) (.sl (⟨none,0,.ex 0⟩:Sl))).bind λH10=>(Hp.ldI H10 .i64 H3.length 0).bind λn11=>(Hp.ldSl H10 H3.length (0+1)).bind λs12=>some ((.agg [(.int .i64 n11),(.sl s12)]),H10)) else ((Hp.ldSl r7.2 H.length 1).bind λs13=>(bif ((s13.n:Int)==0) then ((Hp.st r7.2 H3.length 0 (.int .i64 0)).bind λH14=>(Hp.st H14 H3.length (0+1) (.sl (⟨none,0,.ex 0⟩:Sl))).bind λH15=>(Hp.ldI H15 .i64 H3.length 0).bind λn16=>(Hp.ldSl H15 H3.length (0+1)).bind λs17=>some ((.agg [(.int .i64 n16),(.sl s17)]),H15)) else ((Hp.new r7.2 [.int .i64 0,.sl ⟨none,0,.ex 0⟩]).bind λH18=>(Hp.st H18 r7.2.length 0 (.int .i64 0)).bind λH19=>(Hp.st H19 r7.2.length (0+1) (.sl (⟨none,0,.ex 0⟩:Sl))).bind λH20=>bm.l61 F cv F H.length 0 H3.length 0 r7.2.length 0 0 H20))))
def bm.tw:=bm.twX F (bG.tw F)
def bm.lh61 (cv:ath) (ks:atj) (n:Nat) (tm:Tm) (H:Hp):OA:=match ks,tm 1,tm 2,tm 3,tm 4 with
 | [],(.ptr ky pI),(.ptr fb iQ),(.ptr hZ tX),(.int .i64 ft)=>bm.l61 F cv n ky pI fb iQ hZ tX ft H
 | _,_,_,_,_=>none
def bm.lh (cv:ath) (p:Nat) (ks:atj) (n:Nat) (tm:Tm) (H:Hp):OA:=bif p.beq 61 then bm.lh61 F cv ks n tm H else (none)
def bm.cs (F:Nat) (cv:ath):Cs:=[(85,mk10 cv)]
theorem bm.loops (cv:ath):LO (aY (bm.cs F cv)) aJ (bm.lh F cv) F Try.f87:=
 (ae.rt (ae.rt (ae.rt (ae.lt (ae.rt (ae.block (ae.la (λn tm H r h=>by change bm.lh61 F cv [] n tm H=_ at h;unfold bm.lh61 at h;split at h;have e:bL tm [(1,_),(2,_),(3,_),(4,_)]:=⟨‹_›,‹_›,‹_›,‹_›,trivial⟩;obtain _ | k61:=n;cases h;exact ⟨_,rfl,by rw [<- bN e];exact Eq.trans (by kernel_rfl) h⟩;cases h) λk61=>ae.no)))))))
theorem bm.eqX (cv:ath) (aa:Int) (af:Sl) (H:Hp):EX (aY (bm.cs F cv)) aJ (bm.lh F cv) F Try.f87 [(.agg [(.int .i64 aa),(.sl af)])] H=bm.twX F cv aa af H:=by kernel_rfl
theorem bm.k:Ok Try.prog 87 (mk10 (bm.tw F)):=by
 intro args H v H' h
 unfold mk10 at h
 split at h
 ·exact okT (TB:=aJ) Try.func87 (aM (bG.k F) bB) (bm.loops F (bG.tw F)) ((bm.eqX F (bG.tw F) _ _ H).trans h) (by kernel_rfl)
 ·cases h
def ed.twX (F:Nat) (bS:ate) (pJ:ate) (pK:ate) (pL:ath) (aa:Sl) (af:Int) (H:Hp):OA:=(Hp.new H [(.sl aa),(.int .i64 af)]).bind λH3=>(Hp.new H3 [.int .i64 0,.sl ⟨none,0,.ex 0⟩]).bind λH4=>(Hp.ldSl H4 H.length 0).bind λs5=>(Hp.ldI H4 .i64 H.length (0+1)).bind λn6=>(bS s5 n6 H4).bind λr7=>((r7.1).asTup 2).bind λl8=>(l8[0]?).bind λv9=>((v9).asSl).bind λs10=>(l8[1]?).bind λv11=>((v11).asI .i64).bind λn12=>(Hp.ldSl r7.2 H.length 0).bind λs13=>(bif ((s13.n:Int) != n12) then ((bif ((s13.n:Int) != (wrap .i64 (n12 - 1))) then ((Hp.st r7.2 H3.length 0 (.int .i64 0)).bind λH14=>(Hp.st H14 H3.length (0+1) (.sl (⟨none,0,.ex 0⟩:Sl))).bind λH15=>(Hp.ldI H15 .i64 H3.length 0).bind λn16=>(Hp.ldSl H15 H3.length (0+1)).bind λs17=>some ((.agg [(.int .i64 n16),(.sl s17)]),H15)) else ((Hp.ldSl r7.2 H.length 0).bind λs18=>(Hp.ldI r7.2 .i64 H.length (0+1)).bind λn19=>(pJ s18 n19 r7.2).bind λr20=>((r20.1).asSl).bind λs21=>(pK s21 (wrap .i64 (n12 - 1)) r20.2).bind λr22=>((r22.1).asAgg 2).bind λl23=>(l23[0]?).bind λv24=>((v24).asI .i64).bind λn25=>(l23[1]?).bind λv26=>((v26).asSl).bind λs27=>(pL n25 s27 r22.2).bind λr28=>((r28.1).asAgg 2).bind λl29=>(l29[0]?).bind λv30=>((v30).asI .i64).bind λn31=>(l29[1]?).bind λv32=>((v32).asSl).bind λs33=>(Hp.st r28.2 H3.length 0 (.int .i64 n31)).bind λH34=>(Hp.st H34 H3.length (0+1) (.sl s33)).bind λH35=>(Hp.ldI H35 .i64 H3.length 0).bind λn36=>(Hp.ldSl H35 H3.length (0+1)).bind λs37=>some ((.agg [(.int .i64 n36),(.sl s37)]),H35)))) else ((Hp.ldSl r7.2 H.length 0).bind λs38=>(Hp.ldI r7.2 .i64 H.length (0+1)).bind λn39=>(pJ s38 n39 r7.2).bind λr40=>((r40.1).asSl).bind λs41=>(pK s41 (wrap .i64 (n12 - 1)) r40.2).bind λr42=>((r42.1).asAgg 2).bind λl43=>(l43[0]?).bind λv44=>((v44).asI .i64).bind λn45=>(l43[1]?).bind λv46=>((v46).asSl).bind λs47=>(pL n45 s47 r42.2).bind λr48=>((r48.1).asAgg 2).bind λl49=>(l49[0]?).bind λv50=>((v50).asI .i64).bind λn51=>(l49[1]?).bind λv52=>((v52).asSl).bind λs53=>(Hp.st r48.2 H3.length 0 (.int .i64 n51)).bind λH54=>(Hp.st H54 H3.length (0+1) (.sl s53)).bind λH55=>(Hp.ldI H55 .i64 H3.length 0).bind λn56=>(Hp.ldSl H55 H3.length (0+1)).bind λs57=>some ((.agg [(.int .i64 n56),(.sl s57)]),H55)))
def ed.tw:=ed.twX F (aj.tw F) (a_.tw F) (av.tw F) (bm.tw F)
def ed.cs (F:Nat) (bS:ate) (pJ:ate) (pK:ate) (pL:ath):Cs:=[(77,mk4 bS),(89,mk4 pJ),(88,mk0 pK),(87,mk10 pL)]
theorem ed.eqX (bS:ate) (pJ:ate) (pK:ate) (pL:ath) (aa:Sl) (af:Int) (H:Hp):EX (aY (ed.cs F bS pJ pK pL)) aJ lh0 F Try.f48 [(.agg [(.sl aa),(.int .i64 af)])] H=ed.twX F bS pJ pK pL aa af H:=by kernel_rfl
theorem ed.k:Ok Try.prog 48 (mk4 (ed.tw F)):=by
 intro args H v H' h
 unfold mk4 at h
 split at h
 ·exact okT (TB:=aJ) Try.func48 (aM (aj.k F) (aM (a_.k F) (aM (av.k F) (aM (bm.k F) bB)))) ae.no ((ed.eqX F (aj.tw F) (a_.tw F) (av.tw F) (bm.tw F) _ _ H).trans h) (by kernel_rfl)
 ·cases h
def eC.twX (F:Nat) (tY:ate) (pM:ate) (aa:Sl) (af:Int) (H:Hp):OA:=(Hp.new H [(.sl aa),(.int .i64 af)]).bind λH3=>(Hp.new H3 [.int .i64 0,.sl ⟨none,0,.ex 0⟩]).bind λH4=>(Hp.ldSl H4 H.length 0).bind λs5=>(Hp.ldI H4 .i64 H.length (0+1)).bind λn6=>(tY s5 n6 H4).bind λr7=>((r7.1).asB).bind λb8=>(bif (!b8) then ((Hp.st r7.2 H3.length 0 (.int .i64 0)).bind λH9=>(Hp.st H9 H3.length (0+1) (.sl (⟨none,0,.ex 0⟩:Sl))).bind λH10=>(Hp.ldI H10 .i64 H3.length 0).bind λn11=>(Hp.ldSl H10 H3.length (0+1)).bind λs12=>some ((.tup [(.agg [(.int .i64 n11),(.sl s12)]),(.int .i64 1)]),H10)) else ((Hp.ldSl r7.2 H.length 0).bind λs13=>(bif ((s13.n:Int)==0) then ((Hp.ldI r7.2 .i64 H.length 1).bind λn14=>(bif (n14==0) then ((Hp.st r7.2 H3.length 0 (.int .i64 0)).bind λH15=>(Hp.st H15 H3.length (0+1) (.sl (⟨none,0,.ex 0⟩:Sl))).bind λH16=>(Hp.ldI H16 .i64 H3.length 0).bind λn17=>(Hp.ldSl H16 H3.length (0+1)).bind λs18=>some ((.tup [(.agg [(.int .i64 n17),(.sl s18)]),(.int .i64 5)]),H16)) else ((Hp.ldSl r7.2 H.length 0).bind λs19=>(Hp.ldI r7.2 .i64 H.length (0+1)).bind λn20=>(pM s19 n20 r7.2).bind λr21=>((r21.1).asAgg 2).bind λl22=>(l22[0]?).bind λv23=>((v23).asI .i64).bind λn24=>(l22[1]?).bind λv25=>((v25).asSl).bind λs26=>(Hp.st r21.2 H3.length 0 (.int .i64 n24)).bind λH27=>(Hp.st H27 H3.length (0+1) (.sl s26)).bind λH28=>(Hp.ldI H28 .i64 H3.length 0).bind λn29=>(Hp.ldSl H28 H3.length (0+1)).bind λs30=>some ((.tup [(.agg [(.int .i64 n29),(.sl s30)]),(.int .i64 0)]),H28)))) else ((Hp.ldSl r7.2 H.length 0).bind λs31=>(Hp.ldI r7.2 .i64 H.length (0+1)).bind λn32=>(pM s31 n32 r7.2).bind λr33=>((r33.1).asAgg 2).bind λl34=>(l34[0]?).bind λv35=>((v35).asI .i64).bind λn36=>(l34[1]?).bind λv37=>((v37).asSl).bind λs38=>(Hp.st r33.2 H3.length 0 (.int .i64 n36)).bind λH39=>(Hp.st H39 H3.length (0+1) (.sl s38)).bind λH40=>(Hp.ldI H40 .i64 H3.length 0).bind λn41=>(Hp.ldSl H40 H3.length (0+1)).bind λs42=>some ((.tup [(.agg [(.int .i64 n41),(.sl s42)]),(.int .i64 0)]),H40)))))
def eC.tw:=eC.twX F (dG.tw F) (ed.tw F)
def eC.cs (F:Nat) (tY:ate) (pM:ate):Cs:=[(26,mk4 tY),(48,mk4 pM)]
theorem eC.eqX (tY:ate) (pM:ate) (aa:Sl) (af:Int) (H:Hp):EX (aY (eC.cs F tY pM)) aJ lh0 F Try.f20 [(.agg [(.sl aa),(.int .i64 af)])] H=eC.twX F tY pM aa af H:=by kernel_rfl
theorem eC.k:Ok Try.prog 20 (mk4 (eC.tw F)):=by
 intro args H v H' h
 unfold mk4 at h
 split at h
 ·exact okT (TB:=aJ) Try.func20 (aM (dG.k F) (aM (ed.k F) bB)) ae.no ((eC.eqX F (dG.tw F) (ed.tw F) _ _ H).trans h) (by kernel_rfl)
 ·cases h
def bk.j2 (F:Nat) (cv:ath) (C61_:auf) (tZ:Int) (BL:Nat) (ahY:Nat) (t_:Int) (ua:Int) (H61:Hp):OA:=C61_ tZ BL ahY t_ (wrap .i64 (ua+1)) H61
def bk.l61 (F:Nat) (cv:ath) :Nat->Int->Nat->Nat->Int->Int->Hp->OA
 | 0,_,_,_,_,_,_=>none
 | bF+1,ib,iS,dS,ic,eV,H19=>(Hp.ldSl H19 iS (dS+1)).bind λs44=>(bif (decide (eV<(s44.n:Int))) then ((bif (decide (ib<0)) then ((Hp.ldI H19 .i64 iS dS).bind λn45=>(bif ((Int.tmod (wrap .i64 (n45+eV)) 2) != 0) then ((Hp.ldSl H19 iS (dS+1)).bind λs46=>(Sl.idx s46 eV 1).bind λp47=>(Hp.ldI H19 .i64 p47.1 p47.2).bind λn48=>bk.j2 F cv (bk.l61 F cv bF) ib iS dS (wrap .i64 (ic - n48)) eV H19) else ((Hp.ldSl H19 iS (dS+1)).bind λs62=>(Sl.idx s62 eV 1).bind λp63=>(Hp.ldI H19 .i64 p63.1 p63.2).bind λn64=>bk.j2 F cv (bk.l61 F cv bF) ib iS dS (wrap .i64 (ic+n64)) eV H19))) else ((Hp.ldSl H19 iS (dS+1)).bind λs65=>(Sl.idx s65 eV 1).bind λp66=>(Hp.ldI H19 .i64 p66.1 p66.2).bind λn67=>bk.l61 F cv bF ib iS dS (wrap .i64 (ic+n67)) (wrap .i64 (eV+1)) H19))) else (some ((.tup [(.int .i64 ic),(.bool true)]),H19)))
termination_by structural n=>n
def bk.twX (cv:ath) (aa:Int) (af:Sl) (au:Int) (H:Hp):OA:=(Hp.new H [(.int .i64 aa),(.sl af)]).bind λH4=>(Hp.ldI H4 .i64 H.length 0).bind λn5=>(Hp.ldSl H4 H.length (0+1)).bind λs6=>(cv n5 s6 H4).bind λr7=>((r7.1).asB).bind λb8=>(bif (!b8) then (some ((.tup [(.int .i64 0),(.bool false)]),r7.2)) else ((bif (au != 1) then ((bif (au != (-1)) then (some ((.tup [(.int .i64 0),(.bool false)]),r7.2)) else (bk.l61 F cv F au H.length 0 0 0 r7.2))) else (bk.l61 F cv F au H.length 0 0 0 r7.2))))
def bk.tw:=bk.twX F (bG.tw F)
def bk.lh61 (cv:ath) (ks:atj) (n:Nat) (tm:Tm) (H:Hp):OA:=match ks,tm 1,tm 2,tm 6,tm 7 with
 | [],(.int .i64 ib),(.ptr iS dS),(.int .i64 ic),(.int .i64 eV)=>bk.l61 F cv n ib iS dS ic eV H
 | _,_,_,_,_=>none
def bk.lh (cv:ath) (p:Nat) (ks:atj) (n:Nat) (tm:Tm) (H:Hp):OA:=bif p.beq 61 then bk.lh61 F cv ks n tm H else (none)
def mk11 (g:atH) (args:att) (H:Hp):OA:=match args with
 | [(.agg [(.int .i64 aa),(.sl af)]),(.int .i64 au)]=>g aa af au H
 | _=>none
theorem mk11_E (g:atH) (aa:Int) (af:Sl) (au:Int) (H:Hp):mk11 g [(.agg [(.int .i64 aa),(.sl af)]),(.int .i64 au)] H=g aa af au H:=rfl
def bk.cs (F:Nat) (cv:ath):Cs:=[(85,mk10 cv)]
theorem bk.loops (cv:ath):LO (aY (bk.cs F cv)) aJ (bk.lh F cv) F Try.f46:=
 (ae.rt (ae.rt (ae.rt (ae.lt (ae.rt (ae.block (ae.la (λn tm H r h=>by change bk.lh61 F cv [] n tm H=_ at h;unfold bk.lh61 at h;split at h;have e:bL tm [(1,_),(2,_),(6,_),(7,_)]:=⟨‹_›,‹_›,‹_›,‹_›,trivial⟩;obtain _ | k61:=n;cases h;exact ⟨_,rfl,by rw [<- bN e];exact Eq.trans (by kernel_rfl) h⟩;cases h) λk61=>ae.no)))))))
theorem bk.eqX (cv:ath) (aa:Int) (af:Sl) (au:Int) (H:Hp):EX (aY (bk.cs F cv)) aJ (bk.lh F cv) F Try.f46 [(.agg [(.int .i64 aa),(.sl af)]),(.int .i64 au)] H=bk.twX F cv aa af au H:=by kernel_rfl
theorem bk.k:Ok Try.prog 46 (mk11 (bk.tw F)):=by
 intro args H v H' h
 unfold mk11 at h
 split at h
 ·exact okT (TB:=aJ) Try.func46 (aM (bG.k F) bB) (bk.loops F (bG.tw F)) ((bk.eqX F (bG.tw F) _ _ _ H).trans h) (by kernel_rfl)
 ·cases h
def fN.twX (F:Nat) (aa:Int) (H:Hp):OA:=some ((.int .i64 (if (wrap .i64 (0 - aa))>aa then (wrap .i64 (0 - aa)) else aa)),H)
def fN.tw:=fN.twX F
def mk12 (g:atm) (args:att) (H:Hp):OA:=match args with
 | [(.int .i64 aa)]=>g aa H
 | _=>none
theorem mk12_E (g:atm) (aa:Int) (H:Hp):mk12 g [(.int .i64 aa)] H=g aa H:=rfl
theorem fN.k:Ok Try.prog 28 (mk12 (fN.tw F)):=by
 intro args H v H' h
 unfold mk12 at h
 split at h
 ·exact ok0 Try.func28 (Eq.trans (by kernel_rfl) h) (by kernel_rfl) (by kernel_rfl)
 ·cases h
def eD.twX (F:Nat) (ub:ate) (uc:atH) (ud:atm) (aa:Sl) (af:Int) (H:Hp):OA:=(Hp.new H [(.sl aa),(.int .i64 af)]).bind λH3=>(Hp.ldSl H3 H.length 0).bind λs4=>(Hp.ldI H3 .i64 H.length (0+1)).bind λn5=>(ub s4 n5 H3).bind λr6=>((r6.1).asTup 2).bind λl7=>(l7[0]?).bind λv8=>((v8).asAgg 2).bind λl9=>(l9[0]?).bind λv10=>((v10).asI .i64).bind λn11=>(l9[1]?).bind λv12=>((v12).asSl).bind λs13=>(l7[1]?).bind λv14=>((v14).asI .i64).bind λn15=>(Hp.new r6.2 [.int .i64 0,.sl ⟨none,0,.ex 0⟩]).bind λH16=>(Hp.st H16 r6.2.length 0 (.int .i64 n11)).bind λH17=>(Hp.st H17 r6.2.length (0+1) (.sl s13)).bind λH18=>(bif (n15 != 0) then (some ((.tup [(.int .i64 0),(.int .i64 n15)]),H18)) else ((Hp.ldI H18 .i64 r6.2.length 0).bind λn19=>(Hp.ldSl H18 r6.2.length (0+1)).bind λs20=>(uc n19 s20 (-1) H18).bind λr21=>((r21.1).asTup 2).bind λl22=>(l22[0]?).bind λv23=>((v23).asI .i64).bind λn24=>(l22[1]?).bind λv25=>((v25).asB).bind λb26=>(ud n24 r21.2).bind λr27=>((r27.1).asI .i64).bind λn28=>some ((.tup [(.int .i64 n28),(.int .i64 0)]),r27.2)))
def eD.tw:=eD.twX F (eC.tw F) (bk.tw F) (fN.tw F)
def eD.cs (F:Nat) (ub:ate) (uc:atH) (ud:atm):Cs:=[(20,mk4 ub),(46,mk11 uc),(28,mk12 ud)]
theorem eD.eqX (ub:ate) (uc:atH) (ud:atm) (aa:Sl) (af:Int) (H:Hp):EX (aY (eD.cs F ub uc ud)) aJ lh0 F Try.f18 [(.agg [(.sl aa),(.int .i64 af)])] H=eD.twX F ub uc ud aa af H:=by kernel_rfl
theorem eD.k:Ok Try.prog 18 (mk4 (eD.tw F)):=by
 intro args H v H' h
 unfold mk4 at h
 split at h
 ·exact okT (TB:=aJ) Try.func18 (aM (eC.k F) (aM (bk.k F) (aM (fN.k F) bB))) ae.no ((eD.eqX F (eC.tw F) (bk.tw F) (fN.tw F) _ _ H).trans h) (by kernel_rfl)
 ·cases h
def cN.twX (F:Nat) (aa:Sl) (H:Hp):OA:=some ((.int .i64 (aa.n:Int)),H)
def cN.tw:=cN.twX F
theorem cN.k:Ok Try.prog 62 (mk3 (cN.tw F)):=by
 intro args H v H' h
 unfold mk3 at h
 split at h
 ·exact ok0 Try.func62 (Eq.trans (by kernel_rfl) h) (by kernel_rfl) (by kernel_rfl)
 ·cases h
def dx.twX (F:Nat) (aa:Int) (aA:Int) (cM:Int) (H:Hp):OA:=(bif (decide (aA<=aa)) then (some ((.bool (decide (aa<=cM))),H)) else (some ((.bool false),H)))
def dx.tw:=dx.twX F
theorem dx.k:Ok Try.prog 63 (mk5 (dx.tw F)):=by
 intro args H v H' h
 unfold mk5 at h
 split at h
 ·exact ok0 Try.func63 (Eq.trans (by kernel_rfl) h) (by kernel_rfl) (by kernel_rfl)
 ·cases h
def fj.twX (F:Nat) (aa:Int) (af:Int) (bW:Int) (bX:Int) (bR:Int) (H:Hp):OA:=(Hp.new H [(.int .i64 aa),(.int .i64 af),(.int .i64 bW),(.int .i64 bX),(.int .i64 bR)]).bind λH6=>(Hp.ldI H6 .i64 H.length 4).bind λn7=>(bif (n7 != 1) then ((Hp.ldI H6 .i64 H.length 4).bind λn8=>some ((.bool (n8 != (-1))),H6)) else (some ((.bool false),H6)))
def fj.tw:=fj.twX F
theorem fj.k:Ok Try.prog 65 (mk2 (fj.tw F)):=by
 intro args H v H' h
 unfold mk2 at h
 split at h
 ·exact ok0 Try.func65 (Eq.trans (by kernel_rfl) h) (by kernel_rfl) (by kernel_rfl)
 ·cases h
def bZ.l13 (F:Nat) (gf:atu) :Nat->Sl->Int->Int->Hp->OA
 | 0,_,_,_,_=>none
 | mG+1,iT,df,cw,H6=>(bif (decide (cw<df)) then ((Sl.idx iT cw 5).bind λp15=>(Hp.ldI H6 .i64 p15.1 p15.2).bind λn16=>(Hp.ldI H6 .i64 p15.1 (p15.2+1)).bind λn17=>(Hp.ldI H6 .i64 p15.1 (p15.2+2)).bind λn18=>(Hp.ldI H6 .i64 p15.1 (p15.2+3)).bind λn19=>(Hp.ldI H6 .i64 p15.1 (p15.2+4)).bind λn20=>(gf n16 n17 n18 n19 n20 H6).bind λr21=>((r21.1).asB).bind λb22=>(bif b22 then (some ((.int .i64 cw),r21.2)) else (bZ.l13 F gf mG iT df (wrap .i64 (cw+1)) r21.2))) else (some ((.int .i64 (-1)),H6)))
def bZ.twX (gf:atu) (aa:Sl) (H:Hp):OA:=bZ.l13 F gf F aa (aa.n:Int) 0 H
def bZ.tw:=bZ.twX F (fj.tw F)
def bZ.lh13 (gf:atu) (ks:atj) (n:Nat) (tm:Tm) (H:Hp):OA:=match ks,tm 0,tm 1,tm 7,tm 8 with
 | [],(.sl iT),(.fn 65 []),(.int .i64 df),(.int .i64 cw)=>bZ.l13 F gf n iT df cw H
 | _,_,_,_,_=>none
def bZ.lh (gf:atu) (p:Nat) (ks:atj) (n:Nat) (tm:Tm) (H:Hp):OA:=bif p.beq 13 then bZ.lh13 F gf ks n tm H else (none)
def mk13 (g:atg) (args:att) (H:Hp):OA:=match args with
 | [(.sl aa),(.fn 65 [])]=>g aa H
 | _=>none
theorem mk13_E (g:atg) (aa:Sl) (H:Hp):mk13 g [(.sl aa),(.fn 65 [])] H=g aa H:=rfl
def bZ.cs (F:Nat) (gf:atu):Cs:=[(65,mk2 gf)]
theorem bZ.loops (gf:atu):LO (aY (bZ.cs F gf)) aJ (bZ.lh F gf) F Try.f99:=
 (ae.rt (ae.lt (ae.rt (ae.block (ae.la (λn tm H r h=>by change bZ.lh13 F gf [] n tm H=_ at h;unfold bZ.lh13 at h;split at h;have e:bL tm [(0,_),(1,_),(7,_),(8,_)]:=⟨‹_›,‹_›,‹_›,‹_›,trivial⟩;obtain _ | k13:=n;cases h;exact ⟨_,rfl,by rw [<- bN e];exact Eq.trans (by kernel_rfl) h⟩;cases h) λk13=>ae.no)))))
theorem bZ.eqX (gf:atu) (aa:Sl) (H:Hp):EX (aY (bZ.cs F gf)) aJ (bZ.lh F gf) F Try.f99 [(.sl aa),(.fn 65 [])] H=bZ.twX F gf aa H:=by kernel_rfl
theorem bZ.k:Ok Try.prog 99 (mk13 (bZ.tw F)):=by
 intro args H v H' h
 unfold mk13 at h
 split at h
 ·exact okT (TB:=aJ) Try.func99 (aM (fj.k F) bB) (bZ.loops F (fj.tw F)) ((bZ.eqX F (fj.tw F) _ H).trans h) (by kernel_rfl)
 ·cases h
def eE.twX (F:Nat) (ue:atg) (aa:Sl) (H:Hp):OA:=(ue aa H).bind λr2=>((r2.1).asI .i64).bind λn3=>some ((.bool (decide (n3>=0))),r2.2)
def eE.tw:=eE.twX F (bZ.tw F)
def eE.cs (F:Nat) (ue:atg):Cs:=[(99,mk13 ue)]
theorem eE.eqX (ue:atg) (aa:Sl) (H:Hp):EX (aY (eE.cs F ue)) aJ lh0 F Try.f64 [(.sl aa),(.fn 65 [])] H=eE.twX F ue aa H:=by kernel_rfl
theorem eE.k:Ok Try.prog 64 (mk13 (eE.tw F)):=by
 intro args H v H' h
 unfold mk13 at h
 split at h
 ·exact okT (TB:=aJ) Try.func64 (aM (bZ.k F) bB) ae.no ((eE.eqX F (bZ.tw F) _ H).trans h) (by kernel_rfl)
 ·cases h
def bits_Mul64.twX (F:Nat) (aa:Int) (aA:Int) (H:Hp):OA:=some ((.tup [(.int .u64 (IntKind.u64.wrap ((IntKind.u64.wrap ((IntKind.u64.wrap ((Int.fdiv aa (2 ^ (min (32:Int).toNat (IntKind.u64).bits))) * (Int.fdiv aA (2 ^ (min (32:Int).toNat (IntKind.u64).bits)))))+(Int.fdiv (IntKind.u64.wrap ((IntKind.u64.wrap ((Int.fdiv aa (2 ^ (min (32:Int).toNat (IntKind.u64).bits))) * (Go.bits .and .u64 aA 4294967295)))+(Int.fdiv (IntKind.u64.wrap ((Go.bits .and .u64 aa 4294967295) * (Go.bits .and .u64 aA 4294967295))) (2 ^ (min (32:Int).toNat (IntKind.u64).bits))))) (2 ^ (min (32:Int).toNat (IntKind.u64).bits)))))+(Int.fdiv (IntKind.u64.wrap ((Go.bits .and .u64 (IntKind.u64.wrap ((IntKind.u64.wrap ((Int.fdiv aa (2 ^ (min (32:Int).toNat (IntKind.u64).bits))) * (Go.bits .and .u64 aA 4294967295)))+(Int.fdiv (IntKind.u64.wrap ((Go.bits .and .u64 aa 4294967295) * (Go.bits .and .u64 aA 4294967295))) (2 ^ (min (32:Int).toNat (IntKind.u64).bits))))) 4294967295)+(IntKind.u64.wrap ((Go.bits .and .u64 aa 4294967295) * (Int.fdiv aA (2 ^ (min (32:Int).toNat (IntKind.u64).bits))))))) (2 ^ (min (32:Int).toNat (IntKind.u64).bits)))))),(.int .u64 (IntKind.u64.wrap (aa * aA)))]),H)
def bits_Mul64.tw:=bits_Mul64.twX F
def mk14 (g:atq) (args:att) (H:Hp):OA:=match args with
 | [(.int .u64 aa),(.int .u64 aA)]=>g aa aA H
 | _=>none
theorem mk14_E (g:atq) (aa:Int) (aA:Int) (H:Hp):mk14 g [(.int .u64 aa),(.int .u64 aA)] H=g aa aA H:=rfl
theorem bits_Mul64.k:Ok Try.prog 139 (mk14 (bits_Mul64.tw F)):=by
 intro args H v H' h
 unfold mk14 at h
 split at h
 ·exact ok0 Try.func139 (Eq.trans (by kernel_rfl) h) (by kernel_rfl) (by kernel_rfl)
 ·cases h
def bits_Mul.twX (F:Nat) (g_bits_Mul64:atq) (aa:Int) (aA:Int) (H:Hp):OA:=(g_bits_Mul64 aa aA H).bind λr3=>((r3.1).asTup 2).bind λl4=>(l4[0]?).bind λv5=>((v5).asI .u64).bind λn6=>(l4[1]?).bind λv7=>((v7).asI .u64).bind λn8=>some ((.tup [(.int .u64 n6),(.int .u64 n8)]),r3.2)
def bits_Mul.tw:=bits_Mul.twX F (bits_Mul64.tw F)
def bits_Mul.cs (F:Nat) (g_bits_Mul64:atq):Cs:=[(139,mk14 g_bits_Mul64)]
theorem bits_Mul.eqX (g_bits_Mul64:atq) (aa:Int) (aA:Int) (H:Hp):EX (aY (bits_Mul.cs F g_bits_Mul64)) aJ lh0 F Try.f112 [(.int .u64 aa),(.int .u64 aA)] H=bits_Mul.twX F g_bits_Mul64 aa aA H:=by kernel_rfl
theorem bits_Mul.k:Ok Try.prog 112 (mk14 (bits_Mul.tw F)):=by
 intro args H v H' h
 unfold mk14 at h
 split at h
 ·exact okT (TB:=aJ) Try.func112 (aM (bits_Mul64.k F) bB) ae.no ((bits_Mul.eqX F (bits_Mul64.tw F) _ _ H).trans h) (by kernel_rfl)
 ·cases h
def bw.l254 (F:Nat) (g_bits_Mul:atq) :Nat->Sl->Int->Hp->OA
 | 0,_,_,_=>none
 | ahZ+1,n_,ug,H33=>(bif (decide (ug<(n_.n:Int))) then ((Sl.cut n_ 2 ug (n_.n:Int)).bind λs37=>(Sl.cut n_ 2 0 ug).bind λs38=>(Hp.cpy H33 2 s37 s38).bind λc39=>bw.l254 F g_bits_Mul ahZ n_ (wrap .i64 (ug+(c39.1:Int))) c39.2) else (some ((.sl n_),H33)))
def bw.j1 (g_bits_Mul:atq) (ah0:Sl) (pN:Int) (H21:Hp):OA:=(Hp.mk H21 [.int .i64 0,.int .i64 0] 16 (wrap .i64 pN) (wrap .i64 pN)).bind λm22=>(Hp.cpy m22.2 2 m22.1 ah0).bind λc23=>bw.l254 F g_bits_Mul F m22.1 (c23.1:Int) c23.2
def bw.j2 (g_bits_Mul:atq) (Vj:Sl) (uh:Int) (H7:Hp):OA:=(g_bits_Mul (IntKind.u64.wrap (Vj.n:Int)) (IntKind.u64.wrap uh) H7).bind λr8=>((r8.1).asTup 2).bind λl9=>(l9[0]?).bind λv10=>((v10).asI .u64).bind λn11=>(l9[1]?).bind λv12=>((v12).asI .u64).bind λn13=>(bif (decide (n11>0)) then (none) else ((bif (decide (n13>9223372036854775807)) then (none) else (bw.j1 F g_bits_Mul Vj n13 r8.2))))
def bw.twX (g_bits_Mul:atq) (aa:Sl) (aA:Int) (H:Hp):OA:=(bif (decide (aA<0)) then (none) else (bw.j2 F g_bits_Mul aa aA H))
def bw.tw:=bw.twX F (bits_Mul.tw F)
def bw.lh254 (g_bits_Mul:atq) (ks:atj) (n:Nat) (tm:Tm) (H:Hp):OA:=match ks,tm 7,tm 8 with
 | [],(.sl n_),(.int .i64 ug)=>bw.l254 F g_bits_Mul n n_ ug H
 | _,_,_=>none
def bw.lh (g_bits_Mul:atq) (p:Nat) (ks:atj) (n:Nat) (tm:Tm) (H:Hp):OA:=bif p.beq 254 then bw.lh254 F g_bits_Mul ks n tm H else (none)
def bw.pn:Nat->List Nat:=cR [(9,[7])]
def bw.tb:Nat->List (List Nat):=cR [(9,[[],[],[],[1,2],[],[],[4,5],[1,2,3,4,5,6],[0,1,2,3,4,5,6,7],[0,1,2,3,4,5,6,7,8]])]
def bw.cs (F:Nat) (g_bits_Mul:atq):Cs:=[(112,mk14 g_bits_Mul)]
theorem bw.loops (g_bits_Mul:atq):LO (aY (bw.cs F g_bits_Mul)) bw.pn (bw.lh F g_bits_Mul) F Try.f100:=
 (ae.rt (ae.rt (ae.rt (ae.rt (ae.rt (ae.rt (ae.lt (ae.block (ae.la (λn tm H r h=>by change bw.lh254 F g_bits_Mul [] n tm H=_ at h;unfold bw.lh254 at h;split at h;have e:bL tm [(7,_),(8,_)]:=⟨‹_›,‹_›,trivial⟩;obtain _ | k254:=n;cases h;exact ⟨_,rfl,by rw [<- bN e];exact Eq.trans (by kernel_rfl) h⟩;cases h) λk254=>ae.no)))))))))
theorem bw.eqX (g_bits_Mul:atq) (aa:Sl) (aA:Int) (H:Hp):EX (aY (bw.cs F g_bits_Mul)) bw.pn (bw.lh F g_bits_Mul) F Try.f100 [(.sl aa),(.int .i64 aA)] H=bw.twX F g_bits_Mul aa aA H:=by kernel_rfl
theorem bw.k:Ok Try.prog 100 (mk0 (bw.tw F)):=by
 intro args H v H' h
 unfold mk0 at h
 split at h
 ·exact okT (TB:=bw.tb) Try.func100 (aM (bits_Mul.k F) bB) (bw.loops F (bits_Mul.tw F)) ((bw.eqX F (bits_Mul.tw F) _ _ H).trans h) (by kernel_rfl)
 ·cases h
def dU.twX (F:Nat) (aa:Int) (af:Int) (bW:Int) (bX:Int) (bR:Int) (H:Hp):OA:=(Hp.new H [(.int .i64 aa),(.int .i64 af),(.int .i64 bW),(.int .i64 bX),(.int .i64 bR)]).bind λH6=>(Hp.new H6 [.int .i64 0,.int .i64 0,.int .i64 0,.int .i64 0]).bind λH7=>(Hp.ldI H7 .i64 H.length 0).bind λn8=>(Hp.ldI H7 .i64 H.length 1).bind λn9=>(Hp.ldI H7 .i64 H.length 2).bind λn10=>(Hp.ldI H7 .i64 H.length 3).bind λn11=>(Hp.st H7 H6.length 0 (.int .i64 n8)).bind λH12=>(Hp.st H12 H6.length (0+1) (.int .i64 n9)).bind λH13=>(Hp.st H13 H6.length (0+1+1) (.int .i64 n10)).bind λH14=>(Hp.st H14 H6.length (0+1+1+1) (.int .i64 n11)).bind λH15=>(Hp.ldI H15 .i64 H6.length 0).bind λn16=>(Hp.ldI H15 .i64 H6.length (0+1)).bind λn17=>(Hp.ldI H15 .i64 H6.length (0+2)).bind λn18=>(Hp.ldI H15 .i64 H6.length (0+3)).bind λn19=>some ((.agg [(.int .i64 n16),(.int .i64 n17),(.int .i64 n18),(.int .i64 n19)]),H15)
def dU.tw:=dU.twX F
theorem dU.k:Ok Try.prog 101 (mk2 (dU.tw F)):=by
 intro args H v H' h
 unfold mk2 at h
 split at h
 ·exact ok0 Try.func101 (Eq.trans (by kernel_rfl) h) (by kernel_rfl) (by kernel_rfl)
 ·cases h
def dV.twX (F:Nat) (aa:Int) (af:Int) (bW:Int) (bX:Int) (bR:Int) (cE:Int) (H:Hp):OA:=(Hp.new H [(.int .i64 aa),(.int .i64 af),(.int .i64 bW),(.int .i64 bX),(.int .i64 bR)]).bind λH7=>(bif (cE==0) then (some ((.bool true),H7)) else ((Hp.ldI H7 .i64 H.length 4).bind λn8=>some ((.bool (cE==(wrap .i64 (2+n8)))),H7)))
def dV.tw:=dV.twX F
theorem dV.k:Ok Try.prog 102 (mk6 (dV.tw F)):=by
 intro args H v H' h
 unfold mk6 at h
 split at h
 ·exact ok0 Try.func102 (Eq.trans (by kernel_rfl) h) (by kernel_rfl) (by kernel_rfl)
 ·cases h
def fO.twX (F:Nat) (aa:Sl) (H:Hp):OA:=some ((.int .i64 (aa.n:Int)),H)
def fO.tw:=fO.twX F
theorem fO.k:Ok Try.prog 131 (mk3 (fO.tw F)):=by
 intro args H v H' h
 unfold mk3 at h
 split at h
 ·exact ok0 Try.func131 (Eq.trans (by kernel_rfl) h) (by kernel_rfl) (by kernel_rfl)
 ·cases h
def dJ.twX (F:Nat) (ui:atg) (fu:atp) (aa:Sl) (aA:Int) (H:Hp):OA:=(ui aa H).bind λr3=>((r3.1).asI .i64).bind λn4=>(fu aA 0 (wrap .i64 (n4 - 1)) r3.2).bind λr5=>((r5.1).asB).bind λb6=>some ((.bool b6),r5.2)
def dJ.tw:=dJ.twX F (fO.tw F) (dx.tw F)
def dJ.cs (F:Nat) (ui:atg) (fu:atp):Cs:=[(131,mk3 ui),(63,mk5 fu)]
theorem dJ.eqX (ui:atg) (fu:atp) (aa:Sl) (aA:Int) (H:Hp):EX (aY (dJ.cs F ui fu)) aJ lh0 F Try.f103 [(.sl aa),(.int .i64 aA)] H=dJ.twX F ui fu aa aA H:=by kernel_rfl
theorem dJ.k:Ok Try.prog 103 (mk0 (dJ.tw F)):=by
 intro args H v H' h
 unfold mk0 at h
 split at h
 ·exact okT (TB:=aJ) Try.func103 (aM (fO.k F) (aM (dx.k F) bB)) ae.no ((dJ.eqX F (fO.tw F) (dx.tw F) _ _ H).trans h) (by kernel_rfl)
 ·cases h
def bf.l3931 (F:Nat) (dW:ate) (di:atu) (dj:atn) (dX:ate) (C61_:aug):Nat->Nat->Nat->Nat->Nat->Sl->Int->Int->Nat->Nat->Int->Int->Int->Int->Int->Int->Hp->OA
 | 0,_,_,_,_,_,_,_,_,_,_,_,_,_,_,_,_=>none
 | Vk+1,eF,fk,fP,ig,xl,jo,jp,jq,mR,ii,fv,fx,fy,fz,dA,H233=>(bif (decide (dA<4)) then ((if 0<=dA/\dA<(4:Int) then (([(.int .i64 fv),(.int .i64 fx),(.int .i64 fy),(.int .i64 fz)]:List AV)[(dA:Int).toNat * 1]?).bind λv283=>((v283).asI .i64).bind λn284=>(Hp.ldSl H233 fP ig).bind λs285=>(Hp.ldI H233 .i64 jq mR).bind λn286=>(Hp.ldI H233 .i64 jq (mR+1)).bind λn287=>(Hp.ldI H233 .i64 jq (mR+2)).bind λn288=>(Hp.ldI H233 .i64 jq (mR+3)).bind λn289=>(Hp.ldI H233 .i64 jq (mR+4)).bind λn290=>(dj n286 n287 n288 n289 n290 dA H233).bind λr291=>((r291.1).asB).bind λb292=>(bif b292 then ((Hp.ldSl r291.2 fP (ig+1)).bind λs293=>(dX s293 n284 r291.2).bind λr294=>((r294.1).asB).bind λb295=>(bif (!b295) then ((Hp.ldSl r294.2 fP ig).bind λs296=>(Hp.ldSl r294.2 fP (ig+1)).bind λs297=>(Hp.st r294.2 eF fk (.sl s296)).bind λH298=>(Hp.st H298 eF (fk+1) (.sl s297)).bind λH299=>(Hp.ldSl H299 eF fk).bind λs300=>(Hp.ldSl H299 eF (fk+1)).bind λs301=>some ((.tup [(.agg [(.sl s300),(.sl s301)]),(.bool false)]),H299)) else ((Sl.idx s293 n284 2).bind λp302=>(Hp.ldI r294.2 .i64 p302.1 p302.2).bind λn303=>(bif (decide (n303>=0)) then ((Hp.ldSl r294.2 fP ig).bind λs304=>(Hp.ldSl r294.2 fP (ig+1)).bind λs305=>(Hp.st r294.2 eF fk (.sl s304)).bind λH306=>(Hp.st H306 eF (fk+1) (.sl s305)).bind λH307=>(Hp.ldSl H307 eF fk).bind λs308=>(Hp.ldSl H307 eF (fk+1)).bind λs309=>some ((.tup [(.agg [(.sl s308),(.sl s309)]),(.bool false)]),H307)) else ((Sl.idx s293 n284 2).bind λp310=>(Hp.st r294.2 p310.1 p310.2 (.int .i64 ii)).bind λH311=>(Hp.st H311 p310.1 (p310.2+1) (.int .i64 dA)).bind λH312=>bf.l3931 F dW di dj dX C61_ Vk eF fk fP ig xl jo jp jq mR ii fv fx fy fz (wrap .i64 (dA+1)) H312))))) else ((dX s285 n284 r291.2).bind λr313=>((r313.1).asB).bind λb314=>(bif (!b314) then ((Hp.ldSl r313.2 fP ig).bind λs315=>(Hp.ldSl r313.2 fP (ig+1)).bind λs316=>(Hp.st r313.2 eF fk (.sl s315)).bind λH317=>(Hp.st H317 eF (fk+1) (.sl s316)).bind λH318=>(Hp.ldSl H318 eF fk).bind λs319=>(Hp.ldSl H318 eF (fk+1)).bind λs320=>some ((.tup [(.agg [(.sl s319),(.sl s320)]),(.bool false)]),H318)) else ((Sl.idx s285 n284 2).bind λp321=>(Hp.ldI r313.2 .i64 p321.1 p321.2).bind λn322=>(bif (decide (n322>=0)) then ((Hp.ldSl r313.2 fP ig).bind λs323=>(Hp.ldSl r313.2 fP (ig+1)).bind λs324=>(Hp.st r313.2 eF fk (.sl s323)).bind λH325=>(Hp.st H325 eF (fk+1) (.sl s324)).bind λH326=>(Hp.ldSl H326 eF fk).bind λs327=>(Hp.ldSl H326 eF (fk+1)).bind λs328=>some ((.tup [(.agg [(.sl s327),(.sl s328)]),(.bool false)]),H326)) else ((Sl.idx s285 n284 2).bind λp329=>(Hp.st r313.2 p329.1 p329.2 (.int .i64 ii)).bind λH330=>(Hp.st H330 p329.1 (p329.2+1) (.int .i64 dA)).bind λH331=>bf.l3931 F dW di dj dX C61_ Vk eF fk fP ig xl jo jp jq mR ii fv fx fy fz (wrap .i64 (dA+1)) H331)))))) else none)) else (C61_ eF fk fP ig xl jo (wrap .i64 (jp+1)) H233))
termination_by structural n=>n
def bf.l61 (F:Nat) (dW:ate) (di:atu) (dj:atn) (dX:ate) :Nat->Nat->Nat->Nat->Nat->Sl->Int->Int->Hp->OA
 | 0,_,_,_,_,_,_,_,_=>none
 | bF+1,eW,ij,mS,fi,BM,kz,ik,H29=>(bif (decide (ik<kz)) then ((Sl.idx BM ik 5).bind λp184=>(Hp.ldI H29 .i64 p184.1 p184.2).bind λn185=>(Hp.ldI H29 .i64 p184.1 (p184.2+1)).bind λn186=>(Hp.ldI H29 .i64 p184.1 (p184.2+2)).bind λn187=>(Hp.ldI H29 .i64 p184.1 (p184.2+3)).bind λn188=>(Hp.ldI H29 .i64 p184.1 (p184.2+4)).bind λn189=>(Hp.new H29 [.int .i64 0,.int .i64 0,.int .i64 0,.int .i64 0,.int .i64 0]).bind λH190=>(Hp.st H190 H29.length 0 (.int .i64 n185)).bind λH191=>(Hp.st H191 H29.length (0+1) (.int .i64 n186)).bind λH192=>(Hp.st H192 H29.length (0+1+1) (.int .i64 n187)).bind λH193=>(Hp.st H193 H29.length (0+1+1+1) (.int .i64 n188)).bind λH194=>(Hp.st H194 H29.length (0+1+1+1+1) (.int .i64 n189)).bind λH195=>(Hp.ldI H195 .i64 H29.length 0).bind λn196=>(Hp.ldI H195 .i64 H29.length (0+1)).bind λn197=>(Hp.ldI H195 .i64 H29.length (0+2)).bind λn198=>(Hp.ldI H195 .i64 H29.length (0+3)).bind λn199=>(Hp.ldI H195 .i64 H29.length (0+4)).bind λn200=>(di n196 n197 n198 n199 n200 H195).bind λr201=>((r201.1).asAgg 4).bind λl202=>(l202[0]?).bind λv203=>((v203).asI .i64).bind λn204=>(l202[1]?).bind λv205=>((v205).asI .i64).bind λn206=>(l202[2]?).bind λv207=>((v207).asI .i64).bind λn208=>(l202[3]?).bind λv209=>((v209).asI .i64).bind λn210=>bf.l3931 F dW di dj dX (bf.l61 F dW di dj dX bF) F eW ij mS fi BM kz ik H29.length 0 ik n204 n206 n208 n210 0 r201.2) else ((Hp.ldSl H29 mS fi).bind λs332=>(Hp.ldSl H29 mS (fi+1)).bind λs333=>(Hp.st H29 eW ij (.sl s332)).bind λH334=>(Hp.st H334 eW (ij+1) (.sl s333)).bind λH335=>(Hp.ldSl H335 eW ij).bind λs336=>(Hp.ldSl H335 eW (ij+1)).bind λs337=>some ((.tup [(.agg [(.sl s336),(.sl s337)]),(.bool true)]),H335)))
termination_by structural n=>n
def bf.twX (dW:ate) (di:atu) (dj:atn) (dX:ate) (aa:Sl) (af:Int) (H:Hp):OA:=(Hp.new H [(.sl aa),(.int .i64 af)]).bind λH3=>(Hp.new H3 [.sl ⟨none,0,.ex 0⟩,.sl ⟨none,0,.ex 0⟩]).bind λH4=>(Hp.ldSl H4 H.length 0).bind λs5=>(Hp.new H4 [(.int .i64 (-1)),(.int .i64 0)]).bind λH6=>(dW (⟨some (H4.length,0),1,.ex 1⟩:Sl) (wrap .i64 (2 * (s5.n:Int))) H6).bind λr7=>((r7.1).asSl).bind λs8=>(Hp.new r7.2 [(.int .i64 (-1)),(.int .i64 0)]).bind λH9=>(dW (⟨some (r7.2.length,0),1,.ex 1⟩:Sl) (wrap .i64 (2 * (s5.n:Int))) H9).bind λr10=>((r10.1).asSl).bind λs11=>(Hp.new r10.2 [.sl ⟨none,0,.ex 0⟩,.sl ⟨none,0,.ex 0⟩]).bind λH12=>(Hp.st H12 r10.2.length 0 (.sl s8)).bind λH13=>(Hp.st H13 r10.2.length (0+1) (.sl s11)).bind λH14=>(Hp.ldSl H14 H.length 0).bind λs15=>bf.l61 F dW di dj dX F H3.length 0 r10.2.length 0 s15 (s15.n:Int) 0 H14
def bf.tw:=bf.twX F (bw.tw F) (dU.tw F) (dV.tw F) (dJ.tw F)
def bf.lh61 (dW:ate) (di:atu) (dj:atn) (dX:ate) (ks:atj) (n:Nat) (tm:Tm) (H:Hp):OA:=match ks,tm 2,tm 5,tm 25,tm 26,tm 27 with
 | [],(.ptr eW ij),(.ptr mS fi),(.sl BM),(.int .i64 kz),(.int .i64 ik)=>bf.l61 F dW di dj dX n eW ij mS fi BM kz ik H
 | _,_,_,_,_,_=>none
def bf.lh3931 (dW:ate) (di:atu) (dj:atn) (dX:ate) (ks:atj) (n:Nat) (tm:Tm) (H:Hp):OA:=match ks,tm 2,tm 5,tm 6,tm 7,tm 25,tm 26,tm 27,tm 33,tm 34 with
 | [bF],(.ptr eF fk),(.ptr fP ig),(.int .i64 ii),(.ptr jq mR),(.sl xl),(.int .i64 jo),(.int .i64 jp),(.agg [(.int .i64 fv),(.int .i64 fx),(.int .i64 fy),(.int .i64 fz)]),(.int .i64 dA)=>bf.l3931 F dW di dj dX (bf.l61 F dW di dj dX bF) n eF fk fP ig xl jo jp jq mR ii fv fx fy fz dA H
 | _,_,_,_,_,_,_,_,_,_=>none
def bf.lh (dW:ate) (di:atu) (dj:atn) (dX:ate) (p:Nat) (ks:atj) (n:Nat) (tm:Tm) (H:Hp):OA:=bif p.beq 3931 then bf.lh3931 F dW di dj dX ks n tm H else (bif p.beq 61 then bf.lh61 F dW di dj dX ks n tm H else (none))
def bf.cs (F:Nat) (dW:ate) (di:atu) (dj:atn) (dX:ate):Cs:=[(100,mk0 dW),(101,mk2 di),(102,mk6 dj),(103,mk0 dX)]
theorem bf.loops (dW:ate) (di:atu) (dj:atn) (dX:ate):LO (aY (bf.cs F dW di dj dX)) aJ (bf.lh F dW di dj dX) F Try.f66:=
 (ae.rt (ae.rt (ae.rt (ae.lt (ae.rt (ae.block (ae.la (λn tm H r h=>by change bf.lh61 F dW di dj dX [] n tm H=_ at h;unfold bf.lh61 at h;split at h;have e:bL tm [(2,_),(5,_),(25,_),(26,_),(27,_)]:=⟨‹_›,‹_›,‹_›,‹_›,‹_›,trivial⟩;obtain _ | k61:=n;cases h;exact ⟨_,rfl,by rw [<- bN e];exact Eq.trans (by kernel_rfl) h⟩;cases h) λk61=>(ae.rt (ae.rt (ae.lt (ae.block (ae.rt (ae.rt (ae.block (ae.la (λn tm H r h=>by change bf.lh3931 F dW di dj dX [k61] n tm H=_ at h;unfold bf.lh3931 at h;split at h;have e:bL tm [(2,_),(5,_),(6,_),(7,_),(25,_),(26,_),(27,_),(33,_),(34,_)]:=⟨‹_›,‹_›,‹_›,‹_›,‹_›,‹_›,‹_›,‹_›,‹_›,trivial⟩;cases (show [k61]=_ from ‹_›);obtain _ | k3931:=n;cases h;exact ⟨_,rfl,by rw [<- bN e];exact Eq.trans (by kernel_rfl) h⟩;cases h) λk3931=>ae.no)))))))))))))))
theorem bf.eqX (dW:ate) (di:atu) (dj:atn) (dX:ate) (aa:Sl) (af:Int) (H:Hp):EX (aY (bf.cs F dW di dj dX)) aJ (bf.lh F dW di dj dX) F Try.f66 [(.agg [(.sl aa),(.int .i64 af)])] H=bf.twX F dW di dj dX aa af H:=by kernel_rfl
theorem bf.k:Ok Try.prog 66 (mk4 (bf.tw F)):=by
 intro args H v H' h
 unfold mk4 at h
 split at h
 ·exact okT (TB:=aJ) Try.func66 (aM (bw.k F) (aM (dU.k F) (aM (dV.k F) (aM (dJ.k F) bB)))) (bf.loops F (bw.tw F) (dU.tw F) (dV.tw F) (dJ.tw F)) ((bf.eqX F (bw.tw F) (dU.tw F) (dV.tw F) (dJ.tw F) _ _ H).trans h) (by kernel_rfl)
 ·cases h
def dk.twX (F:Nat) (di:atu) (dj:atn) (aa:Sl) (af:Int) (au:Sl) (bv:Sl) (iU:Int) (fQ:Int) (H:Hp):OA:=(Hp.new H [(.sl aa),(.int .i64 af)]).bind λH7=>(Hp.new H7 [(.sl au),(.sl bv)]).bind λH8=>(Hp.new H8 [(.int .i64 iU),(.int .i64 fQ)]).bind λH9=>(Hp.new H9 [.int .i64 0,.int .i64 0]).bind λH10=>(Hp.ldSl H10 H.length 0).bind λs11=>(Hp.ldI H10 .i64 H8.length 0).bind λn12=>(Sl.idx s11 n12 5).bind λp13=>(Hp.ldI H10 .i64 p13.1 p13.2).bind λn14=>(Hp.ldI H10 .i64 p13.1 (p13.2+1)).bind λn15=>(Hp.ldI H10 .i64 p13.1 (p13.2+2)).bind λn16=>(Hp.ldI H10 .i64 p13.1 (p13.2+3)).bind λn17=>(Hp.ldI H10 .i64 p13.1 (p13.2+4)).bind λn18=>(Hp.new H10 [.int .i64 0,.int .i64 0,.int .i64 0,.int .i64 0,.int .i64 0]).bind λH19=>(Hp.st H19 H10.length 0 (.int .i64 n14)).bind λH20=>(Hp.st H20 H10.length (0+1) (.int .i64 n15)).bind λH21=>(Hp.st H21 H10.length (0+1+1) (.int .i64 n16)).bind λH22=>(Hp.st H22 H10.length (0+1+1+1) (.int .i64 n17)).bind λH23=>(Hp.st H23 H10.length (0+1+1+1+1) (.int .i64 n18)).bind λH24=>(Hp.ldI H24 .i64 H10.length 0).bind λn25=>(Hp.ldI H24 .i64 H10.length (0+1)).bind λn26=>(Hp.ldI H24 .i64 H10.length (0+2)).bind λn27=>(Hp.ldI H24 .i64 H10.length (0+3)).bind λn28=>(Hp.ldI H24 .i64 H10.length (0+4)).bind λn29=>(di n25 n26 n27 n28 n29 H24).bind λr30=>((r30.1).asAgg 4).bind λl31=>(l31[0]?).bind λv32=>((v32).asI .i64).bind λn33=>(l31[1]?).bind λv34=>((v34).asI .i64).bind λn35=>(l31[2]?).bind λv36=>((v36).asI .i64).bind λn37=>(l31[3]?).bind λv38=>((v38).asI .i64).bind λn39=>(if aZ H24 r30.2 then ((Hp.ldI r30.2 .i64 H8.length 1).bind λn40=>(if 0<=n40/\n40<(4:Int) then (([(.int .i64 n33),(.int .i64 n35),(.int .i64 n37),(.int .i64 n39)]:List AV)[(n40:Int).toNat * 1]?).bind λv41=>((v41).asI .i64).bind λn42=>(Hp.ldI r30.2 .i64 H10.length 0).bind λn43=>(Hp.ldI r30.2 .i64 H10.length (0+1)).bind λn44=>(Hp.ldI r30.2 .i64 H10.length (0+2)).bind λn45=>(Hp.ldI r30.2 .i64 H10.length (0+3)).bind λn46=>(Hp.ldI r30.2 .i64 H10.length (0+4)).bind λn47=>(Hp.ldI r30.2 .i64 H8.length 1).bind λn48=>(dj n43 n44 n45 n46 n47 n48 r30.2).bind λr49=>((r49.1).asB).bind λb50=>(bif b50 then ((Hp.ldSl r49.2 H7.length 0).bind λs51=>(Sl.idx s51 n42 2).bind λp52=>(Hp.ldI r49.2 .i64 p52.1 p52.2).bind λn53=>(Hp.ldI r49.2 .i64 p52.1 (p52.2+1)).bind λn54=>(Hp.st r49.2 H9.length 0 (.int .i64 n53)).bind λH55=>(Hp.st H55 H9.length (0+1) (.int .i64 n54)).bind λH56=>(Hp.ldI H56 .i64 H9.length 0).bind λn57=>(Hp.ldI H56 .i64 H9.length (0+1)).bind λn58=>some ((.agg [(.int .i64 n57),(.int .i64 n58)]),H56)) else ((Hp.ldSl r49.2 H7.length 1).bind λs59=>(Sl.idx s59 n42 2).bind λp60=>(Hp.ldI r49.2 .i64 p60.1 p60.2).bind λn61=>(Hp.ldI r49.2 .i64 p60.1 (p60.2+1)).bind λn62=>(Hp.st r49.2 H9.length 0 (.int .i64 n61)).bind λH63=>(Hp.st H63 H9.length (0+1) (.int .i64 n62)).bind λH64=>(Hp.ldI H64 .i64 H9.length 0).bind λn65=>(Hp.ldI H64 .i64 H9.length (0+1)).bind λn66=>some ((.agg [(.int .i64 n65),(.int .i64 n66)]),H64))) else none)) else none)
def dk.tw:=dk.twX F (dU.tw F) (dV.tw F)
def dk.tb:Nat->List (List Nat):=cR [(2,[[],[0],[],[2],[0,1,2,3],[0,1,2,3,4]])]
def mk15 (g:atE) (args:att) (H:Hp):OA:=match args with
 | [(.agg [(.sl aa),(.int .i64 af)]),(.agg [(.sl au),(.sl bv)]),(.agg [(.int .i64 iU),(.int .i64 fQ)])]=>g aa af au bv iU fQ H
 | _=>none
theorem mk15_E (g:atE) (aa:Sl) (af:Int) (au:Sl) (bv:Sl) (iU:Int) (fQ:Int) (H:Hp):mk15 g [(.agg [(.sl aa),(.int .i64 af)]),(.agg [(.sl au),(.sl bv)]),(.agg [(.int .i64 iU),(.int .i64 fQ)])] H=g aa af au bv iU fQ H:=rfl
def dk.cs (F:Nat) (di:atu) (dj:atn):Cs:=[(101,mk2 di),(102,mk6 dj)]
theorem dk.eqX (di:atu) (dj:atn) (aa:Sl) (af:Int) (au:Sl) (bv:Sl) (iU:Int) (fQ:Int) (H:Hp):EX (aY (dk.cs F di dj)) aJ lh0 F Try.f104 [(.agg [(.sl aa),(.int .i64 af)]),(.agg [(.sl au),(.sl bv)]),(.agg [(.int .i64 iU),(.int .i64 fQ)])] H=dk.twX F di dj aa af au bv iU fQ H:=by kernel_rfl
theorem dk.k:Ok Try.prog 104 (mk15 (dk.tw F)):=by
 intro args H v H' h
 unfold mk15 at h
 split at h
 ·exact okT (TB:=dk.tb) Try.func104 (aM (dU.k F) (aM (dV.k F) bB)) ae.no ((dk.eqX F (dU.tw F) (dV.tw F) _ _ _ _ _ _ H).trans h) (by kernel_rfl)
 ·cases h
def aL.j4 (F:Nat) (dq:atE) (C61_:atL) (BN:Nat) (ah1:Nat) (BO:Nat) (ah2:Nat) (ah3:Sl) (ah4:Sl) (uj:Int) (uk:Int) (H248:Hp):OA:=C61_ BN ah1 BO ah2 ah3 ah4 uj (wrap .i64 (uk+1)) H248
def aL.j5 (dq:atE) (C61_:atL) (BP:Nat) (ah5:Nat) (sx:Nat) (ah6:Nat) (nE:Sl) (ah7:Sl) (ul:Int) (um:Int) (H228:Hp):OA:=aL.j4 F dq C61_ BP ah5 sx ah6 nE ah7 ul um H228
def aL.j6 (dq:atE) (C61_:atL) (xm:Nat) (Vl:Nat) (xn:Nat) (Vm:Nat) (Vn:Sl) (Vo:Sl) (Vp:Sl) (oa:Int) (ob:Int) (H205:Hp):OA:=(bif (decide ((Vp.n:Int)>0)) then ((Hp.new H205 [(.sl Vp)]).bind λH206=>(Sl.row H206 (⟨some (H205.length,0),1,.ex 1⟩:Sl) 1).bind λxs208=>(Hp.app H206 1 24 Vn (⟨some (H205.length,0),1,.ex 1⟩:Sl).n xs208).bind λa207=>aL.j5 F dq C61_ xm Vl xn Vm a207.1 Vo oa ob a207.2) else (aL.j5 F dq C61_ xm Vl xn Vm Vn Vo oa ob H205))
def aL.l15725 (F:Nat) (dq:atE) (C61_:atL):Nat->Nat->Nat->Nat->Nat->Sl->Sl->Int->Int->Sl->Int->Hp->OA
 | 0,_,_,_,_,_,_,_,_,_,_,_=>none
 | HJ+1,lW,un,lX,uo,BQ,uq,kA,kB,BR,fR,H164=>(Sl.idx uq fR 1).bind λp249=>(Hp.ldB H164 p249.1 p249.2).bind λb250=>(bif (!b250) then ((Sl.idx uq fR 1).bind λp251=>(Hp.st H164 p251.1 p251.2 (.bool true)).bind λH252=>(Hp.new H252 [(.int .i64 fR)]).bind λH253=>(Sl.row H253 (⟨some (H252.length,0),1,.ex 1⟩:Sl) 1).bind λxs255=>(Hp.app H253 1 8 BR (⟨some (H252.length,0),1,.ex 1⟩:Sl).n xs255).bind λa254=>(Hp.ldSl a254.2 lW un).bind λs256=>(Hp.ldI a254.2 .i64 lW (un+1)).bind λn257=>(Hp.ldSl a254.2 lX uo).bind λs258=>(Hp.ldSl a254.2 lX (uo+1)).bind λs259=>(dq s256 n257 s258 s259 (wrap .i64 (Int.tdiv fR 4)) (Int.tmod (wrap .i64 (fR+1)) 4) a254.2).bind λr260=>((r260.1).asAgg 2).bind λl261=>(l261[0]?).bind λv262=>((v262).asI .i64).bind λn263=>(l261[1]?).bind λv264=>((v264).asI .i64).bind λn265=>(Hp.new r260.2 [.int .i64 0,.int .i64 0]).bind λH266=>(Hp.st H266 r260.2.length 0 (.int .i64 n263)).bind λH267=>(Hp.st H267 r260.2.length (0+1) (.int .i64 n265)).bind λH268=>(Hp.ldI H268 .i64 r260.2.length 0).bind λn269=>(Hp.ldI H268 .i64 r260.2.length 1).bind λn270=>aL.l15725 F dq C61_ HJ lW un lX uo BQ uq kA kB a254.1 (wrap .i64 ((wrap .i64 (4 * n269))+n270)) H268) else (aL.j6 F dq C61_ lW un lX uo BQ uq BR kA kB H164))
termination_by structural n=>n
def aL.l61 (F:Nat) (dq:atE) :Nat->Nat->Nat->Nat->Nat->Sl->Sl->Int->Int->Hp->OA
 | 0,_,_,_,_,_,_,_,_,_=>none
 | bF+1,dS,gg,pO,fl,gS,HK,gT,eG,H22=>(bif (decide (eG<gT)) then (aL.l15725 F dq (aL.l61 F dq bF) F dS gg pO fl gS HK gT eG (⟨none,0,.ex 0⟩:Sl) eG H22) else (some ((.sl gS),H22)))
termination_by structural n=>n
def aL.twX (dq:atE) (aa:Sl) (af:Int) (au:Sl) (bv:Sl) (H:Hp):OA:=(Hp.new H [(.sl aa),(.int .i64 af)]).bind λH5=>(Hp.new H5 [(.sl au),(.sl bv)]).bind λH6=>(Hp.ldSl H6 H.length 0).bind λs7=>(Hp.mk H6 [.bool false] 1 (wrap .i64 (4 * (s7.n:Int))) (wrap .i64 (4 * (s7.n:Int)))).bind λm8=>aL.l61 F dq F H.length 0 H5.length 0 (⟨none,0,.ex 0⟩:Sl) m8.1 (m8.1.n:Int) 0 m8.2
def aL.tw:=aL.twX F (dk.tw F)
def aL.lh61 (dq:atE) (ks:atj) (n:Nat) (tm:Tm) (H:Hp):OA:=match ks,tm 2,tm 3,tm 5,tm 6,tm 17,tm 18 with
 | [],(.ptr dS gg),(.ptr pO fl),(.sl gS),(.sl HK),(.int .i64 gT),(.int .i64 eG)=>aL.l61 F dq n dS gg pO fl gS HK gT eG H
 | _,_,_,_,_,_,_=>none
def aL.lh15725 (dq:atE) (ks:atj) (n:Nat) (tm:Tm) (H:Hp):OA:=match ks,tm 2,tm 3,tm 5,tm 6,tm 8,tm 9,tm 17,tm 18 with
 | [bF],(.ptr lW un),(.ptr lX uo),(.sl BQ),(.sl uq),(.sl BR),(.int .i64 fR),(.int .i64 kA),(.int .i64 kB)=>aL.l15725 F dq (aL.l61 F dq bF) n lW un lX uo BQ uq kA kB BR fR H
 | _,_,_,_,_,_,_,_,_=>none
def aL.lh (dq:atE) (p:Nat) (ks:atj) (n:Nat) (tm:Tm) (H:Hp):OA:=bif p.beq 15725 then aL.lh15725 F dq ks n tm H else (bif p.beq 61 then aL.lh61 F dq ks n tm H else (none))
def mk16 (g:atP) (args:att) (H:Hp):OA:=match args with
 | [(.agg [(.sl aa),(.int .i64 af)]),(.agg [(.sl au),(.sl bv)])]=>g aa af au bv H
 | _=>none
theorem mk16_E (g:atP) (aa:Sl) (af:Int) (au:Sl) (bv:Sl) (H:Hp):mk16 g [(.agg [(.sl aa),(.int .i64 af)]),(.agg [(.sl au),(.sl bv)])] H=g aa af au bv H:=rfl
def aL.cs (F:Nat) (dq:atE):Cs:=[(104,mk15 dq)]
theorem aL.loops (dq:atE):LO (aY (aL.cs F dq)) aJ (aL.lh F dq) F Try.f68:=
 (ae.rt (ae.rt (ae.rt (ae.lt (ae.rt (ae.block (ae.la (λn tm H r h=>by change aL.lh61 F dq [] n tm H=_ at h;unfold aL.lh61 at h;split at h;have e:bL tm [(2,_),(3,_),(5,_),(6,_),(17,_),(18,_)]:=⟨‹_›,‹_›,‹_›,‹_›,‹_›,‹_›,trivial⟩;obtain _ | k61:=n;cases h;exact ⟨_,rfl,by rw [<- bN e];exact Eq.trans (by kernel_rfl) h⟩;cases h) λk61=>(ae.rt (ae.rt (ae.lt (ae.block (ae.rt (ae.rt (ae.lt (ae.rt (ae.block (ae.la (λn tm H r h=>by change aL.lh15725 F dq [k61] n tm H=_ at h;unfold aL.lh15725 at h;split at h;have e:bL tm [(2,_),(3,_),(5,_),(6,_),(8,_),(9,_),(17,_),(18,_)]:=⟨‹_›,‹_›,‹_›,‹_›,‹_›,‹_›,‹_›,‹_›,trivial⟩;cases (show [k61]=_ from ‹_›);obtain _ | k15725:=n;cases h;exact ⟨_,rfl,by rw [<- bN e];exact Eq.trans (by kernel_rfl) h⟩;cases h) λk15725=>ae.no)))))))))))))))))
theorem aL.eqX (dq:atE) (aa:Sl) (af:Int) (au:Sl) (bv:Sl) (H:Hp):EX (aY (aL.cs F dq)) aJ (aL.lh F dq) F Try.f68 [(.agg [(.sl aa),(.int .i64 af)]),(.agg [(.sl au),(.sl bv)])] H=aL.twX F dq aa af au bv H:=by kernel_rfl
theorem aL.k:Ok Try.prog 68 (mk16 (aL.tw F)):=by
 intro args H v H' h
 unfold mk16 at h
 split at h
 ·exact okT (TB:=aJ) Try.func68 (aM (dk.k F) bB) (aL.loops F (dk.tw F)) ((aL.eqX F (dk.tw F) _ _ _ _ H).trans h) (by kernel_rfl)
 ·cases h
def fS.twX (F:Nat) (aa:Sl) (H:Hp):OA:=some ((.int .i64 (aa.n:Int)),H)
def fS.tw:=fS.twX F
theorem fS.k:Ok Try.prog 67 (mk3 (fS.tw F)):=by
 intro args H v H' h
 unfold mk3 at h
 split at h
 ·exact ok0 Try.func67 (Eq.trans (by kernel_rfl) h) (by kernel_rfl) (by kernel_rfl)
 ·cases h
def bU.l29 (F:Nat) :Nat->Sl->Int->Int->Hp->OA
 | 0,_,_,_,_=>none
 | gW+1,BS,kC,il,H7=>(bif (decide (il<kC)) then ((Hp.new H7 [(.int .i64 il)]).bind λH11=>(Sl.row H11 (⟨some (H7.length,0),1,.ex 1⟩:Sl) 1).bind λxs13=>(Hp.app H11 1 8 BS (⟨some (H7.length,0),1,.ex 1⟩:Sl).n xs13).bind λa12=>bU.l29 F gW a12.1 kC (wrap .i64 (il+1)) a12.2) else (some ((.sl BS),H7)))
def bU.twX (aa:Int) (H:Hp):OA:=bU.l29 F F (⟨none,0,.ex 0⟩:Sl) aa 0 H
def bU.tw:=bU.twX F
def bU.lh29 (ks:atj) (n:Nat) (tm:Tm) (H:Hp):OA:=match ks,tm 3,tm 5,tm 6 with
 | [],(.sl BS),(.int .i64 kC),(.int .i64 il)=>bU.l29 F n BS kC il H
 | _,_,_,_=>none
def bU.lh (p:Nat) (ks:atj) (n:Nat) (tm:Tm) (H:Hp):OA:=bif p.beq 29 then bU.lh29 F ks n tm H else (none)
theorem bU.loops:LO (aY []) aJ (bU.lh F) F Try.f106:=
 (ae.rt (ae.rt (ae.lt (ae.rt (ae.block (ae.la (λn tm H r h=>by change bU.lh29 F [] n tm H=_ at h;unfold bU.lh29 at h;split at h;have e:bL tm [(3,_),(5,_),(6,_)]:=⟨‹_›,‹_›,‹_›,trivial⟩;obtain _ | k29:=n;cases h;exact ⟨_,rfl,by rw [<- bN e];exact Eq.trans (by kernel_rfl) h⟩;cases h) λk29=>ae.no))))))
theorem bU.k:Ok Try.prog 106 (mk12 (bU.tw F)):=by
 intro args H v H' h
 unfold mk12 at h
 split at h
 ·exact okT (PN:=aJ) (LH:=(bU.lh F)) (F:=F) (TB:=aJ) Try.func106 bB (bU.loops F) (Eq.trans (by kernel_rfl) h) (by kernel_rfl)
 ·cases h
def bj.j2 (F:Nat) (C7_:auh) (ah8:Sl) (ur:Int) (ut:Int) (ah9:Sl) (uu:Int) (uv:Int) (H50:Hp):OA:=C7_ ah8 ur ut ah9 uu (wrap .i64 (uv+1)) H50
def bj.l7 (F:Nat) :Nat->Sl->Int->Int->Sl->Int->Int->Hp->OA
 | 0,_,_,_,_,_,_,_=>none
 | Vq+1,kD,dB,jr,xo,js,gG,H16=>(bif (decide (gG<js)) then ((Sl.idx xo gG 1).bind λp34=>(Hp.ldI H16 .i64 p34.1 p34.2).bind λn35=>(bif (n35==dB) then ((Sl.idx kD gG 1).bind λp36=>(Hp.st H16 p36.1 p36.2 (.int .i64 jr)).bind λH37=>bj.j2 F (bj.l7 F Vq) kD dB jr xo js gG H37) else (bj.j2 F (bj.l7 F Vq) kD dB jr xo js gG H16))) else (some ((.tup []),H16)))
def bj.twX (aa:Sl) (aA:Int) (cM:Int) (H:Hp):OA:=(Sl.idx aa cM 1).bind λp4=>(Hp.ldI H .i64 p4.1 p4.2).bind λn5=>(Sl.idx aa aA 1).bind λp6=>(Hp.ldI H .i64 p6.1 p6.2).bind λn7=>bj.l7 F F aa n5 n7 aa (aa.n:Int) 0 H
def bj.tw:=bj.twX F
def bj.lh7 (ks:atj) (n:Nat) (tm:Tm) (H:Hp):OA:=match ks,tm 0,tm 6,tm 7,tm 18,tm 19,tm 20 with
 | [],(.sl kD),(.int .i64 dB),(.int .i64 jr),(.sl xo),(.int .i64 js),(.int .i64 gG)=>bj.l7 F n kD dB jr xo js gG H
 | _,_,_,_,_,_,_=>none
def bj.lh (p:Nat) (ks:atj) (n:Nat) (tm:Tm) (H:Hp):OA:=bif p.beq 7 then bj.lh7 F ks n tm H else (none)
def bj.tb:Nat->List (List Nat):=cR [(0,[[],[],[0,1],[0,1,2],[],[],[4,5],[4,5,6],[0,1,2,3],[0,1,2,3,4,5,6,7,8]])]
def mk17 (g:atr) (args:att) (H:Hp):OA:=match args with
 | [(.sl aa),(.int .i64 aA),(.int .i64 cM)]=>g aa aA cM H
 | _=>none
theorem mk17_E (g:atr) (aa:Sl) (aA:Int) (cM:Int) (H:Hp):mk17 g [(.sl aa),(.int .i64 aA),(.int .i64 cM)] H=g aa aA cM H:=rfl
theorem bj.loops:LO (aY []) aJ (bj.lh F) F Try.f107:=
 (ae.rt (ae.rt (ae.block (ae.la (λn tm H r h=>by change bj.lh7 F [] n tm H=_ at h;unfold bj.lh7 at h;split at h;have e:bL tm [(0,_),(6,_),(7,_),(18,_),(19,_),(20,_)]:=⟨‹_›,‹_›,‹_›,‹_›,‹_›,‹_›,trivial⟩;obtain _ | k7:=n;cases h;exact ⟨_,rfl,by rw [<- bN e];exact Eq.trans (by kernel_rfl) h⟩;cases h) λk7=>ae.no))))
theorem bj.k:Ok Try.prog 107 (mk17 (bj.tw F)):=by
 intro args H v H' h
 unfold mk17 at h
 split at h
 ·exact okT (PN:=aJ) (LH:=(bj.lh F)) (F:=F) (TB:=bj.tb) Try.func107 bB (bj.loops F) (Eq.trans (by kernel_rfl) h) (by kernel_rfl)
 ·cases h
theorem nm_law:Keyed Try.prog 2:=int_keyed Try.underlying2
theorem nm_zero (w:World):(zeroValue 2).run Try.prog w=.ok (.int .i64 0) w:=by kernel_rfl
theorem nm_info:(Try.prog.info? 2).map (λi=>(i.zero,i.size,i.bytes))=some (some (.int .i64 0),1,8):=by kernel_rfl
theorem nm_none (a:Option Addr) (cap:Nat) (w:World):Calls Try.prog 108 #[.slice a 0 cap] w λe w'=>e=.returned (.slice none 0 0)/\Below w.heap.size w w':=by
 have hmm:=@run_makeMap Try.prog
 go_enter Try.func108,Try.ntmps108
 go_wp2
 refine wp_loop_rounds 1 ?_
 rw [rounds_succ]
 go_wp2
 go_ret
 exact ⟨rfl,(Below.refl _ _).alloc (Nat.le_refl _) _⟩
theorem nm_any (b off len cap:Nat) (zs:ati) (w:World) (hreach:len<=4294967296) (hz:len<=zs.length) (hb:b<w.heap.size)
  (hc:∀ j,j<zs.length->w.cell? ⟨b,off+j,none⟩=some (.int .i64 (zs.getD j 0))) (hwz:∀ n∈zs,(Lit.int .i64 n).wf=true) :
  Calls Try.prog 108 #[.slice (some ⟨b,off,none⟩) len cap] w λe w'=>∃ v,e=.returned v/\w'.ownsRow (w.heap.size+1) 2 1 v len ((nst zs len).2.map (Value.int .i64))/\Below w.heap.size w w':=by
 have hmm:=@run_makeMap Try.prog
 obtain ⟨i0,hi,hz0,hz1,hz2⟩:=info_parts nm_info
 go_enter Try.func108,Try.ntmps108
 go_wp2
 go_loopw [4,12] (λv i wr=>∃ (k:Nat) (D:DataW Unit),k<=len/\i=.int .i64 k/\wr.ownsMap Try.prog 2 (plainElem Try.prog 2) w.heap.size k D/\ND D (nst zs k).1 /\
   wr.ownsRow (w.heap.size+1) 2 1 v k ((nst zs k).2.map (Value.int .i64))/\Below w.heap.size w wr/\w.heap.size+1<=wr.heap.size)
  (λ_ i _=>len - (intOf i).toNat)
 case atStart=>exact ⟨0,.map [],Nat.zero_le _,rfl,World.ownsMap_made _ _ _ _,ND.nil,World.ownsRow_nil _ _ _ _,(Below.refl _ _).alloc (Nat.le_refl _) _,by simp⟩
 case round=>
  obtain ⟨k,D,hk,rfl,hown,hD,hrow,hnx,hws⟩:=hrel
  obtain ⟨x,hx⟩:∃ x,x=zs.getD k 0:=⟨_,rfl⟩
  have hwx:(Lit.int .i64 x).wf=true:=by rw [hx];exact arw hwz k
  have hcx:k<len->wr.cell? ⟨b,off+k,none⟩=some (.int .i64 x):=λ_=>by rw [hx];exact (hnx.cell (by exact hb)).trans (hc k (by omega))
  have hkey:keyOf Try.prog 2 (.int .i64 x)=some (.int .i64 x):=keyOf_int_mk Try.underlying2 hwx
  have hl1:=afT zs k
  have hs1:Maps.size D<=k:=by rw [hD.size];exact hl1
  have hht:=hown.tidy nm_law
  have n1:nst zs (k+1)=(bif (nst zs k).1.contains x then (nst zs k).1 else (nst zs k).1++[x],(nst zs k).2++[(((bif (nst zs k).1.contains x then (nst zs k).1 else (nst zs k).1++[x]).idxOf x:Nat):Int)]):=by rw [hx];rfl
  clear hx
  go_wp2_with (first
   | (at_lookup;first
     | (refine wpList_lookup_own_ok_int _ rfl _ _ 155 rfl 2 2 .i64 nm_law Try.underlying155 Try.underlying2 (nm_zero _) w.heap.size k _ rfl hown _ _ rfl hkey ?_;intro c hat hwc)
     | (refine wpList_lookup_own_int _ rfl _ _ 155 rfl 2 2 .i64 nm_law Try.underlying155 Try.underlying2 (nm_zero _) w.heap.size (k+1) _ rfl hown1 _ _ rfl hkey ?_;intro c2 hat2 hwc2)
     | (refine wpList_lookup_own_int _ rfl _ _ 155 rfl 2 2 .i64 nm_law Try.underlying155 Try.underlying2 (nm_zero _) w.heap.size k _ rfl hown _ _ rfl hkey ?_;intro c2 hat2 hwc2))
   | (at_len;refine wpList_len_own _ rfl _ 155 rfl 2 2 Try.underlying155 _ w.heap.size k _ rfl hown ?_)
   | (at_mapUpdate;refine wpList_mapUpdate_own _ rfl _ _ _ 155 rfl 2 2 nm_law Try.underlying155 (plainElem Try.prog 2) w.heap.size k _ rfl hown (by unfold maxLen;omega) _ _ _ rfl rfl hkey _ [] (plainElem_int Try.underlying2 (WalkArith.wf_i64 (by omega))) ?_;intro w1 hown1 hgrow1)
   | (at_builtin;first
     | (refine wpList_append_own _ rfl _ _ 34 rfl (w.heap.size+1) 2 i0 (.int .i64 0) 1 8 Try.underlying34 hi hz0 hz1 hz2 rfl (by decide) _ _ _ rfl ((hrow.kept hgrow1 (Or.inr (Hj hrow (Nat.lt_succ_self _)).symm)).alloc _) ⟨w1.heap.size,0,none⟩ 1 1 [.int .i64 c2] rfl rfl (cell_one_new _ _ _) (ints_oneCell .i64 [c2]) (by unfold maxLen;omega) (by omega) (by have:=hgrow1.size;simp at this ⊢;omega) ?_;intro v' w2 hown' hgrow2 hnil2)
     | (refine wpList_append_own _ rfl _ _ 34 rfl (w.heap.size+1) 2 i0 (.int .i64 0) 1 8 Try.underlying34 hi hz0 hz1 hz2 rfl (by decide) _ _ _ rfl (hrow.alloc _) ⟨wr.heap.size,0,none⟩ 1 1 [.int .i64 c2] rfl rfl (cell_one_new _ _ _) (ints_oneCell .i64 [c2]) (by unfold maxLen;omega) (by omega) (by simp;omega) ?_;intro v' w2 hown' hgrow2 hnil2))
   | go_in)
  ·have hlt:k<len:=by assumption
   have ht:(!Maps.has D (Lit.int .i64 x))=true:=by assumption
   have hc0:(nst zs k).1.contains x=false:=by rw [<- hD.has x];simpa using ht
   have hr1:=hrow.kept hgrow1 (Or.inr (Hj hrow (Nat.lt_succ_self _)).symm)
   have s1:=hgrow1.size
   have s2:=hgrow2.size
   simp at s1 s2
   have hD1:=hD.new hht hc0
   rw [hD1.at_ x (by simp) _] at hat2
   have e2:c2=(((nst zs k).1++[x]).idxOf x:Nat):=by injection hat2 with q;injection q with _ q;exact q.symm
   rw [hc0,cond_false] at n1
   go_roundw
   case rel=>
    refine ⟨k+1,_,by omega,by go_num,(hown1.alloc _).kept hgrow2 (Hj hr1 (Nat.lt_succ_self _)),by rw [n1];exact hD1,?_,?_,by omega⟩
    ·rw [n1,List.map_append,<-e2];exact hown'
    ·exact (((hnx.grown hgrow1 hnx.size (λj hj=>by cases hj;exact Nat.le_refl _)).alloc (by omega) _).grown hgrow2 (by simp;omega) (λj hj=>Nat.le_trans (Nat.le_succ _) (hr1.lt j hj).1))
   case measure=>simp [intOf];omega
  ·have hlt:k<len:=by assumption
   have ht:(!Maps.has D (Lit.int .i64 x))=false:=by assumption
   have hc1:(nst zs k).1.contains x=true:=by rw [<- hD.has x];simpa using ht
   have s2:=hgrow2.size
   simp at s2
   rw [hD.at_ x hc1 _] at hat2
   have e2:c2=((nst zs k).1.idxOf x:Nat):=by injection hat2 with q;injection q with _ q;exact q.symm
   rw [hc1,cond_true] at n1
   go_roundw
   case rel=>
    refine ⟨k+1,_,by omega,by go_num,((hown.alloc _).kept hgrow2 (Hj hrow (Nat.lt_succ_self _))).mono (Nat.le_succ _),by rw [n1];exact hD,?_,?_,by omega⟩
    ·rw [n1,List.map_append,<-e2];exact hown'
    ·exact ((hnx.alloc hnx.size _).grown hgrow2 (by simp;omega) (λj hj=>Nat.le_trans (Nat.le_succ _) (hrow.lt j hj).1))
   case measure=>simp [intOf];omega
  ·have:k=len:=by omega
   subst this
   go_ret
   exact ⟨_,rfl,hrow,hnx⟩
theorem nm_ok:NumOk Try.prog 108 2:=⟨nm_none,nm_any⟩
def cT.tw (F:Nat) (aa:Sl) (H:Hp):OA:=Ax aa H
def cT.mk (g:atg) (args:att) (H:Hp):OA:=match args with
 | [.sl aa]=>g aa H
 | _=>none
theorem cT.T {F:Nat} {aa:Sl} {H:Hp} {v:AV} {H':Hp} (h:cT.tw F aa H=some (v,H')):Go.AE.T Try.prog 108 [.sl aa] H v H':=
 nm_ok.T (arx Try.func108 (by kernel_rfl) (by kernel_rfl)) h
theorem cT.mk_T {F:Nat} {args:att} {H:Hp} {v:AV} {H':Hp} (h:cT.mk (cT.tw F) args H=some (v,H')):Go.AE.T Try.prog 108 args H v H':=by
 unfold cT.mk at h
 split at h
 ·exact cT.T h
 ·cases h
theorem cT.k:Ok Try.prog 108 (cT.mk (cT.tw F)):=λ_ _ _ _ h=>cT.mk_T h
def bQ.l29 (F:Nat) (cB:atg) (cU:atm) (cV:atr) (cW:atg) :Nat->Nat->Nat->Sl->Sl->Int->Int->Hp->OA
 | 0,_,_,_,_,_,_,_=>none
 | gW+1,oc,BT,lY,BU,kE,im,H26=>(bif (decide (im<kE)) then ((Sl.idx BU im 2).bind λp40=>(Hp.ldI H26 .i64 p40.1 p40.2).bind λn41=>(Hp.ldI H26 .i64 p40.1 (p40.2+1)).bind λn42=>(Hp.new H26 [.int .i64 0,.int .i64 0]).bind λH43=>(Hp.st H43 H26.length 0 (.int .i64 n41)).bind λH44=>(Hp.st H44 H26.length (0+1) (.int .i64 n42)).bind λH45=>(Hp.ldI H45 .i64 H26.length 0).bind λn46=>(Hp.ldSl H45 oc (BT+1)).bind λs47=>(Sl.idx s47 im 2).bind λp48=>(Hp.ldI H45 .i64 p48.1 p48.2).bind λn49=>(cV lY n46 n49 H45).bind λr50=>bQ.l29 F cB cU cV cW gW oc BT lY BU kE (wrap .i64 (im+1)) r50.2) else ((cW lY H26).bind λr51=>((r51.1).asSl).bind λs52=>some ((.sl s52),r51.2)))
termination_by structural n=>n
def bQ.twX (cB:atg) (cU:atm) (cV:atr) (cW:atg) (aa:Sl) (af:Int) (au:Sl) (bv:Sl) (H:Hp):OA:=(Hp.new H [(.sl aa),(.int .i64 af)]).bind λH5=>(Hp.new H5 [(.sl au),(.sl bv)]).bind λH6=>(Hp.ldSl H6 H.length 0).bind λs7=>(cB s7 H6).bind λr8=>((r8.1).asI .i64).bind λn9=>(cU n9 r8.2).bind λr10=>((r10.1).asSl).bind λs11=>(Hp.ldSl r10.2 H5.length 0).bind λs12=>bQ.l29 F cB cU cV cW F H5.length 0 s11 s12 (s12.n:Int) 0 r10.2
def bQ.tw:=bQ.twX F (cN.tw F) (bU.tw F) (bj.tw F) (cT.tw F)
def bQ.lh29 (cB:atg) (cU:atm) (cV:atr) (cW:atg) (ks:atj) (n:Nat) (tm:Tm) (H:Hp):OA:=match ks,tm 3,tm 5,tm 13,tm 14,tm 15 with
 | [],(.ptr oc BT),(.sl lY),(.sl BU),(.int .i64 kE),(.int .i64 im)=>bQ.l29 F cB cU cV cW n oc BT lY BU kE im H
 | _,_,_,_,_,_=>none
def bQ.lh (cB:atg) (cU:atm) (cV:atr) (cW:atg) (p:Nat) (ks:atj) (n:Nat) (tm:Tm) (H:Hp):OA:=bif p.beq 29 then bQ.lh29 F cB cU cV cW ks n tm H else (none)
def bQ.pn:Nat->List Nat:=cR [(5,[9])]
def bQ.tb:Nat->List (List Nat):=cR [(5,[[],[],[1],[],[3],[],[3,4,5],[3,4,5,6],[3,4,5,6,7],[0,1,2,3,4,5,6,7,8]])]
def bQ.cs (F:Nat) (cB:atg) (cU:atm) (cV:atr) (cW:atg):Cs:=[(62,mk3 cB),(106,mk12 cU),(107,mk17 cV),(108,cT.mk cW)]
theorem bQ.loops (cB:atg) (cU:atm) (cV:atr) (cW:atg):LO (aY (bQ.cs F cB cU cV cW)) bQ.pn (bQ.lh F cB cU cV cW) F Try.f70:=
 (ae.rt (ae.rt (ae.lt (ae.rt (ae.block (ae.la (λn tm H r h=>by change bQ.lh29 F cB cU cV cW [] n tm H=_ at h;unfold bQ.lh29 at h;split at h;have e:bL tm [(3,_),(5,_),(13,_),(14,_),(15,_)]:=⟨‹_›,‹_›,‹_›,‹_›,‹_›,trivial⟩;obtain _ | k29:=n;cases h;exact ⟨_,rfl,by rw [<- bN e];exact Eq.trans (by kernel_rfl) h⟩;cases h) λk29=>ae.no))))))
theorem bQ.eqX (cB:atg) (cU:atm) (cV:atr) (cW:atg) (aa:Sl) (af:Int) (au:Sl) (bv:Sl) (H:Hp):EX (aY (bQ.cs F cB cU cV cW)) bQ.pn (bQ.lh F cB cU cV cW) F Try.f70 [(.agg [(.sl aa),(.int .i64 af)]),(.agg [(.sl au),(.sl bv)])] H=bQ.twX F cB cU cV cW aa af au bv H:=by kernel_rfl
theorem bQ.k:Ok Try.prog 70 (mk16 (bQ.tw F)):=by
 intro args H v H' h
 unfold mk16 at h
 split at h
 ·exact okT (TB:=bQ.tb) Try.func70 (aM (cN.k F) (aM (bU.k F) (aM (bj.k F) (aM (cT.k F) bB)))) (bQ.loops F (cN.tw F) (bU.tw F) (bj.tw F) (cT.tw F)) ((bQ.eqX F (cN.tw F) (bU.tw F) (bj.tw F) (cT.tw F) _ _ _ _ H).trans h) (by kernel_rfl)
 ·cases h
def bO.l61 (F:Nat) :Nat->Sl->Int->Int->Hp->OA
 | 0,_,_,_,_=>none
 | bF+1,kD,gb,gd,H13=>(bif (decide (gd<(kD.n:Int))) then ((Sl.idx kD gd 1).bind λp16=>(Hp.ldI H13 .i64 p16.1 p16.2).bind λn17=>bO.l61 F bF kD (if n17>gb then n17 else gb) (wrap .i64 (gd+1)) H13) else (some ((.int .i64 gb),H13)))
def bO.j1 (Vr:Sl) (H5:Hp):OA:=(Sl.idx Vr 0 1).bind λp6=>(Hp.ldI H5 .i64 p6.1 p6.2).bind λn7=>bO.l61 F F Vr n7 1 H5
def bO.twX (aa:Sl) (H:Hp):OA:=(bif (decide ((aa.n:Int)<1)) then (none) else (bO.j1 F aa H))
def bO.tw:=bO.twX F
def bO.lh61 (ks:atj) (n:Nat) (tm:Tm) (H:Hp):OA:=match ks,tm 0,tm 3,tm 4 with
 | [],(.sl kD),(.int .i64 gb),(.int .i64 gd)=>bO.l61 F n kD gb gd H
 | _,_,_,_=>none
def bO.lh (p:Nat) (ks:atj) (n:Nat) (tm:Tm) (H:Hp):OA:=bif p.beq 61 then bO.lh61 F ks n tm H else (none)
theorem bO.loops:LO (aY []) aJ (bO.lh F) F Try.f105:=
 (ae.rt (ae.rt (ae.rt (ae.lt (ae.rt (ae.block (ae.la (λn tm H r h=>by change bO.lh61 F [] n tm H=_ at h;unfold bO.lh61 at h;split at h;have e:bL tm [(0,_),(3,_),(4,_)]:=⟨‹_›,‹_›,‹_›,trivial⟩;obtain _ | k61:=n;cases h;exact ⟨_,rfl,by rw [<- bN e];exact Eq.trans (by kernel_rfl) h⟩;cases h) λk61=>ae.no)))))))
theorem bO.k:Ok Try.prog 105 (mk3 (bO.tw F)):=by
 intro args H v H' h
 unfold mk3 at h
 split at h
 ·exact okT (PN:=aJ) (LH:=(bO.lh F)) (F:=F) (TB:=aJ) Try.func105 bB (bO.loops F) (Eq.trans (by kernel_rfl) h) (by kernel_rfl)
 ·cases h
def dr.twX (F:Nat) (uw:atg) (aa:Sl) (H:Hp):OA:=(bif ((aa.n:Int)==0) then (some ((.int .i64 0),H)) else ((uw aa H).bind λr2=>((r2.1).asI .i64).bind λn3=>some ((.int .i64 (wrap .i64 (n3+1))),r2.2)))
def dr.tw:=dr.twX F (bO.tw F)
def dr.cs (F:Nat) (uw:atg):Cs:=[(105,mk3 uw)]
theorem dr.eqX (uw:atg) (aa:Sl) (H:Hp):EX (aY (dr.cs F uw)) aJ lh0 F Try.f69 [(.sl aa)] H=dr.twX F uw aa H:=by kernel_rfl
theorem dr.k:Ok Try.prog 69 (mk3 (dr.tw F)):=by
 intro args H v H' h
 unfold mk3 at h
 split at h
 ·exact okT (TB:=aJ) Try.func69 (aM (bO.k F) bB) ae.no ((dr.eqX F (bO.tw F) _ H).trans h) (by kernel_rfl)
 ·cases h
def dc.twX (F:Nat) (cB:atg) (fu:atp) (ux:atg) (uy:ate) (uz:atP) (uA:atg) (uB:atP) (ef:atg) (aa:Sl) (af:Int) (H:Hp):OA:=(Hp.new H [(.sl aa),(.int .i64 af)]).bind λH3=>(Hp.new H3 [.sl ⟨none,0,.ex 0⟩,.sl ⟨none,0,.ex 0⟩]).bind λH4=>(Hp.ldSl H4 H.length 0).bind λs5=>(cB s5 H4).bind λr6=>((r6.1).asI .i64).bind λn7=>(bif (decide (n7>10)) then ((Hp.st r6.2 H3.length 0 (.sl (⟨none,0,.ex 0⟩:Sl))).bind λH8=>(Hp.st H8 H3.length (0+1) (.sl (⟨none,0,.ex 0⟩:Sl))).bind λH9=>(Hp.ldSl H9 H3.length 0).bind λs10=>(Hp.ldSl H9 H3.length (0+1)).bind λs11=>some ((.tup [(.agg [(.sl s10),(.sl s11)]),(.bool false)]),H9)) else ((Hp.ldI r6.2 .i64 H.length 1).bind λn12=>(fu n12 0 8 r6.2).bind λr13=>((r13.1).asB).bind λb14=>(bif (!b14) then ((Hp.st r13.2 H3.length 0 (.sl (⟨none,0,.ex 0⟩:Sl))).bind λH15=>(Hp.st H15 H3.length (0+1) (.sl (⟨none,0,.ex 0⟩:Sl))).bind λH16=>(Hp.ldSl H16 H3.length 0).bind λs17=>(Hp.ldSl H16 H3.length (0+1)).bind λs18=>some ((.tup [(.agg [(.sl s17),(.sl s18)]),(.bool false)]),H16)) else ((Hp.ldSl r13.2 H.length 0).bind λs19=>(ux s19 r13.2).bind λr20=>((r20.1).asB).bind λb21=>(bif b21 then ((Hp.st r20.2 H3.length 0 (.sl (⟨none,0,.ex 0⟩:Sl))).bind λH22=>(Hp.st H22 H3.length (0+1) (.sl (⟨none,0,.ex 0⟩:Sl))).bind λH23=>(Hp.ldSl H23 H3.length 0).bind λs24=>(Hp.ldSl H23 H3.length (0+1)).bind λs25=>some ((.tup [(.agg [(.sl s24),(.sl s25)]),(.bool false)]),H23)) else ((Hp.ldSl r20.2 H.length 0).bind λs26=>(Hp.ldI r20.2 .i64 H.length (0+1)).bind λn27=>(uy s26 n27 r20.2).bind λr28=>((r28.1).asTup 2).bind λl29=>(l29[0]?).bind λv30=>((v30).asAgg 2).bind λl31=>(l31[0]?).bind λv32=>((v32).asSl).bind λs33=>(l31[1]?).bind λv34=>((v34).asSl).bind λs35=>(l29[1]?).bind λv36=>((v36).asB).bind λb37=>(Hp.new r28.2 [.sl ⟨none,0,.ex 0⟩,.sl ⟨none,0,.ex 0⟩]).bind λH38=>(Hp.st H38 r28.2.length 0 (.sl s33)).bind λH39=>(Hp.st H39 r28.2.length (0+1) (.sl s35)).bind λH40=>(bif (!b37) then ((Hp.st H40 H3.length 0 (.sl (⟨none,0,.ex 0⟩:Sl))).bind λH41=>(Hp.st H41 H3.length (0+1) (.sl (⟨none,0,.ex 0⟩:Sl))).bind λH42=>(Hp.ldSl H42 H3.length 0).bind λs43=>(Hp.ldSl H42 H3.length (0+1)).bind λs44=>some ((.tup [(.agg [(.sl s43),(.sl s44)]),(.bool false)]),H42)) else ((Hp.ldSl H40 H.length 0).bind λs45=>(Hp.ldI H40 .i64 H.length (0+1)).bind λn46=>(Hp.ldSl H40 r28.2.length 0).bind λs47=>(Hp.ldSl H40 r28.2.length (0+1)).bind λs48=>(uz s45 n46 s47 s48 H40).bind λr49=>((r49.1).asSl).bind λs50=>(if aZ H40 r49.2 then ((uA s50 r49.2).bind λr51=>((r51.1).asI .i64).bind λn52=>(if aZ r49.2 r51.2 then ((Hp.ldSl r51.2 H.length 0).bind λs53=>(Hp.ldI r51.2 .i64 H.length (0+1)).bind λn54=>(Hp.ldSl r51.2 r28.2.length 0).bind λs55=>(Hp.ldSl r51.2 r28.2.length (0+1)).bind λs56=>(uB s53 n54 s55 s56 r51.2).bind λr57=>((r57.1).asSl).bind λs58=>(ef s58 r57.2).bind λr59=>((r59.1).asI .i64).bind λn60=>(bif (n52 != (wrap .i64 (n7+(wrap .i64 (2 * n60))))) then ((Hp.st r59.2 H3.length 0 (.sl (⟨none,0,.ex 0⟩:Sl))).bind λH61=>(Hp.st H61 H3.length (0+1) (.sl (⟨none,0,.ex 0⟩:Sl))).bind λH62=>(Hp.ldSl H62 H3.length 0).bind λs63=>(Hp.ldSl H62 H3.length (0+1)).bind λs64=>some ((.tup [(.agg [(.sl s63),(.sl s64)]),(.bool false)]),H62)) else ((Hp.ldSl r59.2 r28.2.length 0).bind λs65=>(Hp.ldSl r59.2 r28.2.length (0+1)).bind λs66=>(Hp.st r59.2 H3.length 0 (.sl s65)).bind λH67=>(Hp.st H67 H3.length (0+1) (.sl s66)).bind λH68=>(Hp.ldSl H68 H3.length 0).bind λs69=>(Hp.ldSl H68 H3.length (0+1)).bind λs70=>some ((.tup [(.agg [(.sl s69),(.sl s70)]),(.bool true)]),H68)))) else none)) else none)))))))))
def dc.tw:=dc.twX F (cN.tw F) (dx.tw F) (eE.tw F) (bf.tw F) (aL.tw F) (fS.tw F) (bQ.tw F) (dr.tw F)
def dc.pn:Nat->List Nat:=cR [(5,[10,11])]
def dc.tb:Nat->List (List Nat):=cR [(5,[[],[0],[0,1],[0,1,2],[0,1,2],[0,1,2,3,4],[0,1,2,3,4,5],[0,1,2],[0,1,2],[0,1,2],[0,1,2,3,4,5,6,8,9],[0,1,2,3,4,5,6,8,9,10],[0,1,2,3,4,5,6,8,9,10,11],[0,1,2,3,4,5,6,7,8,9,10,11,12],[0,1,2,3,4,5,6,7,8,9,10,11,12,13],[0,1,2,3,4,5,6,7,8,9,10,11,12,13,14]])]
def dc.cs (F:Nat) (cB:atg) (fu:atp) (ux:atg) (uy:ate) (uz:atP) (uA:atg) (uB:atP) (ef:atg):Cs:=[(62,mk3 cB),(63,mk5 fu),(64,mk13 ux),(66,mk4 uy),(68,mk16 uz),(67,mk3 uA),(70,mk16 uB),(69,mk3 ef)]
theorem dc.eqX (cB:atg) (fu:atp) (ux:atg) (uy:ate) (uz:atP) (uA:atg) (uB:atP) (ef:atg) (aa:Sl) (af:Int) (H:Hp):EX (aY (dc.cs F cB fu ux uy uz uA uB ef)) dc.pn lh0 F Try.f33 [(.agg [(.sl aa),(.int .i64 af)])] H=dc.twX F cB fu ux uy uz uA uB ef aa af H:=by kernel_rfl
theorem dc.k:Ok Try.prog 33 (mk4 (dc.tw F)):=by
 intro args H v H' h
 unfold mk4 at h
 split at h
 ·exact okT (TB:=dc.tb) Try.func33 (aM (cN.k F) (aM (dx.k F) (aM (eE.k F) (aM (bf.k F) (aM (aL.k F) (aM (fS.k F) (aM (bQ.k F) (aM (dr.k F) bB)))))))) ae.no ((dc.eqX F (cN.tw F) (dx.tw F) (eE.tw F) (bf.tw F) (aL.tw F) (fS.tw F) (bQ.tw F) (dr.tw F) _ _ H).trans h) (by kernel_rfl)
 ·cases h
def eg.twX (F:Nat) (uC:ate) (aa:Sl) (af:Int) (H:Hp):OA:=(Hp.new H [(.sl aa),(.int .i64 af)]).bind λH3=>(Hp.ldSl H3 H.length 0).bind λs4=>(Hp.ldI H3 .i64 H.length (0+1)).bind λn5=>(uC s4 n5 H3).bind λr6=>((r6.1).asTup 2).bind λl7=>(l7[0]?).bind λv8=>((v8).asAgg 2).bind λl9=>(l9[0]?).bind λv10=>((v10).asSl).bind λs11=>(l9[1]?).bind λv12=>((v12).asSl).bind λs13=>(l7[1]?).bind λv14=>((v14).asB).bind λb15=>(Hp.new r6.2 [.sl ⟨none,0,.ex 0⟩,.sl ⟨none,0,.ex 0⟩]).bind λH16=>(Hp.st H16 r6.2.length 0 (.sl s11)).bind λH17=>(Hp.st H17 r6.2.length (0+1) (.sl s13)).bind λH18=>some ((.bool b15),H18)
def eg.tw:=eg.twX F (dc.tw F)
def eg.cs (F:Nat) (uC:ate):Cs:=[(33,mk4 uC)]
theorem eg.eqX (uC:ate) (aa:Sl) (af:Int) (H:Hp):EX (aY (eg.cs F uC)) aJ lh0 F Try.f60 [(.agg [(.sl aa),(.int .i64 af)])] H=eg.twX F uC aa af H:=by kernel_rfl
theorem eg.k:Ok Try.prog 60 (mk4 (eg.tw F)):=by
 intro args H v H' h
 unfold mk4 at h
 split at h
 ·exact okT (TB:=aJ) Try.func60 (aM (dc.k F) bB) ae.no ((eg.eqX F (dc.tw F) _ _ H).trans h) (by kernel_rfl)
 ·cases h
def fU.twX (F:Nat) (aa:Sl) (af:Int) (H:Hp):OA:=(Hp.new H [(.sl aa),(.int .i64 af)]).bind λH3=>(Hp.ldSl H3 H.length 0).bind λs4=>(bif ((s4.n:Int)==0) then ((Hp.ldI H3 .i64 H.length 1).bind λn5=>some ((.bool (n5==0)),H3)) else (some ((.bool false),H3)))
def fU.tw:=fU.twX F
theorem fU.k:Ok Try.prog 61 (mk4 (fU.tw F)):=by
 intro args H v H' h
 unfold mk4 at h
 split at h
 ·exact ok0 Try.func61 (Eq.trans (by kernel_rfl) h) (by kernel_rfl) (by kernel_rfl)
 ·cases h
def eM.twX (F:Nat) (uD:ate) (uE:ate) (aa:Sl) (af:Int) (H:Hp):OA:=(Hp.new H [(.sl aa),(.int .i64 af)]).bind λH3=>(Hp.ldSl H3 H.length 0).bind λs4=>(Hp.ldI H3 .i64 H.length (0+1)).bind λn5=>(uD s4 n5 H3).bind λr6=>((r6.1).asB).bind λb7=>(bif (!b7) then (some ((.int .i64 1),r6.2)) else ((Hp.ldSl r6.2 H.length 0).bind λs8=>(Hp.ldI r6.2 .i64 H.length (0+1)).bind λn9=>(uE s8 n9 r6.2).bind λr10=>((r10.1).asB).bind λb11=>(bif b11 then (some ((.int .i64 5),r10.2)) else (some ((.int .i64 0),r10.2)))))
def eM.tw:=eM.twX F (eg.tw F) (fU.tw F)
def eM.cs (F:Nat) (uD:ate) (uE:ate):Cs:=[(60,mk4 uD),(61,mk4 uE)]
theorem eM.eqX (uD:ate) (uE:ate) (aa:Sl) (af:Int) (H:Hp):EX (aY (eM.cs F uD uE)) aJ lh0 F Try.f32 [(.agg [(.sl aa),(.int .i64 af)])] H=eM.twX F uD uE aa af H:=by kernel_rfl
theorem eM.k:Ok Try.prog 32 (mk4 (eM.tw F)):=by
 intro args H v H' h
 unfold mk4 at h
 split at h
 ·exact okT (TB:=aJ) Try.func32 (aM (eg.k F) (aM (fU.k F) bB)) ae.no ((eM.eqX F (eg.tw F) (fU.tw F) _ _ H).trans h) (by kernel_rfl)
 ·cases h
def bg.j1 (F:Nat) (cB:atg) (cU:atm) (cV:atr) (cW:atg) (ef:atg) (BV:Nat) (ah_:Nat) (aia:Sl) (H47:Hp):OA:=(cW aia H47).bind λr48=>((r48.1).asSl).bind λs49=>(ef s49 r48.2).bind λr50=>((r50.1).asI .i64).bind λn51=>(if aZ r48.2 r50.2 then ((Hp.ldI r50.2 .i64 BV (ah_+1)).bind λn52=>some ((.tup [(.sl s49),(.int .i64 (wrap .i64 (n51+n52)))]),r50.2)) else none)
def bg.l29 (F:Nat) (cB:atg) (cU:atm) (cV:atr) (cW:atg) (ef:atg) :Nat->Nat->Nat->Sl->Sl->Int->Int->Hp->OA
 | 0,_,_,_,_,_,_,_=>none
 | gW+1,fc,BW,xp,BX,kF,jt,H20=>(bif (decide (jt<kF)) then ((Sl.idx BX jt 5).bind λp53=>(Hp.ldI H20 .i64 p53.1 p53.2).bind λn54=>(Hp.ldI H20 .i64 p53.1 (p53.2+1)).bind λn55=>(Hp.ldI H20 .i64 p53.1 (p53.2+2)).bind λn56=>(Hp.ldI H20 .i64 p53.1 (p53.2+3)).bind λn57=>(Hp.ldI H20 .i64 p53.1 (p53.2+4)).bind λn58=>(Hp.new H20 [.int .i64 0,.int .i64 0,.int .i64 0,.int .i64 0,.int .i64 0]).bind λH59=>(Hp.st H59 H20.length 0 (.int .i64 n54)).bind λH60=>(Hp.st H60 H20.length (0+1) (.int .i64 n55)).bind λH61=>(Hp.st H61 H20.length (0+1+1) (.int .i64 n56)).bind λH62=>(Hp.st H62 H20.length (0+1+1+1) (.int .i64 n57)).bind λH63=>(Hp.st H63 H20.length (0+1+1+1+1) (.int .i64 n58)).bind λH64=>(Hp.ldI H64 .i64 H20.length 1).bind λn65=>(Hp.ldI H64 .i64 H20.length 3).bind λn66=>(cV xp n65 n66 H64).bind λr67=>bg.l29 F cB cU cV cW ef gW fc BW xp BX kF (wrap .i64 (jt+1)) r67.2) else (bg.j1 F cB cU cV cW ef fc BW xp H20))
termination_by structural n=>n
def bg.twX (cB:atg) (cU:atm) (cV:atr) (cW:atg) (ef:atg) (aa:Sl) (af:Int) (H:Hp):OA:=(Hp.new H [(.sl aa),(.int .i64 af)]).bind λH3=>(Hp.ldSl H3 H.length 0).bind λs4=>(cB s4 H3).bind λr5=>((r5.1).asI .i64).bind λn6=>(cU (wrap .i64 (2 * n6)) r5.2).bind λr7=>((r7.1).asSl).bind λs8=>(Hp.ldSl r7.2 H.length 0).bind λs9=>bg.l29 F cB cU cV cW ef F H.length 0 s8 s9 (s9.n:Int) 0 r7.2
def bg.tw:=bg.twX F (cN.tw F) (bU.tw F) (bj.tw F) (cT.tw F) (dr.tw F)
def bg.lh29 (cB:atg) (cU:atm) (cV:atr) (cW:atg) (ef:atg) (ks:atj) (n:Nat) (tm:Tm) (H:Hp):OA:=match ks,tm 1,tm 4,tm 14,tm 15,tm 16 with
 | [],(.ptr fc BW),(.sl xp),(.sl BX),(.int .i64 kF),(.int .i64 jt)=>bg.l29 F cB cU cV cW ef n fc BW xp BX kF jt H
 | _,_,_,_,_,_=>none
def bg.lh (cB:atg) (cU:atm) (cV:atr) (cW:atg) (ef:atg) (p:Nat) (ks:atj) (n:Nat) (tm:Tm) (H:Hp):OA:=bif p.beq 29 then bg.lh29 F cB cU cV cW ef ks n tm H else (none)
def bg.tb:Nat->List (List Nat):=cR [(8,[[],[],[1],[],[3],[1,2,3,4],[0,1,2],[0,1,2,3,4,5,6]])]
def bg.cs (F:Nat) (cB:atg) (cU:atm) (cV:atr) (cW:atg) (ef:atg):Cs:=[(62,mk3 cB),(106,mk12 cU),(107,mk17 cV),(108,cT.mk cW),(69,mk3 ef)]
theorem bg.loops (cB:atg) (cU:atm) (cV:atr) (cW:atg) (ef:atg):LO (aY (bg.cs F cB cU cV cW ef)) aJ (bg.lh F cB cU cV cW ef) F Try.f91:=
 (ae.rt (ae.rt (ae.lt (ae.rt (ae.block (ae.la (λn tm H r h=>by change bg.lh29 F cB cU cV cW ef [] n tm H=_ at h;unfold bg.lh29 at h;split at h;have e:bL tm [(1,_),(4,_),(14,_),(15,_),(16,_)]:=⟨‹_›,‹_›,‹_›,‹_›,‹_›,trivial⟩;obtain _ | k29:=n;cases h;exact ⟨_,rfl,by rw [<- bN e];exact Eq.trans (by kernel_rfl) h⟩;cases h) λk29=>ae.no))))))
theorem bg.eqX (cB:atg) (cU:atm) (cV:atr) (cW:atg) (ef:atg) (aa:Sl) (af:Int) (H:Hp):EX (aY (bg.cs F cB cU cV cW ef)) aJ (bg.lh F cB cU cV cW ef) F Try.f91 [(.agg [(.sl aa),(.int .i64 af)])] H=bg.twX F cB cU cV cW ef aa af H:=by kernel_rfl
theorem bg.k:Ok Try.prog 91 (mk4 (bg.tw F)):=by
 intro args H v H' h
 unfold mk4 at h
 split at h
 ·exact okT (TB:=bg.tb) Try.func91 (aM (cN.k F) (aM (bU.k F) (aM (bj.k F) (aM (cT.k F) (aM (dr.k F) bB))))) (bg.loops F (cN.tw F) (bU.tw F) (bj.tw F) (cT.tw F) (dr.tw F)) ((bg.eqX F (cN.tw F) (bU.tw F) (bj.tw F) (cT.tw F) (dr.tw F) _ _ H).trans h) (by kernel_rfl)
 ·cases h
def bP.l61 (F:Nat) (bz:ate) :Nat->Sl->Sl->Sl->Int->Int->Hp->OA
 | 0,_,_,_,_,_,_=>none
 | bF+1,jO,BY,gT,eG,ju,H23=>(bif (decide (ju<eG)) then ((Sl.idx gT ju 5).bind λp51=>(Hp.ldI H23 .i64 p51.1 p51.2).bind λn52=>(Hp.ldI H23 .i64 p51.1 (p51.2+1)).bind λn53=>(Hp.ldI H23 .i64 p51.1 (p51.2+2)).bind λn54=>(Hp.ldI H23 .i64 p51.1 (p51.2+3)).bind λn55=>(Hp.ldI H23 .i64 p51.1 (p51.2+4)).bind λn56=>(Hp.new H23 [.int .i64 0,.int .i64 0,.int .i64 0,.int .i64 0,.int .i64 0]).bind λH57=>(Hp.st H57 H23.length 0 (.int .i64 n52)).bind λH58=>(Hp.st H58 H23.length (0+1) (.int .i64 n53)).bind λH59=>(Hp.st H59 H23.length (0+1+1) (.int .i64 n54)).bind λH60=>(Hp.st H60 H23.length (0+1+1+1) (.int .i64 n55)).bind λH61=>(Hp.st H61 H23.length (0+1+1+1+1) (.int .i64 n56)).bind λH62=>(Hp.ldI H62 .i64 H23.length 0).bind λn63=>(Sl.idx jO n63 1).bind λp64=>(Hp.ldI H62 .i64 p64.1 p64.2).bind λn65=>(Hp.ldI H62 .i64 H23.length 2).bind λn66=>(Sl.idx jO n66 1).bind λp67=>(Hp.ldI H62 .i64 p67.1 p67.2).bind λn68=>(Hp.ldI H62 .i64 H23.length 1).bind λn69=>(Sl.idx jO n69 1).bind λp70=>(Hp.ldI H62 .i64 p70.1 p70.2).bind λn71=>(Hp.ldI H62 .i64 H23.length 4).bind λn72=>(Hp.ldI H62 .i64 H23.length 4).bind λn73=>(Hp.new H62 [(.int .i64 (wrap .i64 (n68+1))),(.int .i64 (wrap .i64 (n72 * (wrap .i64 (n71+1))))),(.int .i64 (wrap .i64 (0 - (wrap .i64 (n65+1))))),(.int .i64 (wrap .i64 ((wrap .i64 (0 - n73)) * (wrap .i64 (n71+1)))))]).bind λH74=>(Hp.new H74 [(.sl (⟨some (H62.length,0),4,.ex 4⟩:Sl))]).bind λH75=>(Sl.row H75 (⟨some (H74.length,0),1,.ex 1⟩:Sl) 1).bind λxs77=>(Hp.app H75 1 24 BY (⟨some (H74.length,0),1,.ex 1⟩:Sl).n xs77).bind λa76=>bP.l61 F bz bF jO a76.1 gT eG (wrap .i64 (ju+1)) a76.2) else (some ((.sl BY),H23)))
def bP.twX (bz:ate) (aa:Sl) (af:Int) (H:Hp):OA:=(Hp.new H [(.sl aa),(.int .i64 af)]).bind λH3=>(Hp.ldSl H3 H.length 0).bind λs4=>(Hp.ldI H3 .i64 H.length (0+1)).bind λn5=>(bz s4 n5 H3).bind λr6=>((r6.1).asTup 2).bind λl7=>(l7[0]?).bind λv8=>((v8).asSl).bind λs9=>(l7[1]?).bind λv10=>((v10).asI .i64).bind λn11=>(Hp.ldSl r6.2 H.length 0).bind λs12=>bP.l61 F bz F s9 (⟨none,0,.ex 0⟩:Sl) s12 (s12.n:Int) 0 r6.2
def bP.tw:=bP.twX F (bg.tw F)
def bP.lh61 (bz:ate) (ks:atj) (n:Nat) (tm:Tm) (H:Hp):OA:=match ks,tm 3,tm 5,tm 17,tm 18,tm 19 with
 | [],(.sl jO),(.sl BY),(.sl gT),(.int .i64 eG),(.int .i64 ju)=>bP.l61 F bz n jO BY gT eG ju H
 | _,_,_,_,_,_=>none
def bP.lh (bz:ate) (p:Nat) (ks:atj) (n:Nat) (tm:Tm) (H:Hp):OA:=bif p.beq 61 then bP.lh61 F bz ks n tm H else (none)
def bP.tb:Nat->List (List Nat):=cR [(6,[[],[],[1],[0,1,2],[0,1,2,3],[0,1,2,3,4],[],[],[7],[6,7,8],[6,7,8,9],[6,7,8,9,10],[],[],[13],[12,13,14],[12,13,14,15],[12,13,14,15,16],[0,1,2,3,4,5],[0,1,2,3,4,5,6,7,8,9,10,11,18],[0,1,2,3,4,5,6,7,8,9,10,11,12,13,14,15,16,17,18,19]])]
def bP.cs (F:Nat) (bz:ate):Cs:=[(91,mk4 bz)]
theorem bP.loops (bz:ate):LO (aY (bP.cs F bz)) aJ (bP.lh F bz) F Try.f124:=
 (ae.rt (ae.rt (ae.rt (ae.lt (ae.rt (ae.block (ae.la (λn tm H r h=>by change bP.lh61 F bz [] n tm H=_ at h;unfold bP.lh61 at h;split at h;have e:bL tm [(3,_),(5,_),(17,_),(18,_),(19,_)]:=⟨‹_›,‹_›,‹_›,‹_›,‹_›,trivial⟩;obtain _ | k61:=n;cases h;exact ⟨_,rfl,by rw [<- bN e];exact Eq.trans (by kernel_rfl) h⟩;cases h) λk61=>ae.no)))))))
theorem bP.eqX (bz:ate) (aa:Sl) (af:Int) (H:Hp):EX (aY (bP.cs F bz)) aJ (bP.lh F bz) F Try.f124 [(.agg [(.sl aa),(.int .i64 af)])] H=bP.twX F bz aa af H:=by kernel_rfl
theorem bP.k:Ok Try.prog 124 (mk4 (bP.tw F)):=by
 intro args H v H' h
 unfold mk4 at h
 split at h
 ·exact okT (TB:=bP.tb) Try.func124 (aM (bg.k F) bB) (bP.loops F (bg.tw F)) ((bP.eqX F (bg.tw F) _ _ H).trans h) (by kernel_rfl)
 ·cases h
def dy.twX (F:Nat) (aa:Sl) (H:Hp):OA:=(bif (aa.a.isNone) then (some ((.sl (⟨none,0,.ex 0⟩:Sl)),H)) else ((Hp.new H []).bind λH2=>(Sl.row H2 aa 1).bind λxs4=>(Hp.app H2 1 8 (⟨some (H.length,0),0,.ex 0⟩:Sl) aa.n xs4).bind λa3=>some ((.sl a3.1),a3.2)))
def dy.tw:=dy.twX F
theorem dy.k:Ok Try.prog 126 (mk3 (dy.tw F)):=by
 intro args H v H' h
 unfold mk3 at h
 split at h
 ·exact ok0 Try.func126 (Eq.trans (by kernel_rfl) h) (by kernel_rfl) (by kernel_rfl)
 ·cases h
def aV.j1 (F:Nat) (cj:atg) (uF:Nat) (HL:Nat) (kG:Nat) (od:Nat) (H54:Hp):OA:=(Hp.ldSl H54 uF (HL+1)).bind λs55=>(bif ((s55.n:Int)==0) then ((Hp.st H54 kG od (.int .i64 0)).bind λH56=>(Hp.st H56 kG (od+1) (.sl (⟨none,0,.ex 0⟩:Sl))).bind λH57=>(Hp.ldI H57 .i64 kG od).bind λn58=>(Hp.ldSl H57 kG (od+1)).bind λs59=>some ((.agg [(.int .i64 n58),(.sl s59)]),H57)) else ((Hp.ldI H54 .i64 uF HL).bind λn60=>(Hp.ldSl H54 uF (HL+1)).bind λs61=>(cj s61 H54).bind λr62=>((r62.1).asSl).bind λs63=>(if aZ H54 r62.2 then ((Hp.st r62.2 kG od (.int .i64 n60)).bind λH64=>(Hp.st H64 kG (od+1) (.sl s63)).bind λH65=>(Hp.ldI H65 .i64 kG od).bind λn66=>(Hp.ldSl H65 kG (od+1)).bind λs67=>some ((.agg [(.int .i64 n66),(.sl s67)]),H65)) else none)))
def aV.l14 (F:Nat) (cj:atg) :Nat->Nat->Nat->Nat->Nat->Hp->OA
 | 0,_,_,_,_,_=>none
 | HD+1,eT,kH,mT,xq,H36=>(Hp.ldSl H36 eT (kH+1)).bind λs68=>(bif (decide ((s68.n:Int)>0)) then ((Hp.ldSl H36 eT (kH+1)).bind λs69=>(Hp.ldSl H36 eT (kH+1)).bind λs70=>(Sl.idx s69 (wrap .i64 ((s70.n:Int) - 1)) 1).bind λp71=>(Hp.ldI H36 .i64 p71.1 p71.2).bind λn72=>(bif (n72==0) then ((Hp.ldSl H36 eT (kH+1)).bind λs73=>(Hp.ldSl H36 eT (kH+1)).bind λs74=>(Sl.cut s73 1 0 (wrap .i64 ((s74.n:Int) - 1))).bind λs75=>(Hp.st H36 eT (kH+1) (.sl s75)).bind λH76=>aV.l14 F cj HD eT kH mT xq H76) else (aV.j1 F cj eT kH mT xq H36))) else (aV.j1 F cj eT kH mT xq H36))
termination_by structural n=>n
def aV.j2 (cj:atg) (BZ:Nat) (aib:Nat) (lZ:Nat) (aic:Nat) (H28:Hp):OA:=aV.l14 F cj F BZ aib lZ aic H28
def aV.l6 (F:Nat) (cj:atg) :Nat->Nat->Nat->Nat->Nat->Hp->OA
 | 0,_,_,_,_,_=>none
 | aid+1,de,cu,fE,xr,H11=>(Hp.ldSl H11 de (cu+1)).bind λs77=>(bif (decide ((s77.n:Int)>0)) then ((Hp.ldSl H11 de (cu+1)).bind λs78=>(Sl.idx s78 0 1).bind λp79=>(Hp.ldI H11 .i64 p79.1 p79.2).bind λn80=>(bif (n80==0) then ((Hp.ldI H11 .i64 de cu).bind λn81=>(Hp.st H11 de cu (.int .i64 (wrap .i64 (n81+1)))).bind λH82=>(Hp.ldSl H82 de (cu+1)).bind λs83=>(Sl.cut s83 1 1 (s83.n:Int)).bind λs84=>(Hp.st H82 de (cu+1) (.sl s84)).bind λH85=>aV.l6 F cj aid de cu fE xr H85) else (aV.j2 F cj de cu fE xr H11))) else (aV.j2 F cj de cu fE xr H11))
termination_by structural n=>n
def aV.twX (cj:atg) (aa:Int) (af:Sl) (H:Hp):OA:=(Hp.new H [(.int .i64 aa),(.sl af)]).bind λH3=>(Hp.new H3 [.int .i64 0,.sl ⟨none,0,.ex 0⟩]).bind λH4=>aV.l6 F cj F H.length 0 H3.length 0 H4
def aV.tw:=aV.twX F (dy.tw F)
def aV.lh6 (cj:atg) (ks:atj) (n:Nat) (tm:Tm) (H:Hp):OA:=match ks,tm 1,tm 2 with
 | [],(.ptr de cu),(.ptr fE xr)=>aV.l6 F cj n de cu fE xr H
 | _,_,_=>none
def aV.lh14 (cj:atg) (ks:atj) (n:Nat) (tm:Tm) (H:Hp):OA:=match ks,tm 1,tm 2 with
 | [],(.ptr eT kH),(.ptr mT xq)=>aV.l14 F cj n eT kH mT xq H
 | _,_,_=>none
def aV.lh (cj:atg) (p:Nat) (ks:atj) (n:Nat) (tm:Tm) (H:Hp):OA:=bif p.beq 14 then aV.lh14 F cj ks n tm H else (bif p.beq 6 then aV.lh6 F cj ks n tm H else (none))
def aV.pn:Nat->List Nat:=cR [(8,[6])]
def aV.tb:Nat->List (List Nat):=cR [(8,[[],[0],[],[2],[2,3],[0,1,2,3,4],[0,1,2,3,4,5]])]
def aV.cs (F:Nat) (cj:atg):Cs:=[(126,mk3 cj)]
theorem aV.loops (cj:atg):LO (aY (aV.cs F cj)) aV.pn (aV.lh F cj) F Try.f144:=
 (ae.rt (ae.seq (ae.block (ae.la (λn tm H r h=>by change aV.lh6 F cj [] n tm H=_ at h;unfold aV.lh6 at h;split at h;have e:bL tm [(1,_),(2,_)]:=⟨‹_›,‹_›,trivial⟩;obtain _ | k6:=n;cases h;exact ⟨_,rfl,by rw [<- bN e];exact Eq.trans (by kernel_rfl) h⟩;cases h) λk6=>ae.no)) (ae.lt (ae.block (ae.la (λn tm H r h=>by change aV.lh14 F cj [] n tm H=_ at h;unfold aV.lh14 at h;split at h;have e:bL tm [(1,_),(2,_)]:=⟨‹_›,‹_›,trivial⟩;obtain _ | k14:=n;cases h;exact ⟨_,rfl,by rw [<- bN e];exact Eq.trans (by kernel_rfl) h⟩;cases h) λk14=>ae.no)))))
theorem aV.eqX (cj:atg) (aa:Int) (af:Sl) (H:Hp):EX (aY (aV.cs F cj)) aV.pn (aV.lh F cj) F Try.f144 [(.agg [(.int .i64 aa),(.sl af)])] H=aV.twX F cj aa af H:=by kernel_rfl
theorem aV.k:Ok Try.prog 144 (mk10 (aV.tw F)):=by
 intro args H v H' h
 unfold mk10 at h
 split at h
 ·exact okT (TB:=aV.tb) Try.func144 (aM (dy.k F) bB) (aV.loops F (dy.tw F)) ((aV.eqX F (dy.tw F) _ _ H).trans h) (by kernel_rfl)
 ·cases h
def cn.twX (F:Nat) (jv:ath) (aa:Int) (aA:Int) (H:Hp):OA:=(Hp.new H [.int .i64 0,.sl ⟨none,0,.ex 0⟩]).bind λH3=>(Hp.new H3 [(.int .i64 aa)]).bind λH4=>(jv aA (⟨some (H3.length,0),1,.ex 1⟩:Sl) H4).bind λr5=>((r5.1).asAgg 2).bind λl6=>(l6[0]?).bind λv7=>((v7).asI .i64).bind λn8=>(l6[1]?).bind λv9=>((v9).asSl).bind λs10=>(Hp.st r5.2 H.length 0 (.int .i64 n8)).bind λH11=>(Hp.st H11 H.length (0+1) (.sl s10)).bind λH12=>(Hp.ldI H12 .i64 H.length 0).bind λn13=>(Hp.ldSl H12 H.length (0+1)).bind λs14=>some ((.agg [(.int .i64 n13),(.sl s14)]),H12)
def cn.tw:=cn.twX F (aV.tw F)
def mk18 (g:atq) (args:att) (H:Hp):OA:=match args with
 | [(.int .i64 aa),(.int .i64 aA)]=>g aa aA H
 | _=>none
theorem mk18_E (g:atq) (aa:Int) (aA:Int) (H:Hp):mk18 g [(.int .i64 aa),(.int .i64 aA)] H=g aa aA H:=rfl
def cn.cs (F:Nat) (jv:ath):Cs:=[(144,mk10 jv)]
theorem cn.eqX (jv:ath) (aa:Int) (aA:Int) (H:Hp):EX (aY (cn.cs F jv)) aJ lh0 F Try.f127 [(.int .i64 aa),(.int .i64 aA)] H=cn.twX F jv aa aA H:=by kernel_rfl
theorem cn.k:Ok Try.prog 127 (mk18 (cn.tw F)):=by
 intro args H v H' h
 unfold mk18 at h
 split at h
 ·exact okT (TB:=aJ) Try.func127 (aM (aV.k F) bB) ae.no ((cn.eqX F (aV.tw F) _ _ H).trans h) (by kernel_rfl)
 ·cases h
def fV.twX (F:Nat) (aa:Sl) (H:Hp):OA:=some ((.int .i64 (aa.n:Int)),H)
def fV.tw:=fV.twX F
theorem fV.k:Ok Try.prog 140 (mk3 (fV.tw F)):=by
 intro args H v H' h
 unfold mk3 at h
 split at h
 ·exact ok0 Try.func140 (Eq.trans (by kernel_rfl) h) (by kernel_rfl) (by kernel_rfl)
 ·cases h
def cO.twX (F:Nat) (uG:atg) (aa:Int) (af:Sl) (H:Hp):OA:=(Hp.new H [(.int .i64 aa),(.sl af)]).bind λH3=>(Hp.ldI H3 .i64 H.length 0).bind λn4=>(Hp.ldSl H3 H.length 1).bind λs5=>(uG s5 H3).bind λr6=>((r6.1).asI .i64).bind λn7=>(if aZ H3 r6.2 then (some ((.int .i64 (wrap .i64 ((wrap .i64 (n4+n7)) - 1))),r6.2)) else none)
def cO.tw:=cO.twX F (fV.tw F)
def cO.tb:Nat->List (List Nat):=cR [(1,[[],[0],[],[2],[2,3],[0,1,2,3,4],[0,1,2,3,4,5],[0,1,2,3,4,5,6]])]
def cO.cs (F:Nat) (uG:atg):Cs:=[(140,mk3 uG)]
theorem cO.eqX (uG:atg) (aa:Int) (af:Sl) (H:Hp):EX (aY (cO.cs F uG)) aJ lh0 F Try.f117 [(.agg [(.int .i64 aa),(.sl af)])] H=cO.twX F uG aa af H:=by kernel_rfl
theorem cO.k:Ok Try.prog 117 (mk10 (cO.tw F)):=by
 intro args H v H' h
 unfold mk10 at h
 split at h
 ·exact okT (TB:=cO.tb) Try.func117 (aM (fV.k F) bB) ae.no ((cO.eqX F (fV.tw F) _ _ H).trans h) (by kernel_rfl)
 ·cases h
def ev.twX (F:Nat) (fu:atp) (aa:Int) (H:Hp):OA:=(fu aa (-1000000000000) 1000000000000 H).bind λr2=>((r2.1).asB).bind λb3=>some ((.bool (!b3)),r2.2)
def ev.tw:=ev.twX F (dx.tw F)
def ev.cs (F:Nat) (fu:atp):Cs:=[(63,mk5 fu)]
theorem ev.eqX (fu:atp) (aa:Int) (H:Hp):EX (aY (ev.cs F fu)) aJ lh0 F Try.f119 [(.int .i64 aa)] H=ev.twX F fu aa H:=by kernel_rfl
theorem ev.k:Ok Try.prog 119 (mk12 (ev.tw F)):=by
 intro args H v H' h
 unfold mk12 at h
 split at h
 ·exact okT (TB:=aJ) Try.func119 (aM (dx.k F) bB) ae.no ((ev.eqX F (dx.tw F) _ H).trans h) (by kernel_rfl)
 ·cases h
def ch.l13 (F:Nat) (gh:atm) :Nat->Sl->Int->Int->Hp->OA
 | 0,_,_,_,_=>none
 | mG+1,iT,df,cw,H6=>(bif (decide (cw<df)) then ((Sl.idx iT cw 1).bind λp11=>(Hp.ldI H6 .i64 p11.1 p11.2).bind λn12=>(gh n12 H6).bind λr13=>((r13.1).asB).bind λb14=>(bif b14 then (some ((.int .i64 cw),r13.2)) else (ch.l13 F gh mG iT df (wrap .i64 (cw+1)) r13.2))) else (some ((.int .i64 (-1)),H6)))
def ch.twX (gh:atm) (aa:Sl) (H:Hp):OA:=ch.l13 F gh F aa (aa.n:Int) 0 H
def ch.tw:=ch.twX F (ev.tw F)
def ch.lh13 (gh:atm) (ks:atj) (n:Nat) (tm:Tm) (H:Hp):OA:=match ks,tm 0,tm 1,tm 7,tm 8 with
 | [],(.sl iT),(.fn 119 []),(.int .i64 df),(.int .i64 cw)=>ch.l13 F gh n iT df cw H
 | _,_,_,_,_=>none
def ch.lh (gh:atm) (p:Nat) (ks:atj) (n:Nat) (tm:Tm) (H:Hp):OA:=bif p.beq 13 then ch.lh13 F gh ks n tm H else (none)
def mk19 (g:atg) (args:att) (H:Hp):OA:=match args with
 | [(.sl aa),(.fn 119 [])]=>g aa H
 | _=>none
theorem mk19_E (g:atg) (aa:Sl) (H:Hp):mk19 g [(.sl aa),(.fn 119 [])] H=g aa H:=rfl
def ch.cs (F:Nat) (gh:atm):Cs:=[(119,mk12 gh)]
theorem ch.loops (gh:atm):LO (aY (ch.cs F gh)) aJ (ch.lh F gh) F Try.f141:=
 (ae.rt (ae.lt (ae.rt (ae.block (ae.la (λn tm H r h=>by change ch.lh13 F gh [] n tm H=_ at h;unfold ch.lh13 at h;split at h;have e:bL tm [(0,_),(1,_),(7,_),(8,_)]:=⟨‹_›,‹_›,‹_›,‹_›,trivial⟩;obtain _ | k13:=n;cases h;exact ⟨_,rfl,by rw [<- bN e];exact Eq.trans (by kernel_rfl) h⟩;cases h) λk13=>ae.no)))))
theorem ch.eqX (gh:atm) (aa:Sl) (H:Hp):EX (aY (ch.cs F gh)) aJ (ch.lh F gh) F Try.f141 [(.sl aa),(.fn 119 [])] H=ch.twX F gh aa H:=by kernel_rfl
theorem ch.k:Ok Try.prog 141 (mk19 (ch.tw F)):=by
 intro args H v H' h
 unfold mk19 at h
 split at h
 ·exact okT (TB:=aJ) Try.func141 (aM (ev.k F) bB) (ch.loops F (ev.tw F)) ((ch.eqX F (ev.tw F) _ H).trans h) (by kernel_rfl)
 ·cases h
def eN.twX (F:Nat) (uH:atg) (aa:Sl) (H:Hp):OA:=(uH aa H).bind λr2=>((r2.1).asI .i64).bind λn3=>some ((.bool (decide (n3>=0))),r2.2)
def eN.tw:=eN.twX F (ch.tw F)
def eN.cs (F:Nat) (uH:atg):Cs:=[(141,mk19 uH)]
theorem eN.eqX (uH:atg) (aa:Sl) (H:Hp):EX (aY (eN.cs F uH)) aJ lh0 F Try.f118 [(.sl aa),(.fn 119 [])] H=eN.twX F uH aa H:=by kernel_rfl
theorem eN.k:Ok Try.prog 118 (mk19 (eN.tw F)):=by
 intro args H v H' h
 unfold mk19 at h
 split at h
 ·exact okT (TB:=aJ) Try.func118 (aM (ch.k F) bB) ae.no ((eN.eqX F (ch.tw F) _ H).trans h) (by kernel_rfl)
 ·cases h
def cP.twX (F:Nat) (cQ:ath) (uI:atg) (aa:Int) (af:Sl) (H:Hp):OA:=(Hp.new H [(.int .i64 aa),(.sl af)]).bind λH3=>(Hp.ldSl H3 H.length 1).bind λs4=>(bif ((s4.n:Int)==0) then ((Hp.ldI H3 .i64 H.length 0).bind λn5=>some ((.bool (n5==0)),H3)) else ((bif (decide ((s4.n:Int)<=160)) then ((Hp.ldSl H3 H.length 1).bind λs6=>(Sl.idx s6 0 1).bind λp7=>(Hp.ldI H3 .i64 p7.1 p7.2).bind λn8=>(bif (n8 != 0) then ((Hp.ldSl H3 H.length 1).bind λs9=>(Sl.idx s9 (wrap .i64 ((s4.n:Int) - 1)) 1).bind λp10=>(Hp.ldI H3 .i64 p10.1 p10.2).bind λn11=>(bif (n11 != 0) then ((Hp.ldI H3 .i64 H.length 0).bind λn12=>(bif (decide (n12>=(-240))) then ((Hp.ldI H3 .i64 H.length 0).bind λn13=>(Hp.ldSl H3 H.length (0+1)).bind λs14=>(cQ n13 s14 H3).bind λr15=>((r15.1).asI .i64).bind λn16=>(bif (decide (n16<=240)) then ((Hp.ldI r15.2 .i64 H.length 0).bind λn17=>(bif (decide (n17<=240)) then ((Hp.ldSl r15.2 H.length 1).bind λs18=>(uI s18 r15.2).bind λr19=>((r19.1).asB).bind λb20=>some ((.bool (!b20)),r19.2)) else (some ((.bool false),r15.2)))) else (some ((.bool false),r15.2)))) else (some ((.bool false),H3)))) else (some ((.bool false),H3)))) else (some ((.bool false),H3)))) else (some ((.bool false),H3)))))
def cP.tw:=cP.twX F (cO.tw F) (eN.tw F)
def cP.cs (F:Nat) (cQ:ath) (uI:atg):Cs:=[(117,mk10 cQ),(118,mk19 uI)]
theorem cP.eqX (cQ:ath) (uI:atg) (aa:Int) (af:Sl) (H:Hp):EX (aY (cP.cs F cQ uI)) aJ lh0 F Try.f86 [(.agg [(.int .i64 aa),(.sl af)])] H=cP.twX F cQ uI aa af H:=by kernel_rfl
theorem cP.k:Ok Try.prog 86 (mk10 (cP.tw F)):=by
 intro args H v H' h
 unfold mk10 at h
 split at h
 ·exact okT (TB:=aJ) Try.func86 (aM (cO.k F) (aM (eN.k F) bB)) ae.no ((cP.eqX F (cO.tw F) (eN.tw F) _ _ H).trans h) (by kernel_rfl)
 ·cases h
def el.twX (F:Nat) (da:ath) (aa:Int) (af:Sl) (H:Hp):OA:=(Hp.new H [(.int .i64 aa),(.sl af)]).bind λH3=>(Hp.ldI H3 .i64 H.length 0).bind λn4=>(Hp.ldSl H3 H.length (0+1)).bind λs5=>(da n4 s5 H3).bind λr6=>((r6.1).asB).bind λb7=>some ((.bool (!b7)),r6.2)
def el.tw:=el.twX F (cP.tw F)
def el.cs (F:Nat) (da:ath):Cs:=[(86,mk10 da)]
theorem el.eqX (da:ath) (aa:Int) (af:Sl) (H:Hp):EX (aY (el.cs F da)) aJ lh0 F Try.f157 [(.agg [(.int .i64 aa),(.sl af)])] H=el.twX F da aa af H:=by kernel_rfl
theorem el.k:Ok Try.prog 157 (mk10 (el.tw F)):=by
 intro args H v H' h
 unfold mk10 at h
 split at h
 ·exact okT (TB:=aJ) Try.func157 (aM (cP.k F) bB) ae.no ((el.eqX F (cP.tw F) _ _ H).trans h) (by kernel_rfl)
 ·cases h
def b_.l13 (F:Nat) (gj:ath) :Nat->Sl->Int->Int->Hp->OA
 | 0,_,_,_,_=>none
 | mG+1,iT,df,cw,H6=>(bif (decide (cw<df)) then ((Sl.idx iT cw 2).bind λp12=>(Hp.ldI H6 .i64 p12.1 p12.2).bind λn13=>(Hp.ldSl H6 p12.1 (p12.2+1)).bind λs14=>(gj n13 s14 H6).bind λr15=>((r15.1).asB).bind λb16=>(bif b16 then (some ((.int .i64 cw),r15.2)) else (b_.l13 F gj mG iT df (wrap .i64 (cw+1)) r15.2))) else (some ((.int .i64 (-1)),H6)))
def b_.twX (gj:ath) (aa:Sl) (H:Hp):OA:=b_.l13 F gj F aa (aa.n:Int) 0 H
def b_.tw:=b_.twX F (el.tw F)
def b_.lh13 (gj:ath) (ks:atj) (n:Nat) (tm:Tm) (H:Hp):OA:=match ks,tm 0,tm 1,tm 7,tm 8 with
 | [],(.sl iT),(.fn 157 []),(.int .i64 df),(.int .i64 cw)=>b_.l13 F gj n iT df cw H
 | _,_,_,_,_=>none
def b_.lh (gj:ath) (p:Nat) (ks:atj) (n:Nat) (tm:Tm) (H:Hp):OA:=bif p.beq 13 then b_.lh13 F gj ks n tm H else (none)
def mk20 (g:atg) (args:att) (H:Hp):OA:=match args with
 | [(.sl aa),(.fn 157 [])]=>g aa H
 | _=>none
theorem mk20_E (g:atg) (aa:Sl) (H:Hp):mk20 g [(.sl aa),(.fn 157 [])] H=g aa H:=rfl
def b_.cs (F:Nat) (gj:ath):Cs:=[(157,mk10 gj)]
theorem b_.loops (gj:ath):LO (aY (b_.cs F gj)) aJ (b_.lh F gj) F Try.f159:=
 (ae.rt (ae.lt (ae.rt (ae.block (ae.la (λn tm H r h=>by change b_.lh13 F gj [] n tm H=_ at h;unfold b_.lh13 at h;split at h;have e:bL tm [(0,_),(1,_),(7,_),(8,_)]:=⟨‹_›,‹_›,‹_›,‹_›,trivial⟩;obtain _ | k13:=n;cases h;exact ⟨_,rfl,by rw [<- bN e];exact Eq.trans (by kernel_rfl) h⟩;cases h) λk13=>ae.no)))))
theorem b_.eqX (gj:ath) (aa:Sl) (H:Hp):EX (aY (b_.cs F gj)) aJ (b_.lh F gj) F Try.f159 [(.sl aa),(.fn 157 [])] H=b_.twX F gj aa H:=by kernel_rfl
theorem b_.k:Ok Try.prog 159 (mk20 (b_.tw F)):=by
 intro args H v H' h
 unfold mk20 at h
 split at h
 ·exact okT (TB:=aJ) Try.func159 (aM (el.k F) bB) (b_.loops F (el.tw F)) ((b_.eqX F (el.tw F) _ H).trans h) (by kernel_rfl)
 ·cases h
def eO.twX (F:Nat) (uJ:atg) (aa:Sl) (H:Hp):OA:=(uJ aa H).bind λr2=>((r2.1).asI .i64).bind λn3=>some ((.bool (decide (n3>=0))),r2.2)
def eO.tw:=eO.twX F (b_.tw F)
def eO.cs (F:Nat) (uJ:atg):Cs:=[(159,mk20 uJ)]
theorem eO.eqX (uJ:atg) (aa:Sl) (H:Hp):EX (aY (eO.cs F uJ)) aJ lh0 F Try.f156 [(.sl aa),(.fn 157 [])] H=eO.twX F uJ aa H:=by kernel_rfl
theorem eO.k:Ok Try.prog 156 (mk20 (eO.tw F)):=by
 intro args H v H' h
 unfold mk20 at h
 split at h
 ·exact okT (TB:=aJ) Try.func156 (aM (b_.k F) bB) ae.no ((eO.eqX F (b_.tw F) _ H).trans h) (by kernel_rfl)
 ·cases h
def cI.twX (F:Nat) (uK:atg) (aa:Sl) (H:Hp):OA:=(uK aa H).bind λr2=>((r2.1).asB).bind λb3=>some ((.bool (!b3)),r2.2)
def cI.tw:=cI.twX F (eO.tw F)
def cI.cs (F:Nat) (uK:atg):Cs:=[(156,mk20 uK)]
theorem cI.eqX (uK:atg) (aa:Sl) (H:Hp):EX (aY (cI.cs F uK)) aJ lh0 F Try.f150 [(.sl aa)] H=cI.twX F uK aa H:=by kernel_rfl
theorem cI.k:Ok Try.prog 150 (mk3 (cI.tw F)):=by
 intro args H v H' h
 unfold mk3 at h
 split at h
 ·exact okT (TB:=aJ) Try.func150 (aM (eO.k F) bB) ae.no ((cI.eqX F (eO.tw F) _ H).trans h) (by kernel_rfl)
 ·cases h
def cJ.twX (F:Nat) (jv:ath) (da:ath) (aa:Int) (af:Sl) (H:Hp):OA:=(Hp.new H [(.int .i64 aa),(.sl af)]).bind λH3=>(Hp.new H3 [.int .i64 0,.sl ⟨none,0,.ex 0⟩]).bind λH4=>(Hp.ldI H4 .i64 H.length 0).bind λn5=>(Hp.ldSl H4 H.length (0+1)).bind λs6=>(jv n5 s6 H4).bind λr7=>((r7.1).asAgg 2).bind λl8=>(l8[0]?).bind λv9=>((v9).asI .i64).bind λn10=>(l8[1]?).bind λv11=>((v11).asSl).bind λs12=>(Hp.st r7.2 H.length 0 (.int .i64 n10)).bind λH13=>(Hp.st H13 H.length (0+1) (.sl s12)).bind λH14=>(Hp.ldI H14 .i64 H.length 0).bind λn15=>(Hp.ldSl H14 H.length (0+1)).bind λs16=>(da n15 s16 H14).bind λr17=>((r17.1).asB).bind λb18=>(bif (!b18) then ((Hp.st r17.2 H3.length 0 (.int .i64 0)).bind λH19=>(Hp.st H19 H3.length (0+1) (.sl (⟨none,0,.ex 0⟩:Sl))).bind λH20=>(Hp.ldI H20 .i64 H3.length 0).bind λn21=>(Hp.ldSl H20 H3.length (0+1)).bind λs22=>some ((.tup [(.agg [(.int .i64 n21),(.sl s22)]),(.int .i64 3)]),H20)) else ((Hp.ldI r17.2 .i64 H.length 0).bind λn23=>(Hp.ldSl r17.2 H.length (0+1)).bind λs24=>(Hp.st r17.2 H3.length 0 (.int .i64 n23)).bind λH25=>(Hp.st H25 H3.length (0+1) (.sl s24)).bind λH26=>(Hp.ldI H26 .i64 H3.length 0).bind λn27=>(Hp.ldSl H26 H3.length (0+1)).bind λs28=>some ((.tup [(.agg [(.int .i64 n27),(.sl s28)]),(.int .i64 0)]),H26)))
def cJ.tw:=cJ.twX F (aV.tw F) (cP.tw F)
def cJ.cs (F:Nat) (jv:ath) (da:ath):Cs:=[(144,mk10 jv),(86,mk10 da)]
theorem cJ.eqX (jv:ath) (da:ath) (aa:Int) (af:Sl) (H:Hp):EX (aY (cJ.cs F jv da)) aJ lh0 F Try.f153 [(.agg [(.int .i64 aa),(.sl af)])] H=cJ.twX F jv da aa af H:=by kernel_rfl
theorem cJ.k:Ok Try.prog 153 (mk10 (cJ.tw F)):=by
 intro args H v H' h
 unfold mk10 at h
 split at h
 ·exact okT (TB:=aJ) Try.func153 (aM (aV.k F) (aM (cP.k F) bB)) ae.no ((cJ.eqX F (aV.tw F) (cP.tw F) _ _ H).trans h) (by kernel_rfl)
 ·cases h
def aN.j3 (F:Nat) (bH:atg) (cQ:ath) (bI:ath) (pP:Nat) (B_:Nat) (xt:Nat) (Vs:Nat) (H176:Hp):OA:=(Hp.ldI H176 .i64 xt Vs).bind λn177=>(Hp.ldSl H176 xt (Vs+1)).bind λs178=>(bI n177 s178 H176).bind λr179=>((r179.1).asTup 2).bind λl180=>(l180[0]?).bind λv181=>((v181).asAgg 2).bind λl182=>(l182[0]?).bind λv183=>((v183).asI .i64).bind λn184=>(l182[1]?).bind λv185=>((v185).asSl).bind λs186=>(l180[1]?).bind λv187=>((v187).asI .i64).bind λn188=>(Hp.st r179.2 pP B_ (.int .i64 n184)).bind λH189=>(Hp.st H189 pP (B_+1) (.sl s186)).bind λH190=>(Hp.ldI H190 .i64 pP B_).bind λn191=>(Hp.ldSl H190 pP (B_+1)).bind λs192=>some ((.tup [(.agg [(.int .i64 n191),(.sl s192)]),(.int .i64 n188)]),H190)
def aN.j4 (F:Nat) (bH:atg) (cQ:ath) (bI:ath) (C125_:atW) (Ca:Nat) (HM:Nat) (l_:Int) (Cb:Nat) (aie:Nat) (aif:Sl) (uL:Int) (uM:Int) (H284:Hp):OA:=C125_ Ca HM l_ Cb aie aif uL (wrap .i64 (uM+1)) H284
def aN.j5 (bH:atg) (cQ:ath) (bI:ath) (C125_:atW) (Cc:Nat) (aig:Nat) (uN:Int) (Cd:Nat) (aih:Nat) (aii:Sl) (uO:Int) (uP:Int) (H258:Hp):OA:=aN.j4 F bH cQ bI C125_ Cc aig uN Cd aih aii uO uP H258
def aN.l8027 (F:Nat) (bH:atg) (cQ:ath) (bI:ath) (C125_:atW):Nat->Nat->Nat->Int->Nat->Nat->Sl->Int->Int->Nat->Nat->Sl->Int->Int->Hp->OA
 | 0,_,_,_,_,_,_,_,_,_,_,_,_,_,_=>none
 | HN+1,oe,Ce,ip,mU,xu,Cf,kI,kJ,og,Cg,Ch,kK,gH,H224=>(bif (decide (gH<kK)) then ((Sl.idx Ch gH 1).bind λp285=>(Hp.ldI H224 .i64 p285.1 p285.2).bind λn286=>(Hp.ldSl H224 mU (xu+1)).bind λs287=>(Hp.ldI H224 .i64 og Cg).bind λn288=>(Sl.idx s287 (wrap .i64 ((wrap .i64 (n288 - ip))+gH)) 1).bind λp289=>(Hp.ldI H224 .i64 p289.1 p289.2).bind λn290=>(Sl.idx s287 (wrap .i64 ((wrap .i64 (n288 - ip))+gH)) 1).bind λp291=>(Hp.st H224 p291.1 p291.2 (.int .i64 (wrap .i64 (n290+n286)))).bind λH292=>aN.l8027 F bH cQ bI C125_ HN oe Ce ip mU xu Cf kI kJ og Cg Ch kK (wrap .i64 (gH+1)) H292) else (aN.j5 F bH cQ bI C125_ oe Ce ip mU xu Cf kI kJ H224))
termination_by structural n=>n
def aN.l125 (F:Nat) (bH:atg) (cQ:ath) (bI:ath) :Nat->Nat->Nat->Int->Nat->Nat->Sl->Int->Int->Hp->OA
 | 0,_,_,_,_,_,_,_,_,_=>none
 | fM+1,oh,Ci,mV,ol,Cj,Ck,kL,jw,H56=>(bif (decide (jw<kL)) then ((Sl.idx Ck jw 2).bind λp193=>(Hp.ldI H56 .i64 p193.1 p193.2).bind λn194=>(Hp.ldSl H56 p193.1 (p193.2+1)).bind λs195=>(Hp.new H56 [.int .i64 0,.sl ⟨none,0,.ex 0⟩]).bind λH196=>(Hp.st H196 H56.length 0 (.int .i64 n194)).bind λH197=>(Hp.st H197 H56.length (0+1) (.sl s195)).bind λH198=>(Hp.ldSl H198 H56.length 1).bind λs199=>aN.l8027 F bH cQ bI (aN.l125 F bH cQ bI fM) F oh Ci mV ol Cj Ck kL jw H56.length 0 s199 (s199.n:Int) 0 H198) else (aN.j3 F bH cQ bI oh Ci ol Cj H56))
termination_by structural n=>n
def aN.twX (bH:atg) (cQ:ath) (bI:ath) (aa:Int) (af:Sl) (au:Int) (bv:Sl) (H:Hp):OA:=(Hp.new H [(.int .i64 aa),(.sl af)]).bind λH5=>(Hp.new H5 [(.int .i64 au),(.sl bv)]).bind λH6=>(Hp.new H6 [.int .i64 0,.sl ⟨none,0,.ex 0⟩]).bind λH7=>(Hp.ldI H7 .i64 H.length 0).bind λn8=>(Hp.ldSl H7 H.length (0+1)).bind λs9=>(Hp.ldI H7 .i64 H5.length 0).bind λn10=>(Hp.ldSl H7 H5.length (0+1)).bind λs11=>(Hp.new H7 [(.int .i64 n8),(.sl s9),(.int .i64 n10),(.sl s11)]).bind λH12=>(bH (⟨some (H7.length,0),2,.ex 2⟩:Sl) H12).bind λr13=>((r13.1).asB).bind λb14=>(bif (!b14) then ((Hp.st r13.2 H6.length 0 (.int .i64 0)).bind λH15=>(Hp.st H15 H6.length (0+1) (.sl (⟨none,0,.ex 0⟩:Sl))).bind λH16=>(Hp.ldI H16 .i64 H6.length 0).bind λn17=>(Hp.ldSl H16 H6.length (0+1)).bind λs18=>some ((.tup [(.agg [(.int .i64 n17),(.sl s18)]),(.int .i64 1)]),H16)) else ((Hp.ldI r13.2 .i64 H.length 0).bind λn19=>(Hp.ldI r13.2 .i64 H5.length 0).bind λn20=>(Hp.ldI r13.2 .i64 H.length 0).bind λn21=>(Hp.ldSl r13.2 H.length (0+1)).bind λs22=>(cQ n21 s22 r13.2).bind λr23=>((r23.1).asI .i64).bind λn24=>(if aZ r13.2 r23.2 then ((Hp.ldI r23.2 .i64 H5.length 0).bind λn25=>(Hp.ldSl r23.2 H5.length (0+1)).bind λs26=>(cQ n25 s26 r23.2).bind λr27=>((r27.1).asI .i64).bind λn28=>(if aZ r23.2 r27.2 then ((Hp.mk r27.2 [.int .i64 0] 8 (wrap .i64 ((wrap .i64 ((if (if n20<n19 then n20 else n19)>(if n28>n24 then n28 else n24) then (if n20<n19 then n20 else n19) else (if n28>n24 then n28 else n24)) - (if n20<n19 then n20 else n19)))+1)) (wrap .i64 ((wrap .i64 ((if (if n20<n19 then n20 else n19)>(if n28>n24 then n28 else n24) then (if n20<n19 then n20 else n19) else (if n28>n24 then n28 else n24)) - (if n20<n19 then n20 else n19)))+1))).bind λm29=>(Hp.new m29.2 [.int .i64 0,.sl ⟨none,0,.ex 0⟩]).bind λH30=>(Hp.st H30 m29.2.length 0 (.int .i64 (if n20<n19 then n20 else n19))).bind λH31=>(Hp.st H31 m29.2.length (0+1) (.sl m29.1)).bind λH32=>(Hp.ldI H32 .i64 H.length 0).bind λn33=>(Hp.ldSl H32 H.length (0+1)).bind λs34=>(Hp.ldI H32 .i64 H5.length 0).bind λn35=>(Hp.ldSl H32 H5.length (0+1)).bind λs36=>(Hp.new H32 [(.int .i64 n33),(.sl s34),(.int .i64 n35),(.sl s36)]).bind λH37=>aN.l125 F bH cQ bI F H6.length 0 (if n20<n19 then n20 else n19) m29.2.length 0 (⟨some (H32.length,0),2,.ex 2⟩:Sl) ((⟨some (H32.length,0),2,.ex 2⟩:Sl).n:Int) 0 H37) else none)) else none)))
def aN.tw:=aN.twX F (cI.tw F) (cO.tw F) (cJ.tw F)
def aN.lh125 (bH:atg) (cQ:ath) (bI:ath) (ks:atj) (n:Nat) (tm:Tm) (H:Hp):OA:=match ks,tm 4,tm 6,tm 7,tm 37,tm 38,tm 39 with
 | [],(.ptr oh Ci),(.int .i64 mV),(.ptr ol Cj),(.sl Ck),(.int .i64 kL),(.int .i64 jw)=>aN.l125 F bH cQ bI n oh Ci mV ol Cj Ck kL jw H
 | _,_,_,_,_,_,_=>none
def aN.lh8027 (bH:atg) (cQ:ath) (bI:ath) (ks:atj) (n:Nat) (tm:Tm) (H:Hp):OA:=match ks,tm 4,tm 6,tm 7,tm 9,tm 37,tm 38,tm 39,tm 44,tm 45,tm 46 with
 | [fM],(.ptr oe Ce),(.int .i64 ip),(.ptr mU xu),(.ptr og Cg),(.sl Cf),(.int .i64 kI),(.int .i64 kJ),(.sl Ch),(.int .i64 kK),(.int .i64 gH)=>aN.l8027 F bH cQ bI (aN.l125 F bH cQ bI fM) n oe Ce ip mU xu Cf kI kJ og Cg Ch kK gH H
 | _,_,_,_,_,_,_,_,_,_,_=>none
def aN.lh (bH:atg) (cQ:ath) (bI:ath) (p:Nat) (ks:atj) (n:Nat) (tm:Tm) (H:Hp):OA:=bif p.beq 8027 then aN.lh8027 F bH cQ bI ks n tm H else (bif p.beq 125 then aN.lh125 F bH cQ bI ks n tm H else (none))
def aN.pn:Nat->List Nat:=cR [(4,[13])]
def aN.tb:Nat->List (List Nat):=cR [(4,[[],[],[1],[],[1,2,3],[],[1,2,3,4,5],[],[1,2,3,4,5,6,7],[1,2,3,4,5,6,7,8],[1,2,3,4,5,6,7,8,9],[0,1,2,3,4,5,6,7,8,9,10],[],[0,1,2,3,4,5,6,7,8,9,10,11,12]])]
def aN.cs (F:Nat) (bH:atg) (cQ:ath) (bI:ath):Cs:=[(150,mk3 bH),(117,mk10 cQ),(153,mk10 bI)]
theorem aN.loops (bH:atg) (cQ:ath) (bI:ath):LO (aY (aN.cs F bH cQ bI)) aN.pn (aN.lh F bH cQ bI) F Try.f146:=
 (ae.rt (ae.rt (ae.rt (ae.rt (ae.lt (ae.rt (ae.block (ae.la (λn tm H r h=>by change aN.lh125 F bH cQ bI [] n tm H=_ at h;unfold aN.lh125 at h;split at h;have e:bL tm [(4,_),(6,_),(7,_),(37,_),(38,_),(39,_)]:=⟨‹_›,‹_›,‹_›,‹_›,‹_›,‹_›,trivial⟩;obtain _ | k125:=n;cases h;exact ⟨_,rfl,by rw [<- bN e];exact Eq.trans (by kernel_rfl) h⟩;cases h) λk125=>(ae.rt (ae.rt (ae.lt (ae.block (ae.rt (ae.rt (ae.block (ae.la (λn tm H r h=>by change aN.lh8027 F bH cQ bI [k125] n tm H=_ at h;unfold aN.lh8027 at h;split at h;have e:bL tm [(4,_),(6,_),(7,_),(9,_),(37,_),(38,_),(39,_),(44,_),(45,_),(46,_)]:=⟨‹_›,‹_›,‹_›,‹_›,‹_›,‹_›,‹_›,‹_›,‹_›,‹_›,trivial⟩;cases (show [k125]=_ from ‹_›);obtain _ | k8027:=n;cases h;exact ⟨_,rfl,by rw [<- bN e];exact Eq.trans (by kernel_rfl) h⟩;cases h) λk8027=>ae.no))))))))))))))))
theorem aN.eqX (bH:atg) (cQ:ath) (bI:ath) (aa:Int) (af:Sl) (au:Int) (bv:Sl) (H:Hp):EX (aY (aN.cs F bH cQ bI)) aN.pn (aN.lh F bH cQ bI) F Try.f146 [(.agg [(.int .i64 aa),(.sl af)]),(.agg [(.int .i64 au),(.sl bv)])] H=aN.twX F bH cQ bI aa af au bv H:=by kernel_rfl
theorem aN.k:Ok Try.prog 146 (mk9 (aN.tw F)):=by
 intro args H v H' h
 unfold mk9 at h
 split at h
 ·exact okT (TB:=aN.tb) Try.func146 (aM (cI.k F) (aM (cO.k F) (aM (cJ.k F) bB))) (aN.loops F (cI.tw F) (cO.tw F) (cJ.tw F)) ((aN.eqX F (cI.tw F) (cO.tw F) (cJ.tw F) _ _ _ _ H).trans h) (by kernel_rfl)
 ·cases h
def cq.twX (F:Nat) (uQ:atk) (aa:Int) (af:Sl) (au:Int) (bv:Sl) (H:Hp):OA:=(Hp.new H [(.int .i64 aa),(.sl af)]).bind λH5=>(Hp.new H5 [(.int .i64 au),(.sl bv)]).bind λH6=>(Hp.new H6 [.int .i64 0,.sl ⟨none,0,.ex 0⟩]).bind λH7=>(Hp.ldI H7 .i64 H.length 0).bind λn8=>(Hp.ldSl H7 H.length (0+1)).bind λs9=>(Hp.ldI H7 .i64 H5.length 0).bind λn10=>(Hp.ldSl H7 H5.length (0+1)).bind λs11=>(uQ n8 s9 n10 s11 H7).bind λr12=>((r12.1).asTup 2).bind λl13=>(l13[0]?).bind λv14=>((v14).asAgg 2).bind λl15=>(l15[0]?).bind λv16=>((v16).asI .i64).bind λn17=>(l15[1]?).bind λv18=>((v18).asSl).bind λs19=>(l13[1]?).bind λv20=>((v20).asI .i64).bind λn21=>(Hp.new r12.2 [.int .i64 0,.sl ⟨none,0,.ex 0⟩]).bind λH22=>(Hp.st H22 r12.2.length 0 (.int .i64 n17)).bind λH23=>(Hp.st H23 r12.2.length (0+1) (.sl s19)).bind λH24=>(Hp.ldI H24 .i64 r12.2.length 0).bind λn25=>(Hp.ldSl H24 r12.2.length (0+1)).bind λs26=>(Hp.st H24 H6.length 0 (.int .i64 n25)).bind λH27=>(Hp.st H27 H6.length (0+1) (.sl s26)).bind λH28=>(Hp.ldI H28 .i64 H6.length 0).bind λn29=>(Hp.ldSl H28 H6.length (0+1)).bind λs30=>some ((.agg [(.int .i64 n29),(.sl s30)]),H28)
def cq.tw:=cq.twX F (aN.tw F)
def cq.cs (F:Nat) (uQ:atk):Cs:=[(146,mk9 uQ)]
theorem cq.eqX (uQ:atk) (aa:Int) (af:Sl) (au:Int) (bv:Sl) (H:Hp):EX (aY (cq.cs F uQ)) aJ lh0 F Try.f129 [(.agg [(.int .i64 aa),(.sl af)]),(.agg [(.int .i64 au),(.sl bv)])] H=cq.twX F uQ aa af au bv H:=by kernel_rfl
theorem cq.k:Ok Try.prog 129 (mk9 (cq.tw F)):=by
 intro args H v H' h
 unfold mk9 at h
 split at h
 ·exact okT (TB:=aJ) Try.func129 (aM (aN.k F) bB) ae.no ((cq.eqX F (aN.tw F) _ _ _ _ H).trans h) (by kernel_rfl)
 ·cases h
def eo.twX (F:Nat) (aa:Int) (H:Hp):OA:=(bif (decide (aa<0)) then (some ((.int .i64 (-1)),H)) else (some ((.int .i64 1),H)))
def eo.tw:=eo.twX F
theorem eo.k:Ok Try.prog 143 (mk12 (eo.tw F)):=by
 intro args H v H' h
 unfold mk12 at h
 split at h
 ·exact ok0 Try.func143 (Eq.trans (by kernel_rfl) h) (by kernel_rfl) (by kernel_rfl)
 ·cases h
def aU.j4 (F:Nat) (bo:atq) (bq:atk) (dY:atm) (C61_:atX) (uR:Int) (Cl:Nat) (aij:Nat) (Cm:Nat) (aik:Nat) (uS:Int) (uT:Int) (ail:Sl) (uU:Int) (uV:Int) (H139:Hp):OA:=(dY uT H139).bind λr140=>((r140.1).asI .i64).bind λn141=>C61_ uR Cl aij Cm aik (wrap .i64 (uS+n141)) ail uU (wrap .i64 (uV+1)) r140.2
def aU.j5 (F:Nat) (bo:atq) (bq:atk) (dY:atm) (C61_:atX) (uW:Int) (Cn:Nat) (aim:Nat) (Co:Nat) (ain:Nat) (uX:Int) (uY:Int) (aio:Sl) (uZ:Int) (u_:Int) (H189:Hp):OA:=(dY uY H189).bind λr190=>((r190.1).asI .i64).bind λn191=>C61_ uW Cn aim Co ain (wrap .i64 (uX+n191)) aio uZ (wrap .i64 (u_+1)) r190.2
def aU.j6 (bo:atq) (bq:atk) (dY:atm) (C61_:atX) (vd:Int) (Cp:Nat) (aip:Nat) (Cq:Nat) (aiq:Nat) (ve:Int) (vf:Int) (air:Sl) (vg:Int) (vh:Int) (H173:Hp):OA:=aU.j5 F bo bq dY C61_ vd Cp aip Cq aiq ve vf air vg vh H173
def aU.l61 (F:Nat) (bo:atq) (bq:atk) (dY:atm) :Nat->Int->Nat->Nat->Nat->Nat->Int->Sl->Int->Int->Hp->OA
 | 0,_,_,_,_,_,_,_,_,_,_=>none
 | bF+1,gI,fL,mW,fW,iq,dB,vi,ir,gJ,H15=>(bif (decide (gJ<ir)) then ((Sl.idx vi gJ 1).bind λp107=>(Hp.ldI H15 .i64 p107.1 p107.2).bind λn108=>(bif (n108==gI) then ((Hp.ldI H15 .i64 fW iq).bind λn109=>(Hp.ldSl H15 fW (iq+1)).bind λs110=>(bo 1 dB H15).bind λr111=>((r111.1).asAgg 2).bind λl112=>(l112[0]?).bind λv113=>((v113).asI .i64).bind λn114=>(l112[1]?).bind λv115=>((v115).asSl).bind λs116=>(if aZ H15 r111.2 then ((bq n109 s110 n114 s116 r111.2).bind λr117=>((r117.1).asAgg 2).bind λl118=>(l118[0]?).bind λv119=>((v119).asI .i64).bind λn120=>(l118[1]?).bind λv121=>((v121).asSl).bind λs122=>(Hp.st r117.2 fW iq (.int .i64 n120)).bind λH123=>(Hp.st H123 fW (iq+1) (.sl s122)).bind λH124=>aU.j4 F bo bq dY (aU.l61 F bo bq dY bF) gI fL mW fW iq dB n108 vi ir gJ H124) else none)) else ((bif (n108==(wrap .i64 (0 - gI))) then ((Hp.ldI H15 .i64 fW iq).bind λn142=>(Hp.ldSl H15 fW (iq+1)).bind λs143=>(bo (-1) (wrap .i64 (dB - 1)) H15).bind λr144=>((r144.1).asAgg 2).bind λl145=>(l145[0]?).bind λv146=>((v146).asI .i64).bind λn147=>(l145[1]?).bind λv148=>((v148).asSl).bind λs149=>(if aZ H15 r144.2 then ((bq n142 s143 n147 s149 r144.2).bind λr150=>((r150.1).asAgg 2).bind λl151=>(l151[0]?).bind λv152=>((v152).asI .i64).bind λn153=>(l151[1]?).bind λv154=>((v154).asSl).bind λs155=>(Hp.st r150.2 fW iq (.int .i64 n153)).bind λH156=>(Hp.st H156 fW (iq+1) (.sl s155)).bind λH157=>aU.j6 F bo bq dY (aU.l61 F bo bq dY bF) gI fL mW fW iq dB n108 vi ir gJ H157) else none)) else (aU.j6 F bo bq dY (aU.l61 F bo bq dY bF) gI fL mW fW iq dB n108 vi ir gJ H15))))) else ((Hp.ldI H15 .i64 fW iq).bind λn192=>(Hp.ldSl H15 fW (iq+1)).bind λs193=>(Hp.st H15 fL mW (.int .i64 n192)).bind λH194=>(Hp.st H194 fL (mW+1) (.sl s193)).bind λH195=>(Hp.ldI H195 .i64 fL mW).bind λn196=>(Hp.ldSl H195 fL (mW+1)).bind λs197=>some ((.agg [(.int .i64 n196),(.sl s197)]),H195)))
termination_by structural n=>n
def aU.twX (bo:atq) (bq:atk) (dY:atm) (aa:Sl) (aA:Int) (H:Hp):OA:=(Hp.new H [.int .i64 0,.sl ⟨none,0,.ex 0⟩]).bind λH3=>(Hp.new H3 [.int .i64 0,.sl ⟨none,0,.ex 0⟩]).bind λH4=>aU.l61 F bo bq dY F aA H.length 0 H3.length 0 0 aa (aa.n:Int) 0 H4
def aU.tw:=aU.twX F (cn.tw F) (cq.tw F) (eo.tw F)
def aU.lh61 (bo:atq) (bq:atk) (dY:atm) (ks:atj) (n:Nat) (tm:Tm) (H:Hp):OA:=match ks,tm 1,tm 4,tm 5,tm 6,tm 9,tm 10,tm 11 with
 | [],(.int .i64 gI),(.ptr fL mW),(.ptr fW iq),(.int .i64 dB),(.sl vi),(.int .i64 ir),(.int .i64 gJ)=>aU.l61 F bo bq dY n gI fL mW fW iq dB vi ir gJ H
 | _,_,_,_,_,_,_,_=>none
def aU.lh (bo:atq) (bq:atk) (dY:atm) (p:Nat) (ks:atj) (n:Nat) (tm:Tm) (H:Hp):OA:=bif p.beq 61 then aU.lh61 F bo bq dY ks n tm H else (none)
def aU.pn:Nat->List Nat:=cR [(8,[3,4]),(10,[4,5])]
def aU.tb:Nat->List (List Nat):=cR [(8,[[],[],[1],[0,1,2],[0,1,2,3]]),(10,[[],[],[1],[1,2],[0,1,2,3],[0,1,2,3,4]])]
def aU.cs (F:Nat) (bo:atq) (bq:atk) (dY:atm):Cs:=[(127,mk18 bo),(129,mk9 bq),(143,mk12 dY)]
theorem aU.loops (bo:atq) (bq:atk) (dY:atm):LO (aY (aU.cs F bo bq dY)) aU.pn (aU.lh F bo bq dY) F Try.f125:=
 (ae.rt (ae.rt (ae.rt (ae.lt (ae.rt (ae.block (ae.la (λn tm H r h=>by change aU.lh61 F bo bq dY [] n tm H=_ at h;unfold aU.lh61 at h;split at h;have e:bL tm [(1,_),(4,_),(5,_),(6,_),(9,_),(10,_),(11,_)]:=⟨‹_›,‹_›,‹_›,‹_›,‹_›,‹_›,‹_›,trivial⟩;obtain _ | k61:=n;cases h;exact ⟨_,rfl,by rw [<- bN e];exact Eq.trans (by kernel_rfl) h⟩;cases h) λk61=>ae.no)))))))
theorem aU.eqX (bo:atq) (bq:atk) (dY:atm) (aa:Sl) (aA:Int) (H:Hp):EX (aY (aU.cs F bo bq dY)) aU.pn (aU.lh F bo bq dY) F Try.f125 [(.sl aa),(.int .i64 aA)] H=aU.twX F bo bq dY aa aA H:=by kernel_rfl
theorem aU.k:Ok Try.prog 125 (mk0 (aU.tw F)):=by
 intro args H v H' h
 unfold mk0 at h
 split at h
 ·exact okT (TB:=aU.tb) Try.func125 (aM (cn.k F) (aM (cq.k F) (aM (eo.k F) bB))) (aU.loops F (cn.tw F) (cq.tw F) (eo.tw F)) ((aU.eqX F (cn.tw F) (cq.tw F) (eo.tw F) _ _ H).trans h) (by kernel_rfl)
 ·cases h
def aX.j3 (F:Nat) (bz:ate) (dK:ate) (dL:ate) (C61_:atY) (vj:Int) (ais:Sl) (ait:Sl) (vk:Int) (vl:Int) (H163:Hp):OA:=C61_ vj ais ait vk (wrap .i64 (vl+1)) H163
def aX.j4 (bz:ate) (dK:ate) (dL:ate) (C61_:atY) (vm:Int) (aiu:Sl) (aiv:Sl) (aiw:Sl) (vn:Int) (vo:Int) (H143:Hp):OA:=(Hp.new H143 [(.sl aiv)]).bind λH144=>(Sl.row H144 (⟨some (H143.length,0),1,.ex 1⟩:Sl) 1).bind λxs146=>(Hp.app H144 1 24 aiu (⟨some (H143.length,0),1,.ex 1⟩:Sl).n xs146).bind λa145=>aX.j3 F bz dK dL C61_ vm a145.1 aiw vn vo a145.2
def aX.l15725 (F:Nat) (bz:ate) (dK:ate) (dL:ate) (C61_:atY):Nat->Int->Sl->Sl->Int->Int->Sl->Sl->Int->Int->Hp->OA
 | 0,_,_,_,_,_,_,_,_,_,_=>none
 | HJ+1,kM,Ct,Cu,kN,kO,Cv,Cw,kP,jx,H117=>(bif (decide (jx<kP)) then ((dL Cv (wrap .i64 (jx+1)) H117).bind λr164=>((r164.1).asAgg 2).bind λl165=>(l165[0]?).bind λv166=>((v166).asI .i64).bind λn167=>(l165[1]?).bind λv168=>((v168).asSl).bind λs169=>(Hp.new r164.2 [(.int .i64 n167),(.sl s169)]).bind λH170=>(Sl.row H170 (⟨some (r164.2.length,0),1,.ex 1⟩:Sl) 2).bind λxs172=>(Hp.app H170 2 32 Cw (⟨some (r164.2.length,0),1,.ex 1⟩:Sl).n xs172).bind λa171=>aX.l15725 F bz dK dL C61_ HJ kM Ct Cu kN kO Cv a171.1 kP (wrap .i64 (jx+1)) a171.2) else (aX.j4 F bz dK dL C61_ kM Ct Cw Cu kN kO H117))
def aX.l61 (F:Nat) (bz:ate) (dK:ate) (dL:ate) :Nat->Int->Sl->Sl->Int->Int->Hp->OA
 | 0,_,_,_,_,_,_=>none
 | bF+1,kQ,lY,Cx,kR,jy,H26=>(bif (decide (jy<kR)) then ((Sl.idx Cx jy 1).bind λp100=>(Hp.ldSl H26 p100.1 p100.2).bind λs101=>aX.l15725 F bz dK dL (aX.l61 F bz dK dL bF) F kQ lY Cx kR jy s101 (⟨none,0,.ex 0⟩:Sl) kQ 0 H26) else (some ((.sl lY),H26)))
def aX.twX (bz:ate) (dK:ate) (dL:ate) (aa:Sl) (af:Int) (H:Hp):OA:=(Hp.new H [(.sl aa),(.int .i64 af)]).bind λH3=>(Hp.ldSl H3 H.length 0).bind λs4=>(Hp.ldI H3 .i64 H.length (0+1)).bind λn5=>(bz s4 n5 H3).bind λr6=>((r6.1).asTup 2).bind λl7=>(l7[0]?).bind λv8=>((v8).asSl).bind λs9=>(l7[1]?).bind λv10=>((v10).asI .i64).bind λn11=>(Hp.ldSl r6.2 H.length 0).bind λs12=>(Hp.ldI r6.2 .i64 H.length (0+1)).bind λn13=>(dK s12 n13 r6.2).bind λr14=>((r14.1).asSl).bind λs15=>aX.l61 F bz dK dL F n11 (⟨none,0,.ex 0⟩:Sl) s15 (s15.n:Int) 0 r14.2
def aX.tw:=aX.twX F (bg.tw F) (bP.tw F) (aU.tw F)
def aX.lh61 (bz:ate) (dK:ate) (dL:ate) (ks:atj) (n:Nat) (tm:Tm) (H:Hp):OA:=match ks,tm 4,tm 5,tm 16,tm 17,tm 18 with
 | [],(.int .i64 kQ),(.sl lY),(.sl Cx),(.int .i64 kR),(.int .i64 jy)=>aX.l61 F bz dK dL n kQ lY Cx kR jy H
 | _,_,_,_,_,_=>none
def aX.lh15725 (bz:ate) (dK:ate) (dL:ate) (ks:atj) (n:Nat) (tm:Tm) (H:Hp):OA:=match ks,tm 4,tm 5,tm 7,tm 8,tm 16,tm 17,tm 18,tm 22,tm 23 with
 | [bF],(.int .i64 kM),(.sl Ct),(.sl Cv),(.sl Cw),(.sl Cu),(.int .i64 kN),(.int .i64 kO),(.int .i64 kP),(.int .i64 jx)=>aX.l15725 F bz dK dL (aX.l61 F bz dK dL bF) n kM Ct Cu kN kO Cv Cw kP jx H
 | _,_,_,_,_,_,_,_,_,_=>none
def aX.lh (bz:ate) (dK:ate) (dL:ate) (p:Nat) (ks:atj) (n:Nat) (tm:Tm) (H:Hp):OA:=bif p.beq 15725 then aX.lh15725 F bz dK dL ks n tm H else (bif p.beq 61 then aX.lh61 F bz dK dL ks n tm H else (none))
def aX.cs (F:Nat) (bz:ate) (dK:ate) (dL:ate):Cs:=[(91,mk4 bz),(124,mk4 dK),(125,mk0 dL)]
theorem aX.loops (bz:ate) (dK:ate) (dL:ate):LO (aY (aX.cs F bz dK dL)) aJ (aX.lh F bz dK dL) F Try.f90:=
 (ae.rt (ae.rt (ae.rt (ae.lt (ae.rt (ae.block (ae.la (λn tm H r h=>by change aX.lh61 F bz dK dL [] n tm H=_ at h;unfold aX.lh61 at h;split at h;have e:bL tm [(4,_),(5,_),(16,_),(17,_),(18,_)]:=⟨‹_›,‹_›,‹_›,‹_›,‹_›,trivial⟩;obtain _ | k61:=n;cases h;exact ⟨_,rfl,by rw [<- bN e];exact Eq.trans (by kernel_rfl) h⟩;cases h) λk61=>(ae.rt (ae.rt (ae.lt (ae.block (ae.rt (ae.rt (ae.lt (ae.rt (ae.block (ae.la (λn tm H r h=>by change aX.lh15725 F bz dK dL [k61] n tm H=_ at h;unfold aX.lh15725 at h;split at h;have e:bL tm [(4,_),(5,_),(7,_),(8,_),(16,_),(17,_),(18,_),(22,_),(23,_)]:=⟨‹_›,‹_›,‹_›,‹_›,‹_›,‹_›,‹_›,‹_›,‹_›,trivial⟩;cases (show [k61]=_ from ‹_›);obtain _ | k15725:=n;cases h;exact ⟨_,rfl,by rw [<- bN e];exact Eq.trans (by kernel_rfl) h⟩;cases h) λk15725=>ae.no)))))))))))))))))
theorem aX.eqX (bz:ate) (dK:ate) (dL:ate) (aa:Sl) (af:Int) (H:Hp):EX (aY (aX.cs F bz dK dL)) aJ (aX.lh F bz dK dL) F Try.f90 [(.agg [(.sl aa),(.int .i64 af)])] H=aX.twX F bz dK dL aa af H:=by kernel_rfl
theorem aX.k:Ok Try.prog 90 (mk4 (aX.tw F)):=by
 intro args H v H' h
 unfold mk4 at h
 split at h
 ·exact okT (TB:=aJ) Try.func90 (aM (bg.k F) (aM (bP.k F) (aM (aU.k F) bB))) (aX.loops F (bg.tw F) (bP.tw F) (aU.tw F)) ((aX.eqX F (bg.tw F) (bP.tw F) (aU.tw F) _ _ H).trans h) (by kernel_rfl)
 ·cases h
def er.twX (F:Nat) (aa:Sl) (H:Hp):OA:=some ((.int .i64 (aa.n:Int)),H)
def er.tw:=er.twX F
theorem er.k:Ok Try.prog 92 (mk3 (er.tw F)):=by
 intro args H v H' h
 unfold mk3 at h
 split at h
 ·exact ok0 Try.func92 (Eq.trans (by kernel_rfl) h) (by kernel_rfl) (by kernel_rfl)
 ·cases h
def dg.twX (F:Nat) (aa:Int) (H:Hp):OA:=(bif (decide (aa<0)) then (some ((.int .i64 (wrap .i64 (0 - aa))),H)) else (some ((.int .i64 aa),H)))
def dg.tw:=dg.twX F
theorem dg.k:Ok Try.prog 35 (mk12 (dg.tw F)):=by
 intro args H v H' h
 unfold mk12 at h
 split at h
 ·exact ok0 Try.func35 (Eq.trans (by kernel_rfl) h) (by kernel_rfl) (by kernel_rfl)
 ·cases h
def bM.l29 (F:Nat) (dt:atm) :Nat->Int->Sl->Int->Int->Hp->OA
 | 0,_,_,_,_,_=>none
 | gW+1,eB,Cy,kS,jz,H14=>(bif (decide (jz<kS)) then ((Sl.idx Cy jz 1).bind λp19=>(Hp.ldI H14 .i64 p19.1 p19.2).bind λn20=>(dt n20 H14).bind λr21=>((r21.1).asI .i64).bind λn22=>bM.l29 F dt gW (wrap .i64 (eB+n22)) Cy kS (wrap .i64 (jz+1)) r21.2) else (some ((.int .i64 eB),H14)))
def bM.twX (dt:atm) (aa:Int) (af:Sl) (H:Hp):OA:=(Hp.new H [(.int .i64 aa),(.sl af)]).bind λH3=>(Hp.ldSl H3 H.length 1).bind λs4=>bM.l29 F dt F 0 s4 (s4.n:Int) 0 H3
def bM.tw:=bM.twX F (dg.tw F)
def bM.lh29 (dt:atm) (ks:atj) (n:Nat) (tm:Tm) (H:Hp):OA:=match ks,tm 3,tm 7,tm 8,tm 9 with
 | [],(.int .i64 eB),(.sl Cy),(.int .i64 kS),(.int .i64 jz)=>bM.l29 F dt n eB Cy kS jz H
 | _,_,_,_,_=>none
def bM.lh (dt:atm) (p:Nat) (ks:atj) (n:Nat) (tm:Tm) (H:Hp):OA:=bif p.beq 29 then bM.lh29 F dt ks n tm H else (none)
def bM.cs (F:Nat) (dt:atm):Cs:=[(35,mk12 dt)]
theorem bM.loops (dt:atm):LO (aY (bM.cs F dt)) aJ (bM.lh F dt) F Try.f152:=
 (ae.rt (ae.rt (ae.lt (ae.rt (ae.block (ae.la (λn tm H r h=>by change bM.lh29 F dt [] n tm H=_ at h;unfold bM.lh29 at h;split at h;have e:bL tm [(3,_),(7,_),(8,_),(9,_)]:=⟨‹_›,‹_›,‹_›,‹_›,trivial⟩;obtain _ | k29:=n;cases h;exact ⟨_,rfl,by rw [<- bN e];exact Eq.trans (by kernel_rfl) h⟩;cases h) λk29=>ae.no))))))
theorem bM.eqX (dt:atm) (aa:Int) (af:Sl) (H:Hp):EX (aY (bM.cs F dt)) aJ (bM.lh F dt) F Try.f152 [(.agg [(.int .i64 aa),(.sl af)])] H=bM.twX F dt aa af H:=by kernel_rfl
theorem bM.k:Ok Try.prog 152 (mk10 (bM.tw F)):=by
 intro args H v H' h
 unfold mk10 at h
 split at h
 ·exact okT (TB:=aJ) Try.func152 (aM (dg.k F) bB) (bM.loops F (dg.tw F)) ((bM.eqX F (dg.tw F) _ _ H).trans h) (by kernel_rfl)
 ·cases h
def dC.twX (F:Nat) (dt:atm) (aa:Int) (aA:Int) (cM:Int) (H:Hp):OA:=(bif (aa != 0) then ((dt aA H).bind λr4=>((r4.1).asI .i64).bind λn5=>(dt aa r4.2).bind λr6=>((r6.1).asI .i64).bind λn7=>(if n7=0 then none else ((bif (decide (n5>(wrap .i64 (Int.tdiv cM n7)))) then (some ((.tup [(.int .i64 0),(.bool false)]),r6.2)) else (some ((.tup [(.int .i64 (wrap .i64 (aa * aA))),(.bool true)]),r6.2)))))) else (some ((.tup [(.int .i64 (wrap .i64 (aa * aA))),(.bool true)]),H)))
def dC.tw:=dC.twX F (dg.tw F)
def dC.cs (F:Nat) (dt:atm):Cs:=[(35,mk12 dt)]
theorem dC.eqX (dt:atm) (aa:Int) (aA:Int) (cM:Int) (H:Hp):EX (aY (dC.cs F dt)) aJ lh0 F Try.f151 [(.int .i64 aa),(.int .i64 aA),(.int .i64 cM)] H=dC.twX F dt aa aA cM H:=by kernel_rfl
theorem dC.k:Ok Try.prog 151 (mk5 (dC.tw F)):=by
 intro args H v H' h
 unfold mk5 at h
 split at h
 ·exact okT (TB:=aJ) Try.func151 (aM (dg.k F) bB) ae.no ((dC.eqX F (dg.tw F) _ _ _ H).trans h) (by kernel_rfl)
 ·cases h
def aQ.j3 (F:Nat) (bH:atg) (du:ath) (dz:atp) (bI:ath) (jQ:Nat) (tv:Nat) (xv:Nat) (Vt:Nat) (H183:Hp):OA:=(Hp.ldI H183 .i64 xv Vt).bind λn184=>(Hp.ldSl H183 xv (Vt+1)).bind λs185=>(bI n184 s185 H183).bind λr186=>((r186.1).asTup 2).bind λl187=>(l187[0]?).bind λv188=>((v188).asAgg 2).bind λl189=>(l189[0]?).bind λv190=>((v190).asI .i64).bind λn191=>(l189[1]?).bind λv192=>((v192).asSl).bind λs193=>(l187[1]?).bind λv194=>((v194).asI .i64).bind λn195=>(Hp.st r186.2 jQ tv (.int .i64 n191)).bind λH196=>(Hp.st H196 jQ (tv+1) (.sl s193)).bind λH197=>(Hp.ldI H197 .i64 jQ tv).bind λn198=>(Hp.ldSl H197 jQ (tv+1)).bind λs199=>some ((.tup [(.agg [(.int .i64 n198),(.sl s199)]),(.int .i64 n195)]),H197)
def aQ.j4 (F:Nat) (bH:atg) (du:ath) (dz:atp) (bI:ath) (C125_:atQ) (Cz:Nat) (aix:Nat) (CA:Nat) (aiy:Nat) (CB:Nat) (aiz:Nat) (aiA:Sl) (vp:Int) (vq:Int) (H289:Hp):OA:=C125_ Cz aix CA aiy CB aiz aiA vp (wrap .i64 (vq+1)) H289
def aQ.j5 (bH:atg) (du:ath) (dz:atp) (bI:ath) (C125_:atQ) (CC:Nat) (aiB:Nat) (CD:Nat) (aiC:Nat) (CE:Nat) (aiD:Nat) (aiE:Sl) (vr:Int) (vt:Int) (H262:Hp):OA:=aQ.j4 F bH du dz bI C125_ CC aiB CD aiC CE aiD aiE vr vt H262
def aQ.l8027 (F:Nat) (bH:atg) (du:ath) (dz:atp) (bI:ath) (C125_:atQ):Nat->Nat->Nat->Nat->Nat->Nat->Nat->Sl->Int->Int->Int->Int->Sl->Int->Int->Hp->OA
 | 0,_,_,_,_,_,_,_,_,_,_,_,_,_,_,_=>none
 | HN+1,om,CF,oq,CG,mX,xw,CH,kT,kU,jA,kV,CI,kW,gK,H228=>(bif (decide (gK<kW)) then ((Sl.idx CI gK 1).bind λp290=>(Hp.ldI H228 .i64 p290.1 p290.2).bind λn291=>(Hp.ldSl H228 mX (xw+1)).bind λs292=>(Sl.idx s292 (wrap .i64 (jA+gK)) 1).bind λp293=>(Hp.ldI H228 .i64 p293.1 p293.2).bind λn294=>(Sl.idx s292 (wrap .i64 (jA+gK)) 1).bind λp295=>(Hp.st H228 p295.1 p295.2 (.int .i64 (wrap .i64 (n294+(wrap .i64 (kV * n291)))))).bind λH296=>aQ.l8027 F bH du dz bI C125_ HN om CF oq CG mX xw CH kT kU jA kV CI kW (wrap .i64 (gK+1)) H296) else (aQ.j5 F bH du dz bI C125_ om CF oq CG mX xw CH kT kU H228))
termination_by structural n=>n
def aQ.l125 (F:Nat) (bH:atg) (du:ath) (dz:atp) (bI:ath) :Nat->Nat->Nat->Nat->Nat->Nat->Nat->Sl->Int->Int->Hp->OA
 | 0,_,_,_,_,_,_,_,_,_,_=>none
 | fM+1,ou,CJ,ov,CK,ox,CL,CM,kX,iu,H65=>(bif (decide (iu<kX)) then ((Sl.idx CM iu 1).bind λp200=>(Hp.ldI H65 .i64 p200.1 p200.2).bind λn201=>(Hp.ldSl H65 ou (CJ+1)).bind λs202=>aQ.l8027 F bH du dz bI (aQ.l125 F bH du dz bI fM) F ou CJ ov CK ox CL CM kX iu iu n201 s202 (s202.n:Int) 0 H65) else (aQ.j3 F bH du dz bI ov CK ox CL H65))
termination_by structural n=>n
def aQ.twX (bH:atg) (du:ath) (dz:atp) (bI:ath) (aa:Int) (af:Sl) (au:Int) (bv:Sl) (H:Hp):OA:=(Hp.new H [(.int .i64 aa),(.sl af)]).bind λH5=>(Hp.new H5 [(.int .i64 au),(.sl bv)]).bind λH6=>(Hp.new H6 [.int .i64 0,.sl ⟨none,0,.ex 0⟩]).bind λH7=>(Hp.ldI H7 .i64 H.length 0).bind λn8=>(Hp.ldSl H7 H.length (0+1)).bind λs9=>(Hp.ldI H7 .i64 H5.length 0).bind λn10=>(Hp.ldSl H7 H5.length (0+1)).bind λs11=>(Hp.new H7 [(.int .i64 n8),(.sl s9),(.int .i64 n10),(.sl s11)]).bind λH12=>(bH (⟨some (H7.length,0),2,.ex 2⟩:Sl) H12).bind λr13=>((r13.1).asB).bind λb14=>(bif (!b14) then ((Hp.st r13.2 H6.length 0 (.int .i64 0)).bind λH15=>(Hp.st H15 H6.length (0+1) (.sl (⟨none,0,.ex 0⟩:Sl))).bind λH16=>(Hp.ldI H16 .i64 H6.length 0).bind λn17=>(Hp.ldSl H16 H6.length (0+1)).bind λs18=>some ((.tup [(.agg [(.int .i64 n17),(.sl s18)]),(.int .i64 1)]),H16)) else ((Hp.ldI r13.2 .i64 H.length 0).bind λn19=>(Hp.ldSl r13.2 H.length (0+1)).bind λs20=>(du n19 s20 r13.2).bind λr21=>((r21.1).asI .i64).bind λn22=>(if aZ r13.2 r21.2 then ((Hp.ldI r21.2 .i64 H5.length 0).bind λn23=>(Hp.ldSl r21.2 H5.length (0+1)).bind λs24=>(du n23 s24 r21.2).bind λr25=>((r25.1).asI .i64).bind λn26=>(dz n22 n26 1000000000000 r25.2).bind λr27=>((r27.1).asTup 2).bind λl28=>(l28[0]?).bind λv29=>((v29).asI .i64).bind λn30=>(l28[1]?).bind λv31=>((v31).asB).bind λb32=>(bif (!b32) then ((Hp.st r27.2 H6.length 0 (.int .i64 0)).bind λH33=>(Hp.st H33 H6.length (0+1) (.sl (⟨none,0,.ex 0⟩:Sl))).bind λH34=>(Hp.ldI H34 .i64 H6.length 0).bind λn35=>(Hp.ldSl H34 H6.length (0+1)).bind λs36=>some ((.tup [(.agg [(.int .i64 n35),(.sl s36)]),(.int .i64 3)]),H34)) else ((Hp.ldI r27.2 .i64 H.length 0).bind λn37=>(Hp.ldI r27.2 .i64 H5.length 0).bind λn38=>(Hp.ldSl r27.2 H.length 1).bind λs39=>(Hp.ldSl r27.2 H5.length 1).bind λs40=>(Hp.mk r27.2 [.int .i64 0] 8 (wrap .i64 ((s39.n:Int)+(s40.n:Int))) (wrap .i64 ((s39.n:Int)+(s40.n:Int)))).bind λm41=>(Hp.new m41.2 [.int .i64 0,.sl ⟨none,0,.ex 0⟩]).bind λH42=>(Hp.st H42 m41.2.length 0 (.int .i64 (wrap .i64 (n37+n38)))).bind λH43=>(Hp.st H43 m41.2.length (0+1) (.sl m41.1)).bind λH44=>(Hp.ldSl H44 H.length 1).bind λs45=>aQ.l125 F bH du dz bI F H5.length 0 H6.length 0 m41.2.length 0 s45 (s45.n:Int) 0 H44))) else none)))
def aQ.tw:=aQ.twX F (cI.tw F) (bM.tw F) (dC.tw F) (cJ.tw F)
def aQ.lh125 (bH:atg) (du:ath) (dz:atp) (bI:ath) (ks:atj) (n:Nat) (tm:Tm) (H:Hp):OA:=match ks,tm 3,tm 4,tm 8,tm 45,tm 46,tm 47 with
 | [],(.ptr ou CJ),(.ptr ov CK),(.ptr ox CL),(.sl CM),(.int .i64 kX),(.int .i64 iu)=>aQ.l125 F bH du dz bI n ou CJ ov CK ox CL CM kX iu H
 | _,_,_,_,_,_,_=>none
def aQ.lh8027 (bH:atg) (du:ath) (dz:atp) (bI:ath) (ks:atj) (n:Nat) (tm:Tm) (H:Hp):OA:=match ks,tm 3,tm 4,tm 8,tm 9,tm 10,tm 45,tm 46,tm 47,tm 53,tm 54,tm 55 with
 | [fM],(.ptr om CF),(.ptr oq CG),(.ptr mX xw),(.int .i64 jA),(.int .i64 kV),(.sl CH),(.int .i64 kT),(.int .i64 kU),(.sl CI),(.int .i64 kW),(.int .i64 gK)=>aQ.l8027 F bH du dz bI (aQ.l125 F bH du dz bI fM) n om CF oq CG mX xw CH kT kU jA kV CI kW gK H
 | _,_,_,_,_,_,_,_,_,_,_,_=>none
def aQ.lh (bH:atg) (du:ath) (dz:atp) (bI:ath) (p:Nat) (ks:atj) (n:Nat) (tm:Tm) (H:Hp):OA:=bif p.beq 8027 then aQ.lh8027 F bH du dz bI ks n tm H else (bif p.beq 125 then aQ.lh125 F bH du dz bI ks n tm H else (none))
def aQ.pn:Nat->List Nat:=cR [(3,[3,4]),(6,[15])]
def aQ.tb:Nat->List (List Nat):=cR [(3,[[],[0],[],[0,1,2],[0,1,2,3],[0,1,2,3,4],[0,1,2,3,4,5],[0,1,2,3,4,5],[0,1,2,3,4,5,6],[0,1,2,3,4,5,6,7,8]]),(6,[[],[0],[],[2],[0,1,2,3],[],[5],[5,6],[],[8],[8,9],[5,6,7,8,9,10],[5,6,7,8,9,10,11],[0,1,2,3,4,5,6,7,8,9,10,11,12],[],[0,1,2,3,4,5,6,7,8,9,10,11,12,13,14]])]
def aQ.cs (F:Nat) (bH:atg) (du:ath) (dz:atp) (bI:ath):Cs:=[(150,mk3 bH),(152,mk10 du),(151,mk5 dz),(153,mk10 bI)]
theorem aQ.loops (bH:atg) (du:ath) (dz:atp) (bI:ath):LO (aY (aQ.cs F bH du dz bI)) aQ.pn (aQ.lh F bH du dz bI) F Try.f145:=
 (ae.rt (ae.rt (ae.rt (ae.rt (ae.lt (ae.rt (ae.block (ae.la (λn tm H r h=>by change aQ.lh125 F bH du dz bI [] n tm H=_ at h;unfold aQ.lh125 at h;split at h;have e:bL tm [(3,_),(4,_),(8,_),(45,_),(46,_),(47,_)]:=⟨‹_›,‹_›,‹_›,‹_›,‹_›,‹_›,trivial⟩;obtain _ | k125:=n;cases h;exact ⟨_,rfl,by rw [<- bN e];exact Eq.trans (by kernel_rfl) h⟩;cases h) λk125=>(ae.rt (ae.rt (ae.lt (ae.block (ae.rt (ae.rt (ae.block (ae.la (λn tm H r h=>by change aQ.lh8027 F bH du dz bI [k125] n tm H=_ at h;unfold aQ.lh8027 at h;split at h;have e:bL tm [(3,_),(4,_),(8,_),(9,_),(10,_),(45,_),(46,_),(47,_),(53,_),(54,_),(55,_)]:=⟨‹_›,‹_›,‹_›,‹_›,‹_›,‹_›,‹_›,‹_›,‹_›,‹_›,‹_›,trivial⟩;cases (show [k125]=_ from ‹_›);obtain _ | k8027:=n;cases h;exact ⟨_,rfl,by rw [<- bN e];exact Eq.trans (by kernel_rfl) h⟩;cases h) λk8027=>ae.no))))))))))))))))
theorem aQ.eqX (bH:atg) (du:ath) (dz:atp) (bI:ath) (aa:Int) (af:Sl) (au:Int) (bv:Sl) (H:Hp):EX (aY (aQ.cs F bH du dz bI)) aQ.pn (aQ.lh F bH du dz bI) F Try.f145 [(.agg [(.int .i64 aa),(.sl af)]),(.agg [(.int .i64 au),(.sl bv)])] H=aQ.twX F bH du dz bI aa af au bv H:=by kernel_rfl
theorem aQ.k:Ok Try.prog 145 (mk9 (aQ.tw F)):=by
 intro args H v H' h
 unfold mk9 at h
 split at h
 ·exact okT (TB:=aQ.tb) Try.func145 (aM (cI.k F) (aM (bM.k F) (aM (dC.k F) (aM (cJ.k F) bB)))) (aQ.loops F (cI.tw F) (bM.tw F) (dC.tw F) (cJ.tw F)) ((aQ.eqX F (cI.tw F) (bM.tw F) (dC.tw F) (cJ.tw F) _ _ _ _ H).trans h) (by kernel_rfl)
 ·cases h
def cZ.twX (F:Nat) (vu:atk) (aa:Int) (af:Sl) (au:Int) (bv:Sl) (H:Hp):OA:=(Hp.new H [(.int .i64 aa),(.sl af)]).bind λH5=>(Hp.new H5 [(.int .i64 au),(.sl bv)]).bind λH6=>(Hp.new H6 [.int .i64 0,.sl ⟨none,0,.ex 0⟩]).bind λH7=>(Hp.ldI H7 .i64 H.length 0).bind λn8=>(Hp.ldSl H7 H.length (0+1)).bind λs9=>(Hp.ldI H7 .i64 H5.length 0).bind λn10=>(Hp.ldSl H7 H5.length (0+1)).bind λs11=>(vu n8 s9 n10 s11 H7).bind λr12=>((r12.1).asTup 2).bind λl13=>(l13[0]?).bind λv14=>((v14).asAgg 2).bind λl15=>(l15[0]?).bind λv16=>((v16).asI .i64).bind λn17=>(l15[1]?).bind λv18=>((v18).asSl).bind λs19=>(l13[1]?).bind λv20=>((v20).asI .i64).bind λn21=>(Hp.new r12.2 [.int .i64 0,.sl ⟨none,0,.ex 0⟩]).bind λH22=>(Hp.st H22 r12.2.length 0 (.int .i64 n17)).bind λH23=>(Hp.st H23 r12.2.length (0+1) (.sl s19)).bind λH24=>(Hp.ldI H24 .i64 r12.2.length 0).bind λn25=>(Hp.ldSl H24 r12.2.length (0+1)).bind λs26=>(Hp.st H24 H6.length 0 (.int .i64 n25)).bind λH27=>(Hp.st H27 H6.length (0+1) (.sl s26)).bind λH28=>(Hp.ldI H28 .i64 H6.length 0).bind λn29=>(Hp.ldSl H28 H6.length (0+1)).bind λs30=>some ((.agg [(.int .i64 n29),(.sl s30)]),H28)
def cZ.tw:=cZ.twX F (aQ.tw F)
def cZ.cs (F:Nat) (vu:atk):Cs:=[(145,mk9 vu)]
theorem cZ.eqX (vu:atk) (aa:Int) (af:Sl) (au:Int) (bv:Sl) (H:Hp):EX (aY (cZ.cs F vu)) aJ lh0 F Try.f128 [(.agg [(.int .i64 aa),(.sl af)]),(.agg [(.int .i64 au),(.sl bv)])] H=cZ.twX F vu aa af au bv H:=by kernel_rfl
theorem cZ.k:Ok Try.prog 128 (mk9 (cZ.tw F)):=by
 intro args H v H' h
 unfold mk9 at h
 split at h
 ·exact okT (TB:=aJ) Try.func128 (aM (aQ.k F) bB) ae.no ((cZ.eqX F (aQ.tw F) _ _ _ _ H).trans h) (by kernel_rfl)
 ·cases h
def dP.twX (F:Nat) (aa:Int) (H:Hp):OA:=some ((.int .i64 (wrap .i64 (1 - (wrap .i64 (2 * (Int.tmod aa 2)))))),H)
def dP.tw:=dP.twX F
theorem dP.k:Ok Try.prog 130 (mk12 (dP.tw F)):=by
 intro args H v H' h
 unfold mk12 at h
 split at h
 ·exact ok0 Try.func130 (Eq.trans (by kernel_rfl) h) (by kernel_rfl) (by kernel_rfl)
 ·cases h
def aw.j6 (F:Nat) (bo:atq) (cz:atk) (cC:atm) (bq:atk) (pQ:Nat) (CN:Nat) (oy:Int) (aiF:Sl) (H228:Hp):OA:=(if oy<0 then none else ((Sl.idx aiF (wrap .i64 ((wrap .i64 (1 * 2 ^ (min (oy:Int).toNat (IntKind.i64).bits))) - 1)) 2).bind λp229=>(Hp.ldI H228 .i64 p229.1 p229.2).bind λn230=>(Hp.ldSl H228 p229.1 (p229.2+1)).bind λs231=>(Hp.st H228 pQ CN (.int .i64 n230)).bind λH232=>(Hp.st H232 pQ (CN+1) (.sl s231)).bind λH233=>(Hp.ldI H233 .i64 pQ CN).bind λn234=>(Hp.ldSl H233 pQ (CN+1)).bind λs235=>some ((.agg [(.int .i64 n234),(.sl s235)]),H233)))
def aw.j8 (F:Nat) (bo:atq) (cz:atk) (cC:atm) (bq:atk) (C125_:atJ) (aiG:Sl) (CO:Nat) (aiH:Nat) (vv:Int) (aiI:Sl) (vw:Int) (H372:Hp):OA:=C125_ aiG CO aiH vv aiI (wrap .i64 (vw+1)) H372
def aw.j9 (bo:atq) (cz:atk) (cC:atm) (bq:atk) (C125_:atJ) (aiJ:Sl) (CP:Nat) (aiK:Nat) (vx:Int) (aiL:Sl) (vy:Int) (H355:Hp):OA:=aw.j8 F bo cz cC bq C125_ aiJ CP aiK vx aiL vy H355
def aw.l16047 (F:Nat) (bo:atq) (cz:atk) (cC:atm) (bq:atk) (C125_:atJ):Nat->Sl->Nat->Nat->Int->Sl->Int->Int->Sl->Int->Int->Hp->OA
 | 0,_,_,_,_,_,_,_,_,_,_,_=>none
 | aiM+1,xx,oz,CQ,kY,pR,gL,jB,CS,kZ,iv,H291=>(bif (decide (iv<kZ)) then ((Sl.idx CS iv 1).bind λp373=>(Hp.ldI H291 .i64 p373.1 p373.2).bind λn374=>(Sl.idx xx jB 1).bind λp375=>(Hp.ldSl H291 p375.1 p375.2).bind λs376=>(Sl.idx s376 n374 2).bind λp377=>(Hp.ldI H291 .i64 p377.1 p377.2).bind λn378=>(Hp.ldSl H291 p377.1 (p377.2+1)).bind λs379=>(if n374<0 then none else ((Sl.idx pR (Go.bits .andNot .i64 gL (wrap .i64 (1 * 2 ^ (min (n374:Int).toNat (IntKind.i64).bits)))) 2).bind λp380=>(Hp.ldI H291 .i64 p380.1 p380.2).bind λn381=>(Hp.ldSl H291 p380.1 (p380.2+1)).bind λs382=>(cz n378 s379 n381 s382 H291).bind λr383=>((r383.1).asAgg 2).bind λl384=>(l384[0]?).bind λv385=>((v385).asI .i64).bind λn386=>(l384[1]?).bind λv387=>((v387).asSl).bind λs388=>(if aZ H291 r383.2 then ((Hp.new r383.2 [.int .i64 0,.sl ⟨none,0,.ex 0⟩]).bind λH389=>(Hp.st H389 r383.2.length 0 (.int .i64 n386)).bind λH390=>(Hp.st H390 r383.2.length (0+1) (.sl s388)).bind λH391=>(Sl.idx pR gL 2).bind λp392=>(Hp.ldI H391 .i64 p392.1 p392.2).bind λn393=>(Hp.ldSl H391 p392.1 (p392.2+1)).bind λs394=>(Hp.ldI H391 .i64 r383.2.length 0).bind λn395=>(Hp.ldSl H391 r383.2.length (0+1)).bind λs396=>(cC (wrap .i64 (jB - iv)) H391).bind λr397=>((r397.1).asI .i64).bind λn398=>(if aZ H391 r397.2 then ((bo n398 0 r397.2).bind λr399=>((r399.1).asAgg 2).bind λl400=>(l400[0]?).bind λv401=>((v401).asI .i64).bind λn402=>(l400[1]?).bind λv403=>((v403).asSl).bind λs404=>(if aZ r397.2 r399.2 then ((cz n395 s396 n402 s404 r399.2).bind λr405=>((r405.1).asAgg 2).bind λl406=>(l406[0]?).bind λv407=>((v407).asI .i64).bind λn408=>(l406[1]?).bind λv409=>((v409).asSl).bind λs410=>(if aZ r399.2 r405.2 then ((bq n393 s394 n408 s410 r405.2).bind λr411=>((r411.1).asAgg 2).bind λl412=>(l412[0]?).bind λv413=>((v413).asI .i64).bind λn414=>(l412[1]?).bind λv415=>((v415).asSl).bind λs416=>(Sl.idx pR gL 2).bind λp417=>(Hp.st r411.2 p417.1 p417.2 (.int .i64 n414)).bind λH418=>(Hp.st H418 p417.1 (p417.2+1) (.sl s416)).bind λH419=>aw.l16047 F bo cz cC bq C125_ aiM xx oz CQ kY pR gL jB CS kZ (wrap .i64 (iv+1)) H419) else none)) else none)) else none)) else none)))) else (aw.j9 F bo cz cC bq C125_ xx oz CQ kY pR gL H291))
termination_by structural n=>n
def aw.j10 (bo:atq) (cz:atk) (cC:atm) (bq:atk) (C125_:atJ) (aiN:Sl) (CT:Nat) (aiO:Nat) (vz:Int) (HM:Sl) (vA:Int) (l_:Sl) (H275:Hp):OA:=aw.l16047 F bo cz cC bq C125_ F aiN CT aiO vz HM vA (wrap .i64 ((l_.n:Int) - 1)) l_ (l_.n:Int) 0 H275
def aw.j11 (F:Nat) (bo:atq) (cz:atk) (cC:atm) (bq:atk) (C8021_:aui) (aiP:Sl) (CU:Nat) (aiQ:Nat) (vB:Int) (aiR:Sl) (vC:Int) (aiS:Sl) (vD:Int) (vE:Int) (H436:Hp):OA:=C8021_ aiP CU aiQ vB aiR vC aiS vD (wrap .i64 (vE+1)) H436
def aw.l8021 (F:Nat) (bo:atq) (cz:atk) (cC:atm) (bq:atk) (C125_:atJ):Nat->Sl->Nat->Nat->Int->Sl->Int->Sl->Int->Int->Hp->OA
 | 0,_,_,_,_,_,_,_,_,_,_=>none
 | Bj+1,xy,mY,xz,jC,xA,iw,xB,jD,fm,H246=>(bif (decide (fm<jD)) then ((if fm<0 then none else ((bif ((Go.bits .and .i64 (Int.fdiv iw (2 ^ (min (fm:Int).toNat (IntKind.i64).bits))) 1)==1) then ((Hp.new H246 [(.int .i64 fm)]).bind λH420=>(Sl.row H420 (⟨some (H246.length,0),1,.ex 1⟩:Sl) 1).bind λxs422=>(Hp.app H420 1 8 xB (⟨some (H246.length,0),1,.ex 1⟩:Sl).n xs422).bind λa421=>aw.j11 F bo cz cC bq (aw.l8021 F bo cz cC bq C125_ Bj) xy mY xz jC xA iw a421.1 jD fm a421.2) else (aw.j11 F bo cz cC bq (aw.l8021 F bo cz cC bq C125_ Bj) xy mY xz jC xA iw xB jD fm H246))))) else (aw.j10 F bo cz cC bq C125_ xy mY xz jC xA iw xB H246))
termination_by structural n=>n
def aw.l125 (F:Nat) (bo:atq) (cz:atk) (cC:atm) (bq:atk) :Nat->Sl->Nat->Nat->Int->Sl->Int->Hp->OA
 | 0,_,_,_,_,_,_,_=>none
 | fM+1,HO,gg,CV,fl,CW,gS,H19=>(if fl<0 then none else ((bif (decide (gS<(wrap .i64 (1 * 2 ^ (min (fl:Int).toNat (IntKind.i64).bits))))) then (aw.l8021 F bo cz cC bq (aw.l125 F bo cz cC bq fM) F HO gg CV fl CW gS (⟨none,0,.ex 0⟩:Sl) fl 0 H19) else (aw.j6 F bo cz cC bq gg CV fl CW H19))))
termination_by structural n=>n
def aw.twX (bo:atq) (cz:atk) (cC:atm) (bq:atk) (aa:Sl) (H:Hp):OA:=(Hp.new H [.int .i64 0,.sl ⟨none,0,.ex 0⟩]).bind λH2=>(if (aa.n:Int)<0 then none else ((Hp.mk H2 [.int .i64 0,.sl ⟨none,0,.ex 0⟩] 32 (wrap .i64 (1 * 2 ^ (min ((aa.n:Int):Int).toNat (IntKind.i64).bits))) (wrap .i64 (1 * 2 ^ (min ((aa.n:Int):Int).toNat (IntKind.i64).bits)))).bind λm3=>(bo 1 0 m3.2).bind λr4=>((r4.1).asAgg 2).bind λl5=>(l5[0]?).bind λv6=>((v6).asI .i64).bind λn7=>(l5[1]?).bind λv8=>((v8).asSl).bind λs9=>(Sl.idx m3.1 0 2).bind λp10=>(Hp.st r4.2 p10.1 p10.2 (.int .i64 n7)).bind λH11=>(Hp.st H11 p10.1 (p10.2+1) (.sl s9)).bind λH12=>aw.l125 F bo cz cC bq F aa H.length 0 (aa.n:Int) m3.1 1 H12))
def aw.tw:=aw.twX F (cn.tw F) (cZ.tw F) (dP.tw F) (cq.tw F)
def aw.lh125 (bo:atq) (cz:atk) (cC:atm) (bq:atk) (ks:atj) (n:Nat) (tm:Tm) (H:Hp):OA:=match ks,tm 0,tm 2,tm 3,tm 4,tm 5 with
 | [],(.sl HO),(.ptr gg CV),(.int .i64 fl),(.sl CW),(.int .i64 gS)=>aw.l125 F bo cz cC bq n HO gg CV fl CW gS H
 | _,_,_,_,_,_=>none
def aw.lh8021 (bo:atq) (cz:atk) (cC:atm) (bq:atk) (ks:atj) (n:Nat) (tm:Tm) (H:Hp):OA:=match ks,tm 0,tm 2,tm 3,tm 4,tm 5,tm 6,tm 26,tm 27 with
 | [fM],(.sl xy),(.ptr mY xz),(.int .i64 jC),(.sl xA),(.int .i64 iw),(.sl xB),(.int .i64 jD),(.int .i64 fm)=>aw.l8021 F bo cz cC bq (aw.l125 F bo cz cC bq fM) n xy mY xz jC xA iw xB jD fm H
 | _,_,_,_,_,_,_,_,_=>none
def aw.lh16047 (bo:atq) (cz:atk) (cC:atm) (bq:atk) (ks:atj) (n:Nat) (tm:Tm) (H:Hp):OA:=match ks,tm 0,tm 2,tm 3,tm 4,tm 5,tm 8,tm 43,tm 44,tm 45 with
 | [fM],(.sl xx),(.ptr oz CQ),(.int .i64 kY),(.sl pR),(.int .i64 gL),(.int .i64 jB),(.sl CS),(.int .i64 kZ),(.int .i64 iv)=>aw.l16047 F bo cz cC bq (aw.l125 F bo cz cC bq fM) n xx oz CQ kY pR gL jB CS kZ iv H
 | _,_,_,_,_,_,_,_,_,_=>none
def aw.lh (bo:atq) (cz:atk) (cC:atm) (bq:atk) (p:Nat) (ks:atj) (n:Nat) (tm:Tm) (H:Hp):OA:=bif p.beq 16047 then aw.lh16047 F bo cz cC bq ks n tm H else (bif p.beq 8021 then aw.lh8021 F bo cz cC bq ks n tm H else (bif p.beq 125 then aw.lh125 F bo cz cC bq ks n tm H else (none)))
def aw.pn:Nat->List Nat:=cR [(18,[16]),(19,[13,15])]
def aw.tb:Nat->List (List Nat):=cR [(18,[[],[],[0,1],[0,1,2],[],[0,1,2,3,4],[0,1,2,3,4,5],[],[],[],[9],[8,9,10],[7,8,9,10,11],[7,8,9,10,11,12],[0,1,2,3,4,5,6,7,8,9,10,11,12,13],[],[0,1,2,3,4,5,6,7,8,9,10,11,12,13,14,15]]),(19,[[],[],[],[],[2,3],[2,3,4],[],[],[],[7,8],[7,8,9],[7,8,9,10],[6,7,8,9,10,11],[2,3,4,5,6,7,8,9,10,11,12],[0,1,2,3,4,5,6,7,8,9,10,11,12,13],[0,1,2,3,4,5,6,7,8,9,10,11,12,13,14]])]
def aw.cs (F:Nat) (bo:atq) (cz:atk) (cC:atm) (bq:atk):Cs:=[(127,mk18 bo),(128,mk9 cz),(130,mk12 cC),(129,mk9 bq)]
theorem aw.loops (bo:atq) (cz:atk) (cC:atm) (bq:atk):LO (aY (aw.cs F bo cz cC bq)) aw.pn (aw.lh F bo cz cC bq) F Try.f94:=
 (ae.rt (ae.rt (ae.rt (ae.rt (ae.lt (ae.rt (ae.block (ae.la (λn tm H r h=>by change aw.lh125 F bo cz cC bq [] n tm H=_ at h;unfold aw.lh125 at h;split at h;have e:bL tm [(0,_),(2,_),(3,_),(4,_),(5,_)]:=⟨‹_›,‹_›,‹_›,‹_›,‹_›,trivial⟩;obtain _ | k125:=n;cases h;exact ⟨_,rfl,by rw [<- bN e];exact Eq.trans (by kernel_rfl) h⟩;cases h) λk125=>(ae.rt (ae.lt (ae.block (ae.rt (ae.seq (ae.rt (ae.block (ae.la (λn tm H r h=>by change aw.lh8021 F bo cz cC bq [k125] n tm H=_ at h;unfold aw.lh8021 at h;split at h;have e:bL tm [(0,_),(2,_),(3,_),(4,_),(5,_),(6,_),(26,_),(27,_)]:=⟨‹_›,‹_›,‹_›,‹_›,‹_›,‹_›,‹_›,‹_›,trivial⟩;cases (show [k125]=_ from ‹_›);obtain _ | k8021:=n;cases h;exact ⟨_,rfl,by rw [<- bN e];exact Eq.trans (by kernel_rfl) h⟩;cases h) λk8021=>ae.no))) (ae.rt (ae.rt (ae.block (ae.la (λn tm H r h=>by change aw.lh16047 F bo cz cC bq [k125] n tm H=_ at h;unfold aw.lh16047 at h;split at h;have e:bL tm [(0,_),(2,_),(3,_),(4,_),(5,_),(8,_),(43,_),(44,_),(45,_)]:=⟨‹_›,‹_›,‹_›,‹_›,‹_›,‹_›,‹_›,‹_›,‹_›,trivial⟩;cases (show [k125]=_ from ‹_›);obtain _ | k16047:=n;cases h;exact ⟨_,rfl,by rw [<- bN e];exact Eq.trans (by kernel_rfl) h⟩;cases h) λk16047=>ae.no)))))))))))))))))
theorem aw.eqX (bo:atq) (cz:atk) (cC:atm) (bq:atk) (aa:Sl) (H:Hp):EX (aY (aw.cs F bo cz cC bq)) aw.pn (aw.lh F bo cz cC bq) F Try.f94 [(.sl aa)] H=aw.twX F bo cz cC bq aa H:=by kernel_rfl
theorem aw.k:Ok Try.prog 94 (mk3 (aw.tw F)):=by
 intro args H v H' h
 unfold mk3 at h
 split at h
 ·exact okT (TB:=aw.tb) Try.func94 (aM (cn.k F) (aM (cZ.k F) (aM (dP.k F) (aM (cq.k F) bB)))) (aw.loops F (cn.tw F) (cZ.tw F) (dP.tw F) (cq.tw F)) ((aw.eqX F (cn.tw F) (cZ.tw F) (dP.tw F) (cq.tw F) _ H).trans h) (by kernel_rfl)
 ·cases h
def bJ.l117 (F:Nat) (cj:atg) :Nat->Nat->Nat->Nat->Nat->Int->Int->Hp->OA
 | 0,_,_,_,_,_,_,_=>none
 | aiT+1,eW,ij,gR,pT,k_,iy,H27=>(bif (decide (iy<k_)) then ((Hp.ldSl H27 gR (pT+1)).bind λs40=>(Hp.ldSl H27 gR (pT+1)).bind λs41=>(Sl.idx s41 iy 1).bind λp42=>(Hp.ldI H27 .i64 p42.1 p42.2).bind λn43=>(Sl.idx s40 iy 1).bind λp44=>(Hp.st H27 p44.1 p44.2 (.int .i64 (wrap .i64 (0 - n43)))).bind λH45=>bJ.l117 F cj aiT eW ij gR pT k_ (wrap .i64 (iy+1)) H45) else ((Hp.ldI H27 .i64 gR pT).bind λn46=>(Hp.ldSl H27 gR (pT+1)).bind λs47=>(Hp.st H27 eW ij (.int .i64 n46)).bind λH48=>(Hp.st H48 eW (ij+1) (.sl s47)).bind λH49=>(Hp.ldI H49 .i64 eW ij).bind λn50=>(Hp.ldSl H49 eW (ij+1)).bind λs51=>some ((.agg [(.int .i64 n50),(.sl s51)]),H49)))
termination_by structural n=>n
def bJ.twX (cj:atg) (aa:Int) (af:Sl) (H:Hp):OA:=(Hp.new H [(.int .i64 aa),(.sl af)]).bind λH3=>(Hp.new H3 [.int .i64 0,.sl ⟨none,0,.ex 0⟩]).bind λH4=>(Hp.ldSl H4 H.length 1).bind λs5=>(cj s5 H4).bind λr6=>((r6.1).asSl).bind λs7=>(Hp.new r6.2 [.int .i64 0,.sl ⟨none,0,.ex 0⟩]).bind λH8=>(Hp.st H8 r6.2.length 0 (.int .i64 0)).bind λH9=>(Hp.st H9 r6.2.length (0+1) (.sl s7)).bind λH10=>(Hp.ldSl H10 r6.2.length 1).bind λs11=>(bif (decide ((s11.n:Int)>0)) then ((Hp.ldSl H10 r6.2.length 1).bind λs12=>(Sl.idx s12 0 1).bind λp13=>(Hp.ldI H10 .i64 p13.1 p13.2).bind λn14=>(bif (decide (n14<0)) then ((Hp.ldSl H10 r6.2.length 1).bind λs15=>bJ.l117 F cj F H3.length 0 r6.2.length 0 (s15.n:Int) 0 H10) else ((Hp.ldI H10 .i64 r6.2.length 0).bind λn52=>(Hp.ldSl H10 r6.2.length (0+1)).bind λs53=>(Hp.st H10 H3.length 0 (.int .i64 n52)).bind λH54=>(Hp.st H54 H3.length (0+1) (.sl s53)).bind λH55=>(Hp.ldI H55 .i64 H3.length 0).bind λn56=>(Hp.ldSl H55 H3.length (0+1)).bind λs57=>some ((.agg [(.int .i64 n56),(.sl s57)]),H55)))) else ((Hp.ldI H10 .i64 r6.2.length 0).bind λn58=>(Hp.ldSl H10 r6.2.length (0+1)).bind λs59=>(Hp.st H10 H3.length 0 (.int .i64 n58)).bind λH60=>(Hp.st H60 H3.length (0+1) (.sl s59)).bind λH61=>(Hp.ldI H61 .i64 H3.length 0).bind λn62=>(Hp.ldSl H61 H3.length (0+1)).bind λs63=>some ((.agg [(.int .i64 n62),(.sl s63)]),H61)))
def bJ.tw:=bJ.twX F (dy.tw F)
def bJ.lh117 (cj:atg) (ks:atj) (n:Nat) (tm:Tm) (H:Hp):OA:=match ks,tm 2,tm 3,tm 22,tm 23 with
 | [],(.ptr eW ij),(.ptr gR pT),(.int .i64 k_),(.int .i64 iy)=>bJ.l117 F cj n eW ij gR pT k_ iy H
 | _,_,_,_,_=>none
def bJ.lh (cj:atg) (p:Nat) (ks:atj) (n:Nat) (tm:Tm) (H:Hp):OA:=bif p.beq 117 then bJ.lh117 F cj ks n tm H else (none)
def bJ.pn:Nat->List Nat:=cR [(6,[10])]
def bJ.tb:Nat->List (List Nat):=cR [(6,[[],[0],[],[],[3],[],[3,4,5],[3,4,5,6],[3,4,5,6,7],[0,1,2,3,4,5,6,7,8],[0,1,2,3,4,5,6,7,8,9]])]
def bJ.cs (F:Nat) (cj:atg):Cs:=[(126,mk3 cj)]
theorem bJ.loops (cj:atg):LO (aY (bJ.cs F cj)) bJ.pn (bJ.lh F cj) F Try.f93:=
 (ae.rt (ae.rt (ae.lt (ae.rt (ae.cond (ae.rt (ae.block (ae.la (λn tm H r h=>by change bJ.lh117 F cj [] n tm H=_ at h;unfold bJ.lh117 at h;split at h;have e:bL tm [(2,_),(3,_),(22,_),(23,_)]:=⟨‹_›,‹_›,‹_›,‹_›,trivial⟩;obtain _ | k117:=n;cases h;exact ⟨_,rfl,by rw [<- bN e];exact Eq.trans (by kernel_rfl) h⟩;cases h) λk117=>ae.no))) ae.no)))))
theorem bJ.eqX (cj:atg) (aa:Int) (af:Sl) (H:Hp):EX (aY (bJ.cs F cj)) bJ.pn (bJ.lh F cj) F Try.f93 [(.agg [(.int .i64 aa),(.sl af)])] H=bJ.twX F cj aa af H:=by kernel_rfl
theorem bJ.k:Ok Try.prog 93 (mk10 (bJ.tw F)):=by
 intro args H v H' h
 unfold mk10 at h
 split at h
 ·exact okT (TB:=bJ.tb) Try.func93 (aM (dy.k F) bB) (bJ.loops F (dy.tw F)) ((bJ.eqX F (dy.tw F) _ _ H).trans h) (by kernel_rfl)
 ·cases h
def bh.j1 (F:Nat) (eX:ate) (bz:ate) (eP:atg) (eY:atg) (eZ:ath) (pU:Nat) (CX:Nat) (aiU:Sl) (H67:Hp):OA:=(eY aiU H67).bind λr68=>((r68.1).asAgg 2).bind λl69=>(l69[0]?).bind λv70=>((v70).asI .i64).bind λn71=>(l69[1]?).bind λv72=>((v72).asSl).bind λs73=>(eZ n71 s73 r68.2).bind λr74=>((r74.1).asAgg 2).bind λl75=>(l75[0]?).bind λv76=>((v76).asI .i64).bind λn77=>(l75[1]?).bind λv78=>((v78).asSl).bind λs79=>(Hp.st r74.2 pU CX (.int .i64 n77)).bind λH80=>(Hp.st H80 pU (CX+1) (.sl s79)).bind λH81=>(Hp.ldI H81 .i64 pU CX).bind λn82=>(Hp.ldSl H81 pU (CX+1)).bind λs83=>some ((.agg [(.int .i64 n82),(.sl s83)]),H81)
def bh.l253 (F:Nat) (eX:ate) (bz:ate) (eP:atg) (eY:atg) (eZ:ath) :Nat->Nat->Nat->Sl->Int->Int->Int->Hp->OA
 | 0,_,_,_,_,_,_,_=>none
 | aiV+1,oA,CY,vF,lf,lg,iz,H48=>(bif (decide (iz<lg)) then ((Sl.idx vF iz 1).bind λp84=>(Hp.ldSl H48 p84.1 p84.2).bind λs85=>(Sl.cut s85 2 0 (wrap .i64 (lf - 1))).bind λs86=>(Sl.idx vF iz 1).bind λp87=>(Hp.st H48 p87.1 p87.2 (.sl s86)).bind λH88=>bh.l253 F eX bz eP eY eZ aiV oA CY vF lf lg (wrap .i64 (iz+1)) H88) else (bh.j1 F eX bz eP eY eZ oA CY vF H48))
termination_by structural n=>n
def bh.j2 (eX:ate) (bz:ate) (eP:atg) (eY:atg) (eZ:ath) (oB:Nat) (lZ:Nat) (HP:Sl) (oC:Int) (H29:Hp):OA:=(eP HP H29).bind λr30=>((r30.1).asI .i64).bind λn31=>(bif (n31 != (wrap .i64 (oC - 1))) then ((Hp.st r30.2 oB lZ (.int .i64 0)).bind λH32=>(Hp.st H32 oB (lZ+1) (.sl (⟨none,0,.ex 0⟩:Sl))).bind λH33=>(Hp.ldI H33 .i64 oB lZ).bind λn34=>(Hp.ldSl H33 oB (lZ+1)).bind λs35=>some ((.agg [(.int .i64 n34),(.sl s35)]),H33)) else (bh.l253 F eX bz eP eY eZ F oB lZ HP oC (HP.n:Int) 0 r30.2))
def bh.twX (eX:ate) (bz:ate) (eP:atg) (eY:atg) (eZ:ath) (aa:Sl) (af:Int) (H:Hp):OA:=(Hp.new H [(.sl aa),(.int .i64 af)]).bind λH3=>(Hp.new H3 [.int .i64 0,.sl ⟨none,0,.ex 0⟩]).bind λH4=>(Hp.ldSl H4 H.length 0).bind λs5=>(Hp.ldI H4 .i64 H.length (0+1)).bind λn6=>(eX s5 n6 H4).bind λr7=>((r7.1).asSl).bind λs8=>(Hp.ldSl r7.2 H.length 0).bind λs9=>(Hp.ldI r7.2 .i64 H.length (0+1)).bind λn10=>(bz s9 n10 r7.2).bind λr11=>((r11.1).asTup 2).bind λl12=>(l12[0]?).bind λv13=>((v13).asSl).bind λs14=>(l12[1]?).bind λv15=>((v15).asI .i64).bind λn16=>(eP s8 r11.2).bind λr17=>((r17.1).asI .i64).bind λn18=>(bif (n18==n16) then ((Sl.cut s8 1 0 (wrap .i64 (n16 - 1))).bind λs19=>bh.j2 F eX bz eP eY eZ H3.length 0 s19 n16 r17.2) else (bh.j2 F eX bz eP eY eZ H3.length 0 s8 n16 r17.2))
def bh.tw:=bh.twX F (aX.tw F) (bg.tw F) (er.tw F) (aw.tw F) (bJ.tw F)
def bh.lh253 (eX:ate) (bz:ate) (eP:atg) (eY:atg) (eZ:ath) (ks:atj) (n:Nat) (tm:Tm) (H:Hp):OA:=match ks,tm 2,tm 3,tm 5,tm 29,tm 30 with
 | [],(.ptr oA CY),(.sl vF),(.int .i64 lf),(.int .i64 lg),(.int .i64 iz)=>bh.l253 F eX bz eP eY eZ n oA CY vF lf lg iz H
 | _,_,_,_,_,_=>none
def bh.lh (eX:ate) (bz:ate) (eP:atg) (eY:atg) (eZ:ath) (p:Nat) (ks:atj) (n:Nat) (tm:Tm) (H:Hp):OA:=bif p.beq 253 then bh.lh253 F eX bz eP eY eZ ks n tm H else (none)
def bh.cs (F:Nat) (eX:ate) (bz:ate) (eP:atg) (eY:atg) (eZ:ath):Cs:=[(90,mk4 eX),(91,mk4 bz),(92,mk3 eP),(94,mk3 eY),(93,mk10 eZ)]
theorem bh.loops (eX:ate) (bz:ate) (eP:atg) (eY:atg) (eZ:ath):LO (aY (bh.cs F eX bz eP eY eZ)) aJ (bh.lh F eX bz eP eY eZ) F Try.f49:=
 (ae.rt (ae.rt (ae.rt (ae.rt (ae.rt (ae.lt (ae.rt (ae.block (ae.la (λn tm H r h=>by change bh.lh253 F eX bz eP eY eZ [] n tm H=_ at h;unfold bh.lh253 at h;split at h;have e:bL tm [(2,_),(3,_),(5,_),(29,_),(30,_)]:=⟨‹_›,‹_›,‹_›,‹_›,‹_›,trivial⟩;obtain _ | k253:=n;cases h;exact ⟨_,rfl,by rw [<- bN e];exact Eq.trans (by kernel_rfl) h⟩;cases h) λk253=>ae.no)))))))))
theorem bh.eqX (eX:ate) (bz:ate) (eP:atg) (eY:atg) (eZ:ath) (aa:Sl) (af:Int) (H:Hp):EX (aY (bh.cs F eX bz eP eY eZ)) aJ (bh.lh F eX bz eP eY eZ) F Try.f49 [(.agg [(.sl aa),(.int .i64 af)])] H=bh.twX F eX bz eP eY eZ aa af H:=by kernel_rfl
theorem bh.k:Ok Try.prog 49 (mk4 (bh.tw F)):=by
 intro args H v H' h
 unfold mk4 at h
 split at h
 ·exact okT (TB:=aJ) Try.func49 (aM (aX.k F) (aM (bg.k F) (aM (er.k F) (aM (aw.k F) (aM (bJ.k F) bB))))) (bh.loops F (aX.tw F) (bg.tw F) (er.tw F) (aw.tw F) (bJ.tw F)) ((bh.eqX F (aX.tw F) (bg.tw F) (er.tw F) (aw.tw F) (bJ.tw F) _ _ H).trans h) (by kernel_rfl)
 ·cases h
def eH.twX (F:Nat) (vG:ate) (vH:ate) (aa:Sl) (af:Int) (H:Hp):OA:=(Hp.new H [(.sl aa),(.int .i64 af)]).bind λH3=>(Hp.new H3 [.int .i64 0,.sl ⟨none,0,.ex 0⟩]).bind λH4=>(Hp.ldSl H4 H.length 0).bind λs5=>(Hp.ldI H4 .i64 H.length (0+1)).bind λn6=>(vG s5 n6 H4).bind λr7=>((r7.1).asI .i64).bind λn8=>(bif (n8 != 0) then ((Hp.st r7.2 H3.length 0 (.int .i64 0)).bind λH9=>(Hp.st H9 H3.length (0+1) (.sl (⟨none,0,.ex 0⟩:Sl))).bind λH10=>(Hp.ldI H10 .i64 H3.length 0).bind λn11=>(Hp.ldSl H10 H3.length (0+1)).bind λs12=>some ((.tup [(.agg [(.int .i64 n11),(.sl s12)]),(.int .i64 n8)]),H10)) else ((Hp.ldSl r7.2 H.length 0).bind λs13=>(Hp.ldI r7.2 .i64 H.length (0+1)).bind λn14=>(vH s13 n14 r7.2).bind λr15=>((r15.1).asAgg 2).bind λl16=>(l16[0]?).bind λv17=>((v17).asI .i64).bind λn18=>(l16[1]?).bind λv19=>((v19).asSl).bind λs20=>(Hp.st r15.2 H3.length 0 (.int .i64 n18)).bind λH21=>(Hp.st H21 H3.length (0+1) (.sl s20)).bind λH22=>(Hp.ldI H22 .i64 H3.length 0).bind λn23=>(Hp.ldSl H22 H3.length (0+1)).bind λs24=>some ((.tup [(.agg [(.int .i64 n23),(.sl s24)]),(.int .i64 0)]),H22)))
def eH.tw:=eH.twX F (eM.tw F) (bh.tw F)
def eH.cs (F:Nat) (vG:ate) (vH:ate):Cs:=[(32,mk4 vG),(49,mk4 vH)]
theorem eH.eqX (vG:ate) (vH:ate) (aa:Sl) (af:Int) (H:Hp):EX (aY (eH.cs F vG vH)) aJ lh0 F Try.f21 [(.agg [(.sl aa),(.int .i64 af)])] H=eH.twX F vG vH aa af H:=by kernel_rfl
theorem eH.k:Ok Try.prog 21 (mk4 (eH.tw F)):=by
 intro args H v H' h
 unfold mk4 at h
 split at h
 ·exact okT (TB:=aJ) Try.func21 (aM (eM.k F) (aM (bh.k F) bB)) ae.no ((eH.eqX F (eM.tw F) (bh.tw F) _ _ H).trans h) (by kernel_rfl)
 ·cases h
def bp.j3 (F:Nat) (da:ath) (C61_:auj) (vI:Int) (CZ:Nat) (aiW:Nat) (vJ:Int) (vK:Int) (aiX:Sl) (vL:Int) (vM:Int) (H82:Hp):OA:=C61_ vI CZ aiW (wrap .i64 (vJ+vK)) aiX vL (wrap .i64 (vM+1)) H82
def bp.l61 (F:Nat) (da:ath) :Nat->Int->Nat->Nat->Int->Sl->Int->Int->Hp->OA
 | 0,_,_,_,_,_,_,_,_=>none
 | bF+1,fc,dS,gg,jE,xC,jF,gM,H22=>(bif (decide (gM<jF)) then ((Sl.idx xC gM 1).bind λp63=>(Hp.ldI H22 .i64 p63.1 p63.2).bind λn64=>(Hp.ldI H22 .i64 dS gg).bind λn65=>(bif ((Int.tmod (wrap .i64 (n65+gM)) 2) != 0) then (bp.j3 F da (bp.l61 F da bF) fc dS gg jE (wrap .i64 (n64 * fc)) xC jF gM H22) else (bp.j3 F da (bp.l61 F da bF) fc dS gg jE n64 xC jF gM H22))) else (some ((.tup [(.int .i64 jE),(.bool true)]),H22)))
termination_by structural n=>n
def bp.twX (da:ath) (aa:Int) (af:Sl) (au:Int) (H:Hp):OA:=(Hp.new H [(.int .i64 aa),(.sl af)]).bind λH4=>(Hp.ldI H4 .i64 H.length 0).bind λn5=>(Hp.ldSl H4 H.length (0+1)).bind λs6=>(da n5 s6 H4).bind λr7=>((r7.1).asB).bind λb8=>(bif (!b8) then (some ((.tup [(.int .i64 0),(.bool false)]),r7.2)) else ((bif (au != 1) then ((bif (au != (-1)) then (some ((.tup [(.int .i64 0),(.bool false)]),r7.2)) else ((Hp.ldSl r7.2 H.length 1).bind λs9=>bp.l61 F da F au H.length 0 0 s9 (s9.n:Int) 0 r7.2))) else ((Hp.ldSl r7.2 H.length 1).bind λs83=>bp.l61 F da F au H.length 0 0 s83 (s83.n:Int) 0 r7.2))))
def bp.tw:=bp.twX F (cP.tw F)
def bp.lh61 (da:ath) (ks:atj) (n:Nat) (tm:Tm) (H:Hp):OA:=match ks,tm 1,tm 2,tm 6,tm 21,tm 22,tm 23 with
 | [],(.int .i64 fc),(.ptr dS gg),(.int .i64 jE),(.sl xC),(.int .i64 jF),(.int .i64 gM)=>bp.l61 F da n fc dS gg jE xC jF gM H
 | _,_,_,_,_,_,_=>none
def bp.lh (da:ath) (p:Nat) (ks:atj) (n:Nat) (tm:Tm) (H:Hp):OA:=bif p.beq 61 then bp.lh61 F da ks n tm H else (none)
def bp.cs (F:Nat) (da:ath):Cs:=[(86,mk10 da)]
theorem bp.loops (da:ath):LO (aY (bp.cs F da)) aJ (bp.lh F da) F Try.f47:=
 (ae.rt (ae.rt (ae.rt (ae.lt (ae.rt (ae.block (ae.la (λn tm H r h=>by change bp.lh61 F da [] n tm H=_ at h;unfold bp.lh61 at h;split at h;have e:bL tm [(1,_),(2,_),(6,_),(21,_),(22,_),(23,_)]:=⟨‹_›,‹_›,‹_›,‹_›,‹_›,‹_›,trivial⟩;obtain _ | k61:=n;cases h;exact ⟨_,rfl,by rw [<- bN e];exact Eq.trans (by kernel_rfl) h⟩;cases h) λk61=>ae.no)))))))
theorem bp.eqX (da:ath) (aa:Int) (af:Sl) (au:Int) (H:Hp):EX (aY (bp.cs F da)) aJ (bp.lh F da) F Try.f47 [(.agg [(.int .i64 aa),(.sl af)]),(.int .i64 au)] H=bp.twX F da aa af au H:=by kernel_rfl
theorem bp.k:Ok Try.prog 47 (mk11 (bp.tw F)):=by
 intro args H v H' h
 unfold mk11 at h
 split at h
 ·exact okT (TB:=aJ) Try.func47 (aM (cP.k F) bB) (bp.loops F (cP.tw F)) ((bp.eqX F (cP.tw F) _ _ _ H).trans h) (by kernel_rfl)
 ·cases h
def eJ.twX (F:Nat) (vN:ate) (vO:atH) (dt:atm) (aa:Sl) (af:Int) (H:Hp):OA:=(Hp.new H [(.sl aa),(.int .i64 af)]).bind λH3=>(Hp.ldSl H3 H.length 0).bind λs4=>(Hp.ldI H3 .i64 H.length (0+1)).bind λn5=>(vN s4 n5 H3).bind λr6=>((r6.1).asTup 2).bind λl7=>(l7[0]?).bind λv8=>((v8).asAgg 2).bind λl9=>(l9[0]?).bind λv10=>((v10).asI .i64).bind λn11=>(l9[1]?).bind λv12=>((v12).asSl).bind λs13=>(l7[1]?).bind λv14=>((v14).asI .i64).bind λn15=>(Hp.new r6.2 [.int .i64 0,.sl ⟨none,0,.ex 0⟩]).bind λH16=>(Hp.st H16 r6.2.length 0 (.int .i64 n11)).bind λH17=>(Hp.st H17 r6.2.length (0+1) (.sl s13)).bind λH18=>(bif (n15 != 0) then (some ((.tup [(.int .i64 0),(.int .i64 n15)]),H18)) else ((Hp.ldI H18 .i64 r6.2.length 0).bind λn19=>(Hp.ldSl H18 r6.2.length (0+1)).bind λs20=>(vO n19 s20 (-1) H18).bind λr21=>((r21.1).asTup 2).bind λl22=>(l22[0]?).bind λv23=>((v23).asI .i64).bind λn24=>(l22[1]?).bind λv25=>((v25).asB).bind λb26=>(dt n24 r21.2).bind λr27=>((r27.1).asI .i64).bind λn28=>some ((.tup [(.int .i64 n28),(.int .i64 0)]),r27.2)))
def eJ.tw:=eJ.twX F (eH.tw F) (bp.tw F) (dg.tw F)
def eJ.cs (F:Nat) (vN:ate) (vO:atH) (dt:atm):Cs:=[(21,mk4 vN),(47,mk11 vO),(35,mk12 dt)]
theorem eJ.eqX (vN:ate) (vO:atH) (dt:atm) (aa:Sl) (af:Int) (H:Hp):EX (aY (eJ.cs F vN vO dt)) aJ lh0 F Try.f19 [(.agg [(.sl aa),(.int .i64 af)])] H=eJ.twX F vN vO dt aa af H:=by kernel_rfl
theorem eJ.k:Ok Try.prog 19 (mk4 (eJ.tw F)):=by
 intro args H v H' h
 unfold mk4 at h
 split at h
 ·exact okT (TB:=aJ) Try.func19 (aM (eH.k F) (aM (bp.k F) (aM (dg.k F) bB))) ae.no ((eJ.eqX F (eH.tw F) (bp.tw F) (dg.tw F) _ _ H).trans h) (by kernel_rfl)
 ·cases h
def fo.twX (F:Nat) (aa:Int) (af:Int) (bW:Int) (bX:Int) (bR:Int) (cE:Int) (lj:Int) (ll:Int) (lm:Int) (lq:Int) (H:Hp):OA:=(Hp.new H [(.int .i64 aa),(.int .i64 af),(.int .i64 bW),(.int .i64 bX),(.int .i64 bR)]).bind λH11=>(Hp.new H11 [(.int .i64 cE),(.int .i64 lj),(.int .i64 ll),(.int .i64 lm),(.int .i64 lq)]).bind λH12=>(Hp.ldI H12 .i64 H.length 0).bind λn13=>(Hp.ldI H12 .i64 H11.length 0).bind λn14=>(bif (n13 != n14) then (some ((.bool false),H12)) else ((Hp.ldI H12 .i64 H.length 1).bind λn15=>(Hp.ldI H12 .i64 H11.length 1).bind λn16=>(bif (n15 != n16) then (some ((.bool false),H12)) else ((Hp.ldI H12 .i64 H.length 2).bind λn17=>(Hp.ldI H12 .i64 H11.length 2).bind λn18=>(bif (n17 != n18) then (some ((.bool false),H12)) else ((Hp.ldI H12 .i64 H.length 3).bind λn19=>(Hp.ldI H12 .i64 H11.length 3).bind λn20=>(bif (n19 != n20) then (some ((.bool false),H12)) else ((Hp.ldI H12 .i64 H.length 4).bind λn21=>(Hp.ldI H12 .i64 H11.length 4).bind λn22=>(bif (n21 != n22) then (some ((.bool false),H12)) else (some ((.bool true),H12)))))))))))
def fo.tw:=fo.twX F
def mk21 (g:atM) (args:att) (H:Hp):OA:=match args with
 | [(.agg [(.int .i64 aa),(.int .i64 af),(.int .i64 bW),(.int .i64 bX),(.int .i64 bR)]),(.agg [(.int .i64 cE),(.int .i64 lj),(.int .i64 ll),(.int .i64 lm),(.int .i64 lq)])]=>g aa af bW bX bR cE lj ll lm lq H
 | _=>none
theorem mk21_E (g:atM) (aa:Int) (af:Int) (bW:Int) (bX:Int) (bR:Int) (cE:Int) (lj:Int) (ll:Int) (lm:Int) (lq:Int) (H:Hp):mk21 g [(.agg [(.int .i64 aa),(.int .i64 af),(.int .i64 bW),(.int .i64 bX),(.int .i64 bR)]),(.agg [(.int .i64 cE),(.int .i64 lj),(.int .i64 ll),(.int .i64 lm),(.int .i64 lq)])] H=g aa af bW bX bR cE lj ll lm lq H:=rfl
theorem fo.k:Ok Try.prog 76 (mk21 (fo.tw F)):=by
 intro args H v H' h
 unfold mk21 at h
 split at h
 ·exact ok0 Try.func76 (Eq.trans (by kernel_rfl) h) (by kernel_rfl) (by kernel_rfl)
 ·cases h
def bV.l29 (F:Nat) (gk:atM) :Nat->Sl->Sl->Int->Hp->OA
 | 0,_,_,_,_=>none
 | gW+1,kj,C_,iA,H8=>(bif (decide (iA<(kj.n:Int))) then ((Sl.idx kj iA 5).bind λp23=>(Hp.ldI H8 .i64 p23.1 p23.2).bind λn24=>(Hp.ldI H8 .i64 p23.1 (p23.2+1)).bind λn25=>(Hp.ldI H8 .i64 p23.1 (p23.2+2)).bind λn26=>(Hp.ldI H8 .i64 p23.1 (p23.2+3)).bind λn27=>(Hp.ldI H8 .i64 p23.1 (p23.2+4)).bind λn28=>(Sl.idx C_ iA 5).bind λp29=>(Hp.ldI H8 .i64 p29.1 p29.2).bind λn30=>(Hp.ldI H8 .i64 p29.1 (p29.2+1)).bind λn31=>(Hp.ldI H8 .i64 p29.1 (p29.2+2)).bind λn32=>(Hp.ldI H8 .i64 p29.1 (p29.2+3)).bind λn33=>(Hp.ldI H8 .i64 p29.1 (p29.2+4)).bind λn34=>(gk n24 n25 n26 n27 n28 n30 n31 n32 n33 n34 H8).bind λr35=>((r35.1).asB).bind λb36=>(bif (!b36) then (some ((.bool false),r35.2)) else (bV.l29 F gk gW kj C_ (wrap .i64 (iA+1)) r35.2))) else (some ((.bool true),H8)))
def bV.twX (gk:atM) (aa:Sl) (aA:Sl) (H:Hp):OA:=(bif ((aa.n:Int) != (aA.n:Int)) then (some ((.bool false),H)) else (bV.l29 F gk F aa aA 0 H))
def bV.tw:=bV.twX F (fo.tw F)
def bV.lh29 (gk:atM) (ks:atj) (n:Nat) (tm:Tm) (H:Hp):OA:=match ks,tm 0,tm 1,tm 5 with
 | [],(.sl kj),(.sl C_),(.int .i64 iA)=>bV.l29 F gk n kj C_ iA H
 | _,_,_,_=>none
def bV.lh (gk:atM) (p:Nat) (ks:atj) (n:Nat) (tm:Tm) (H:Hp):OA:=bif p.beq 29 then bV.lh29 F gk ks n tm H else (none)
def bV.pn:Nat->List Nat:=cR [(6,[8])]
def bV.tb:Nat->List (List Nat):=cR [(6,[[],[],[0,1],[0,1,2],[],[],[4,5],[4,5,6],[0,1,2,3,4,5,6,7],[0,1,2,3,4,5,6,7,8]])]
def mk22 (g:aub) (args:att) (H:Hp):OA:=match args with
 | [(.sl aa),(.sl aA)]=>g aa aA H
 | _=>none
theorem mk22_E (g:aub) (aa:Sl) (aA:Sl) (H:Hp):mk22 g [(.sl aa),(.sl aA)] H=g aa aA H:=rfl
def bV.cs (F:Nat) (gk:atM):Cs:=[(76,mk21 gk)]
theorem bV.loops (gk:atM):LO (aY (bV.cs F gk)) bV.pn (bV.lh F gk) F Try.f38:=
 (ae.rt (ae.rt (ae.lt (ae.rt (ae.block (ae.la (λn tm H r h=>by change bV.lh29 F gk [] n tm H=_ at h;unfold bV.lh29 at h;split at h;have e:bL tm [(0,_),(1,_),(5,_)]:=⟨‹_›,‹_›,‹_›,trivial⟩;obtain _ | k29:=n;cases h;exact ⟨_,rfl,by rw [<- bN e];exact Eq.trans (by kernel_rfl) h⟩;cases h) λk29=>ae.no))))))
theorem bV.eqX (gk:atM) (aa:Sl) (aA:Sl) (H:Hp):EX (aY (bV.cs F gk)) bV.pn (bV.lh F gk) F Try.f38 [(.sl aa),(.sl aA)] H=bV.twX F gk aa aA H:=by kernel_rfl
theorem bV.k:Ok Try.prog 38 (mk22 (bV.tw F)):=by
 intro args H v H' h
 unfold mk22 at h
 split at h
 ·exact okT (TB:=bV.tb) Try.func38 (aM (fo.k F) bB) (bV.loops F (fo.tw F)) ((bV.eqX F (fo.tw F) _ _ H).trans h) (by kernel_rfl)
 ·cases h
def eK.twX (F:Nat) (vP:aub) (aa:Sl) (af:Int) (au:Sl) (bv:Int) (H:Hp):OA:=(Hp.new H [(.sl aa),(.int .i64 af)]).bind λH5=>(Hp.new H5 [(.sl au),(.int .i64 bv)]).bind λH6=>(Hp.ldSl H6 H.length 0).bind λs7=>(Hp.ldSl H6 H5.length 0).bind λs8=>(vP s7 s8 H6).bind λr9=>((r9.1).asB).bind λb10=>(bif (!b10) then (some ((.bool false),r9.2)) else ((Hp.ldI r9.2 .i64 H.length 1).bind λn11=>(Hp.ldI r9.2 .i64 H5.length 1).bind λn12=>(bif (n11 != n12) then (some ((.bool false),r9.2)) else (some ((.bool true),r9.2)))))
def eK.tw:=eK.twX F (bV.tw F)
def mk23 (g:atG) (args:att) (H:Hp):OA:=match args with
 | [(.agg [(.sl aa),(.int .i64 af)]),(.agg [(.sl au),(.int .i64 bv)])]=>g aa af au bv H
 | _=>none
theorem mk23_E (g:atG) (aa:Sl) (af:Int) (au:Sl) (bv:Int) (H:Hp):mk23 g [(.agg [(.sl aa),(.int .i64 af)]),(.agg [(.sl au),(.int .i64 bv)])] H=g aa af au bv H:=rfl
def eK.cs (F:Nat) (vP:aub):Cs:=[(38,mk22 vP)]
theorem eK.eqX (vP:aub) (aa:Sl) (af:Int) (au:Sl) (bv:Int) (H:Hp):EX (aY (eK.cs F vP)) aJ lh0 F Try.f11 [(.agg [(.sl aa),(.int .i64 af)]),(.agg [(.sl au),(.int .i64 bv)])] H=eK.twX F vP aa af au bv H:=by kernel_rfl
theorem eK.k:Ok Try.prog 11 (mk23 (eK.tw F)):=by
 intro args H v H' h
 unfold mk23 at h
 split at h
 ·exact okT (TB:=aJ) Try.func11 (aM (bV.k F) bB) ae.no ((eK.eqX F (bV.tw F) _ _ _ _ H).trans h) (by kernel_rfl)
 ·cases h
def dM.twX (F:Nat) (vQ:atr) (oD:ate) (vR:ate) (vS:ate) (vT:atG) (aa:Sl) (af:Int) (H:Hp):OA:=(Hp.new H [(.sl aa),(.int .i64 af)]).bind λH3=>(Hp.ldSl H3 H.length 0).bind λs4=>(Hp.ldI H3 .i64 H.length (0+1)).bind λn5=>(vQ s4 n5 1048576 H3).bind λr6=>((r6.1).asI .i64).bind λn7=>(bif (decide (n7<0)) then (some ((.bool true),r6.2)) else ((Hp.ldSl r6.2 H.length 0).bind λs8=>(Hp.ldI r6.2 .i64 H.length (0+1)).bind λn9=>(oD s8 n9 r6.2).bind λr10=>((r10.1).asAgg 2).bind λl11=>(l11[0]?).bind λv12=>((v12).asSl).bind λs13=>(l11[1]?).bind λv14=>((v14).asI .i64).bind λn15=>(vR s13 n15 r10.2).bind λr16=>((r16.1).asTup 2).bind λl17=>(l17[0]?).bind λv18=>((v18).asI .i64).bind λn19=>(l17[1]?).bind λv20=>((v20).asI .i64).bind λn21=>(Hp.ldSl r16.2 H.length 0).bind λs22=>(Hp.ldI r16.2 .i64 H.length (0+1)).bind λn23=>(oD s22 n23 r16.2).bind λr24=>((r24.1).asAgg 2).bind λl25=>(l25[0]?).bind λv26=>((v26).asSl).bind λs27=>(l25[1]?).bind λv28=>((v28).asI .i64).bind λn29=>(Hp.new r24.2 [.sl ⟨none,0,.ex 0⟩,.int .i64 0]).bind λH30=>(Hp.st H30 r24.2.length 0 (.sl s27)).bind λH31=>(Hp.st H31 r24.2.length (0+1) (.int .i64 n29)).bind λH32=>(Hp.ldSl H32 r24.2.length 0).bind λs33=>(Hp.ldI H32 .i64 r24.2.length (0+1)).bind λn34=>(vS s33 n34 H32).bind λr35=>((r35.1).asTup 2).bind λl36=>(l36[0]?).bind λv37=>((v37).asI .i64).bind λn38=>(l36[1]?).bind λv39=>((v39).asI .i64).bind λn40=>(bif (n38 != n19) then (some ((.bool false),r35.2)) else ((bif (n40 != n21) then (some ((.bool false),r35.2)) else ((Hp.ldSl r35.2 r24.2.length 0).bind λs41=>(Hp.ldI r35.2 .i64 r24.2.length (0+1)).bind λn42=>(Hp.ldSl r35.2 H.length 0).bind λs43=>(Hp.ldI r35.2 .i64 H.length (0+1)).bind λn44=>(oD s43 n44 r35.2).bind λr45=>((r45.1).asAgg 2).bind λl46=>(l46[0]?).bind λv47=>((v47).asSl).bind λs48=>(l46[1]?).bind λv49=>((v49).asI .i64).bind λn50=>(if aZ r35.2 r45.2 then ((vT s41 n42 s48 n50 r45.2).bind λr51=>((r51.1).asB).bind λb52=>(bif (!b52) then (some ((.bool false),r51.2)) else (some ((.bool true),r51.2)))) else none)))))))
def dM.tw:=dM.twX F (d_.tw F) (dN.tw F) (eD.tw F) (eJ.tw F) (eK.tw F)
def dM.pn:Nat->List Nat:=cR [(10,[3])]
def dM.tb:Nat->List (List Nat):=cR [(10,[[],[],[1],[0,1,2],[0,1,2,3]])]
def dM.cs (F:Nat) (vQ:atr) (oD:ate) (vR:ate) (vS:ate) (vT:atG):Cs:=[(7,mk1 vQ),(9,mk4 oD),(18,mk4 vR),(19,mk4 vS),(11,mk23 vT)]
theorem dM.eqX (vQ:atr) (oD:ate) (vR:ate) (vS:ate) (vT:atG) (aa:Sl) (af:Int) (H:Hp):EX (aY (dM.cs F vQ oD vR vS vT)) dM.pn lh0 F Try.f5 [(.agg [(.sl aa),(.int .i64 af)])] H=dM.twX F vQ oD vR vS vT aa af H:=by kernel_rfl
theorem dM.k:Ok Try.prog 5 (mk4 (dM.tw F)):=by
 intro args H v H' h
 unfold mk4 at h
 split at h
 ·exact okT (TB:=dM.tb) Try.func5 (aM (d_.k F) (aM (dN.k F) (aM (eD.k F) (aM (eJ.k F) (aM (eK.k F) bB))))) ae.no ((dM.eqX F (d_.tw F) (dN.tw F) (eD.tw F) (eJ.tw F) (eK.tw F) _ _ H).trans h) (by kernel_rfl)
 ·cases h
theorem dM.T {F:Nat} {aa:Sl} {af:Int} {H:Hp} {v:AV} {H':Hp} (h:dM.tw F aa af H=some (v,H')):Go.AE.T Try.prog 5 [(.agg [(.sl aa),(.int .i64 af)])] H v H':=dM.k F _ _ _ _ ((mk4_E (dM.tw F) aa af H).trans h)
end
end Go.Proofs.Ytppbogklbhfboaa.AE
