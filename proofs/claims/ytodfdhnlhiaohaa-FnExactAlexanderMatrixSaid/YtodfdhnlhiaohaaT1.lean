import Derived.Test.YtodfdhnlhiaohaaTab1
import Derived.Test.YtodfdhnlhiaohaaE2
set_option linter.unusedVariables false
set_option linter.unusedSimpArgs false
namespace Go.Proofs.Ytodfdhnlhiaohaa.AE
open Go Go.AE Go.Proofs Go.RowKit Go.Maps IntKind
variable (F:Nat)
set_option linter.unusedVariables false
set_option maxHeartbeats 4000000
set_option maxRecDepth 100000
noncomputable section
def eX.twX (F:Nat) (ac:Sl) (aq:Int) (H:Hp):OA:=(bif (decide ((wrap .i64 (aq - (ac.n:Int)))<0)) then (some ((.int .i64 (-1)),H)) else (some ((.int .i64 (wrap .i64 (aq - (ac.n:Int)))),H)))
def eX.tw:=eX.twX F
def mk0 (g:abQ) (args:ab0) (H:Hp):OA:=match args with
 | [(.sl ac),(.int .i64 aq)]=>g ac aq H
 | _=>none
theorem mk0_E (g:abQ) (ac:Sl) (aq:Int) (H:Hp):mk0 g [(.sl ac),(.int .i64 aq)] H=g ac aq H:=rfl
theorem eX.k:Ok Try.prog 58 (mk0 (eX.tw F)):=by
 intro args H v H' h
 unfold mk0 at h
 split at h
 ·exact ok0 Try.func58 (Eq.trans (by kernel_rfl) h) (by kernel_rfl) (by kernel_rfl)
 ·cases h
def dV.twX (F:Nat) (oZ:abQ) (ac:Sl) (ag:Int) (ay:Int) (H:Hp):OA:=(Hp.new H [(.sl ac),(.int .i64 ag)]).bind λH4=>(Hp.ldSl H4 H.length 0).bind λs5=>(oZ s5 ay H4).bind λr6=>((r6.1).asI .i64).bind λn7=>(bif (decide (n7<0)) then (some ((.int .i64 (-1)),r6.2)) else (some ((.int .i64 n7),r6.2)))
def dV.tw:=dV.twX F (eX.tw F)
def mk1 (g:abY) (args:ab0) (H:Hp):OA:=match args with
 | [(.agg [(.sl ac),(.int .i64 ag)]),(.int .i64 ay)]=>g ac ag ay H
 | _=>none
theorem mk1_E (g:abY) (ac:Sl) (ag:Int) (ay:Int) (H:Hp):mk1 g [(.agg [(.sl ac),(.int .i64 ag)]),(.int .i64 ay)] H=g ac ag ay H:=rfl
def dV.cs (F:Nat) (oZ:abQ):Cs:=[(58,mk0 oZ)]
theorem dV.eqX (oZ:abQ) (ac:Sl) (ag:Int) (ay:Int) (H:Hp):EX (aT (dV.cs F oZ)) aC lh0 F Try.f11 [(.agg [(.sl ac),(.int .i64 ag)]),(.int .i64 ay)] H=dV.twX F oZ ac ag ay H:=by kernel_rfl
theorem dV.k:Ok Try.prog 11 (mk1 (dV.tw F)):=by
 intro args H v H' h
 unfold mk1 at h
 split at h
 ·exact okT (TB:=aC) Try.func11 (aU (eX.k F) bo) ae.no ((dV.eqX F (eX.tw F) _ _ _ H).trans h) (by kernel_rfl)
 ·cases h
def eR.twX (F:Nat) (ac:Int) (ag:Int) (bG:Int) (bH:Int) (bz:Int) (H:Hp):OA:=(Hp.new H [(.int .i64 ac),(.int .i64 ag),(.int .i64 bG),(.int .i64 bH),(.int .i64 bz)]).bind λH6=>(Hp.new H6 [.int .i64 0,.int .i64 0,.int .i64 0,.int .i64 0,.int .i64 0]).bind λH7=>(Hp.new H7 [.int .i64 0,.int .i64 0,.int .i64 0,.int .i64 0,.int .i64 0]).bind λH8=>(Hp.ldI H8 .i64 H.length 0).bind λn9=>(Hp.st H8 H7.length 0 (.int .i64 n9)).bind λH10=>(Hp.ldI H10 .i64 H.length 1).bind λn11=>(Hp.st H10 H7.length 1 (.int .i64 n11)).bind λH12=>(Hp.ldI H12 .i64 H.length 2).bind λn13=>(Hp.st H12 H7.length 2 (.int .i64 n13)).bind λH14=>(Hp.ldI H14 .i64 H.length 3).bind λn15=>(Hp.st H14 H7.length 3 (.int .i64 n15)).bind λH16=>(Hp.ldI H16 .i64 H.length 4).bind λn17=>(Hp.st H16 H7.length 4 (.int .i64 n17)).bind λH18=>(Hp.ldI H18 .i64 H7.length 0).bind λn19=>(Hp.ldI H18 .i64 H7.length (0+1)).bind λn20=>(Hp.ldI H18 .i64 H7.length (0+2)).bind λn21=>(Hp.ldI H18 .i64 H7.length (0+3)).bind λn22=>(Hp.ldI H18 .i64 H7.length (0+4)).bind λn23=>(Hp.st H18 H6.length 0 (.int .i64 n19)).bind λH24=>(Hp.st H24 H6.length (0+1) (.int .i64 n20)).bind λH25=>(Hp.st H25 H6.length (0+1+1) (.int .i64 n21)).bind λH26=>(Hp.st H26 H6.length (0+1+1+1) (.int .i64 n22)).bind λH27=>(Hp.st H27 H6.length (0+1+1+1+1) (.int .i64 n23)).bind λH28=>(Hp.ldI H28 .i64 H6.length 0).bind λn29=>(Hp.ldI H28 .i64 H6.length (0+1)).bind λn30=>(Hp.ldI H28 .i64 H6.length (0+2)).bind λn31=>(Hp.ldI H28 .i64 H6.length (0+3)).bind λn32=>(Hp.ldI H28 .i64 H6.length (0+4)).bind λn33=>some ((.agg [(.int .i64 n29),(.int .i64 n30),(.int .i64 n31),(.int .i64 n32),(.int .i64 n33)]),H28)
def eR.tw:=eR.twX F
def mk2 (g:ab4) (args:ab0) (H:Hp):OA:=match args with
 | [(.agg [(.int .i64 ac),(.int .i64 ag),(.int .i64 bG),(.int .i64 bH),(.int .i64 bz)])]=>g ac ag bG bH bz H
 | _=>none
theorem mk2_E (g:ab4) (ac:Int) (ag:Int) (bG:Int) (bH:Int) (bz:Int) (H:Hp):mk2 g [(.agg [(.int .i64 ac),(.int .i64 ag),(.int .i64 bG),(.int .i64 bH),(.int .i64 bz)])] H=g ac ag bG bH bz H:=rfl
theorem eR.k:Ok Try.prog 127 (mk2 (eR.tw F)):=by
 intro args H v H' h
 unfold mk2 at h
 split at h
 ·exact ok0 Try.func127 (Eq.trans (by kernel_rfl) h) (by kernel_rfl) (by kernel_rfl)
 ·cases h
def bM.l29 (F:Nat) (fF:ab4) :Nat->Sl->Sl->Int->Hp->OA
 | 0,_,_,_,_=>none
 | fh+1,bh,sQ,er,H7=>(bif (decide (er<(bh.n:Int))) then ((Sl.idx bh er 5).bind λp32=>(Hp.ldI H7 .i64 p32.1 p32.2).bind λn33=>(Hp.ldI H7 .i64 p32.1 (p32.2+1)).bind λn34=>(Hp.ldI H7 .i64 p32.1 (p32.2+2)).bind λn35=>(Hp.ldI H7 .i64 p32.1 (p32.2+3)).bind λn36=>(Hp.ldI H7 .i64 p32.1 (p32.2+4)).bind λn37=>(fF n33 n34 n35 n36 n37 H7).bind λr38=>((r38.1).asAgg 5).bind λl39=>(l39[0]?).bind λv40=>((v40).asI .i64).bind λn41=>(l39[1]?).bind λv42=>((v42).asI .i64).bind λn43=>(l39[2]?).bind λv44=>((v44).asI .i64).bind λn45=>(l39[3]?).bind λv46=>((v46).asI .i64).bind λn47=>(l39[4]?).bind λv48=>((v48).asI .i64).bind λn49=>(Sl.idx sQ er 5).bind λp50=>(Hp.st r38.2 p50.1 p50.2 (.int .i64 n41)).bind λH51=>(Hp.st H51 p50.1 (p50.2+1) (.int .i64 n43)).bind λH52=>(Hp.st H52 p50.1 (p50.2+1+1) (.int .i64 n45)).bind λH53=>(Hp.st H53 p50.1 (p50.2+1+1+1) (.int .i64 n47)).bind λH54=>(Hp.st H54 p50.1 (p50.2+1+1+1+1) (.int .i64 n49)).bind λH55=>bM.l29 F fF fh bh sQ (wrap .i64 (er+1)) H55) else (some ((.sl sQ),H7)))
def bM.twX (fF:ab4) (ac:Sl) (H:Hp):OA:=(Hp.mk H [.int .i64 0,.int .i64 0,.int .i64 0,.int .i64 0,.int .i64 0] 40 (ac.n:Int) (ac.n:Int)).bind λm2=>bM.l29 F fF F ac m2.1 0 m2.2
def bM.tw:=bM.twX F (eR.tw F)
def bM.lh29 (fF:ab4) (ks:abT) (n:Nat) (tm:Tm) (H:Hp):OA:=match ks,tm 0,tm 3,tm 4 with
 | [],(.sl bh),(.sl sQ),(.int .i64 er)=>bM.l29 F fF n bh sQ er H
 | _,_,_,_=>none
def bM.lh (fF:ab4) (p:Nat) (ks:abT) (n:Nat) (tm:Tm) (H:Hp):OA:=bif p.beq 29 then bM.lh29 F fF ks n tm H else (none)
def mk3 (g:abS) (args:ab0) (H:Hp):OA:=match args with
 | [(.sl ac)]=>g ac H
 | _=>none
theorem mk3_E (g:abS) (ac:Sl) (H:Hp):mk3 g [(.sl ac)] H=g ac H:=rfl
def bM.cs (F:Nat) (fF:ab4):Cs:=[(127,mk2 fF)]
theorem bM.loops (fF:ab4):LO (aT (bM.cs F fF)) aC (bM.lh F fF) F Try.f62:=
 (ae.rt (ae.rt (ae.lt (ae.rt (ae.block (ae.la (λn tm H r h=>by change bM.lh29 F fF [] n tm H=_ at h;unfold bM.lh29 at h;split at h;have e:bF tm [(0,_),(3,_),(4,_)]:=⟨‹_›,‹_›,‹_›,trivial⟩;obtain _ | k29:=n;cases h;exact ⟨_,rfl,by rw [<- bI e];exact Eq.trans (by kernel_rfl) h⟩;cases h) λk29=>ae.no))))))
theorem bM.eqX (fF:ab4) (ac:Sl) (H:Hp):EX (aT (bM.cs F fF)) aC (bM.lh F fF) F Try.f62 [(.sl ac)] H=bM.twX F fF ac H:=by kernel_rfl
theorem bM.k:Ok Try.prog 62 (mk3 (bM.tw F)):=by
 intro args H v H' h
 unfold mk3 at h
 split at h
 ·exact okT (TB:=aC) Try.func62 (aU (eR.k F) bo) (bM.loops F (eR.tw F)) ((bM.eqX F (eR.tw F) _ H).trans h) (by kernel_rfl)
 ·cases h
def dj.twX (F:Nat) (o_:abS) (ac:Sl) (ag:Int) (H:Hp):OA:=(Hp.new H [(.sl ac),(.int .i64 ag)]).bind λH3=>(Hp.new H3 [.sl ⟨none,0,.ex 0⟩,.int .i64 0]).bind λH4=>(Hp.new H4 [.sl ⟨none,0,.ex 0⟩,.int .i64 0]).bind λH5=>(Hp.ldSl H5 H.length 0).bind λs6=>(o_ s6 H5).bind λr7=>((r7.1).asSl).bind λs8=>(Hp.st r7.2 H4.length 0 (.sl s8)).bind λH9=>(Hp.ldI H9 .i64 H.length 1).bind λn10=>(Hp.st H9 H4.length 1 (.int .i64 n10)).bind λH11=>(Hp.ldSl H11 H4.length 0).bind λs12=>(Hp.ldI H11 .i64 H4.length (0+1)).bind λn13=>(Hp.st H11 H3.length 0 (.sl s12)).bind λH14=>(Hp.st H14 H3.length (0+1) (.int .i64 n13)).bind λH15=>(Hp.ldSl H15 H3.length 0).bind λs16=>(Hp.ldI H15 .i64 H3.length (0+1)).bind λn17=>some ((.agg [(.sl s16),(.int .i64 n17)]),H15)
def dj.tw:=dj.twX F (bM.tw F)
def mk4 (g:abQ) (args:ab0) (H:Hp):OA:=match args with
 | [(.agg [(.sl ac),(.int .i64 ag)])]=>g ac ag H
 | _=>none
theorem mk4_E (g:abQ) (ac:Sl) (ag:Int) (H:Hp):mk4 g [(.agg [(.sl ac),(.int .i64 ag)])] H=g ac ag H:=rfl
def dj.cs (F:Nat) (o_:abS):Cs:=[(62,mk3 o_)]
theorem dj.eqX (o_:abS) (ac:Sl) (ag:Int) (H:Hp):EX (aT (dj.cs F o_)) aC lh0 F Try.f13 [(.agg [(.sl ac),(.int .i64 ag)])] H=dj.twX F o_ ac ag H:=by kernel_rfl
theorem dj.k:Ok Try.prog 13 (mk4 (dj.tw F)):=by
 intro args H v H' h
 unfold mk4 at h
 split at h
 ·exact okT (TB:=aC) Try.func13 (aU (bM.k F) bo) ae.no ((dj.eqX F (bM.tw F) _ _ H).trans h) (by kernel_rfl)
 ·cases h
def dx.twX (F:Nat) (ac:Int) (aq:Int) (dy:Int) (H:Hp):OA:=(bif (decide (ac>=aq)) then (some ((.bool (decide (ac<=dy))),H)) else (some ((.bool false),H)))
def dx.tw:=dx.twX F
def mk5 (g:ab6) (args:ab0) (H:Hp):OA:=match args with
 | [(.int .i64 ac),(.int .i64 aq),(.int .i64 dy)]=>g ac aq dy H
 | _=>none
theorem mk5_E (g:ab6) (ac:Int) (aq:Int) (dy:Int) (H:Hp):mk5 g [(.int .i64 ac),(.int .i64 aq),(.int .i64 dy)] H=g ac aq dy H:=rfl
theorem dx.k:Ok Try.prog 106 (mk5 (dx.tw F)):=by
 intro args H v H' h
 unfold mk5 at h
 split at h
 ·exact ok0 Try.func106 (Eq.trans (by kernel_rfl) h) (by kernel_rfl) (by kernel_rfl)
 ·cases h
def cA.twX (F:Nat) (ac:Int) (ag:Int) (bG:Int) (bH:Int) (bz:Int) (cf:Int) (H:Hp):OA:=(Hp.new H [(.int .i64 ac),(.int .i64 ag),(.int .i64 bG),(.int .i64 bH),(.int .i64 bz)]).bind λH7=>(Hp.ldI H7 .i64 H.length 0).bind λn8=>(Hp.ldI H7 .i64 H.length 1).bind λn9=>(Hp.ldI H7 .i64 H.length 2).bind λn10=>(Hp.ldI H7 .i64 H.length 3).bind λn11=>(Hp.new H7 [(.int .i64 n8),(.int .i64 n9),(.int .i64 n10),(.int .i64 n11)]).bind λH12=>(Sl.idx (⟨some (H7.length,0),4,.ex 4⟩:Sl) cf 1).bind λp13=>(Hp.ldI H12 .i64 p13.1 p13.2).bind λn14=>some ((.int .i64 n14),H12)
def cA.tw:=cA.twX F
def mk6 (g:abW) (args:ab0) (H:Hp):OA:=match args with
 | [(.agg [(.int .i64 ac),(.int .i64 ag),(.int .i64 bG),(.int .i64 bH),(.int .i64 bz)]),(.int .i64 cf)]=>g ac ag bG bH bz cf H
 | _=>none
theorem mk6_E (g:abW) (ac:Int) (ag:Int) (bG:Int) (bH:Int) (bz:Int) (cf:Int) (H:Hp):mk6 g [(.agg [(.int .i64 ac),(.int .i64 ag),(.int .i64 bG),(.int .i64 bH),(.int .i64 bz)]),(.int .i64 cf)] H=g ac ag bG bH bz cf H:=rfl
theorem cA.k:Ok Try.prog 163 (mk6 (cA.tw F)):=by
 intro args H v H' h
 unfold mk6 at h
 split at h
 ·exact ok0 Try.func163 (Eq.trans (by kernel_rfl) h) (by kernel_rfl) (by kernel_rfl)
 ·cases h
def cB.twX (F:Nat) (ac:Int) (ag:Int) (bG:Int) (bH:Int) (bz:Int) (cf:Int) (H:Hp):OA:=(Hp.new H [(.int .i64 ac),(.int .i64 ag),(.int .i64 bG),(.int .i64 bH),(.int .i64 bz)]).bind λH7=>(bif (cf==0) then (some ((.bool true),H7)) else ((bif (cf==3) then ((Hp.ldI H7 .i64 H.length 4).bind λn8=>(bif (n8==1) then (some ((.bool true),H7)) else ((bif (cf==1) then ((Hp.ldI H7 .i64 H.length 4).bind λn9=>some ((.bool (n9==(-1))),H7)) else (some ((.bool false),H7)))))) else ((bif (cf==1) then ((Hp.ldI H7 .i64 H.length 4).bind λn10=>some ((.bool (n10==(-1))),H7)) else (some ((.bool false),H7)))))))
def cB.tw:=cB.twX F
theorem cB.k:Ok Try.prog 164 (mk6 (cB.tw F)):=by
 intro args H v H' h
 unfold mk6 at h
 split at h
 ·exact ok0 Try.func164 (Eq.trans (by kernel_rfl) h) (by kernel_rfl) (by kernel_rfl)
 ·cases h
def aW.l3927 (F:Nat) (bl:abW) (cG:ab6) (bm:abW) (C61_:acH):Nat->Nat->Nat->Int->Sl->Sl->Int->Nat->Nat->Int->Hp->OA
 | 0,_,_,_,_,_,_,_,_,_,_=>none
 | IY+1,kO,sS,gG,mY,mZ,fG,fH,hZ,f_,H126=>(bif (decide (f_<4)) then ((Hp.ldI H126 .i64 fH hZ).bind λn151=>(Hp.ldI H126 .i64 fH (hZ+1)).bind λn152=>(Hp.ldI H126 .i64 fH (hZ+2)).bind λn153=>(Hp.ldI H126 .i64 fH (hZ+3)).bind λn154=>(Hp.ldI H126 .i64 fH (hZ+4)).bind λn155=>(bl n151 n152 n153 n154 n155 f_ H126).bind λr156=>((r156.1).asI .i64).bind λn157=>(cG n157 0 (wrap .i64 (gG - 1)) r156.2).bind λr158=>((r158.1).asB).bind λb159=>(bif (!b159) then (some ((.bool false),r158.2)) else ((Hp.ldI r158.2 .i64 fH hZ).bind λn160=>(Hp.ldI r158.2 .i64 fH (hZ+1)).bind λn161=>(Hp.ldI r158.2 .i64 fH (hZ+2)).bind λn162=>(Hp.ldI r158.2 .i64 fH (hZ+3)).bind λn163=>(Hp.ldI r158.2 .i64 fH (hZ+4)).bind λn164=>(bm n160 n161 n162 n163 n164 f_ r158.2).bind λr165=>((r165.1).asB).bind λb166=>(bif b166 then ((Sl.idx mY n157 1).bind λp167=>(Hp.ldB r165.2 p167.1 p167.2).bind λb168=>(bif b168 then (some ((.bool false),r165.2)) else ((Sl.idx mY n157 1).bind λp169=>(Hp.st r165.2 p169.1 p169.2 (.bool true)).bind λH170=>aW.l3927 F bl cG bm C61_ IY kO sS gG mY mZ fG fH hZ (wrap .i64 (f_+1)) H170))) else ((Sl.idx mZ n157 1).bind λp171=>(Hp.ldB r165.2 p171.1 p171.2).bind λb172=>(bif b172 then (some ((.bool false),r165.2)) else ((Sl.idx mZ n157 1).bind λp173=>(Hp.st r165.2 p173.1 p173.2 (.bool true)).bind λH174=>aW.l3927 F bl cG bm C61_ IY kO sS gG mY mZ fG fH hZ (wrap .i64 (f_+1)) H174))))))) else (C61_ kO sS gG mY mZ (wrap .i64 (fG+1)) H126))
termination_by structural n=>n
def aW.l61 (F:Nat) (bl:abW) (cG:ab6) (bm:abW) :Nat->Nat->Nat->Int->Sl->Sl->Int->Hp->OA
 | 0,_,_,_,_,_,_,_=>none
 | bY+1,fi,jo,ga,jp,eN,gH,H16=>(Hp.ldSl H16 fi jo).bind λs96=>(bif (decide (gH<(s96.n:Int))) then ((Hp.ldSl H16 fi jo).bind λs97=>(Sl.idx s97 gH 5).bind λp98=>(Hp.ldI H16 .i64 p98.1 p98.2).bind λn99=>(Hp.ldI H16 .i64 p98.1 (p98.2+1)).bind λn100=>(Hp.ldI H16 .i64 p98.1 (p98.2+2)).bind λn101=>(Hp.ldI H16 .i64 p98.1 (p98.2+3)).bind λn102=>(Hp.ldI H16 .i64 p98.1 (p98.2+4)).bind λn103=>(Hp.new H16 [.int .i64 0,.int .i64 0,.int .i64 0,.int .i64 0,.int .i64 0]).bind λH104=>(Hp.st H104 H16.length 0 (.int .i64 n99)).bind λH105=>(Hp.st H105 H16.length (0+1) (.int .i64 n100)).bind λH106=>(Hp.st H106 H16.length (0+1+1) (.int .i64 n101)).bind λH107=>(Hp.st H107 H16.length (0+1+1+1) (.int .i64 n102)).bind λH108=>(Hp.st H108 H16.length (0+1+1+1+1) (.int .i64 n103)).bind λH109=>(Hp.ldI H109 .i64 H16.length 4).bind λn110=>(bif (n110 != 1) then ((Hp.ldI H109 .i64 H16.length 4).bind λn111=>(bif (n111 != (-1)) then (some ((.bool false),H109)) else (aW.l3927 F bl cG bm (aW.l61 F bl cG bm bY) F fi jo ga jp eN gH H16.length 0 0 H109))) else (aW.l3927 F bl cG bm (aW.l61 F bl cG bm bY) F fi jo ga jp eN gH H16.length 0 0 H109))) else (some ((.bool true),H16)))
termination_by structural n=>n
def aW.twX (bl:abW) (cG:ab6) (bm:abW) (ac:Sl) (ag:Int) (H:Hp):OA:=(Hp.new H [(.sl ac),(.int .i64 ag)]).bind λH3=>(Hp.ldSl H3 H.length 0).bind λs4=>(Hp.mk H3 [.bool false] 1 (wrap .i64 (2 * (s4.n:Int))) (wrap .i64 (2 * (s4.n:Int)))).bind λm5=>(Hp.mk m5.2 [.bool false] 1 (wrap .i64 (2 * (s4.n:Int))) (wrap .i64 (2 * (s4.n:Int)))).bind λm6=>aW.l61 F bl cG bm F H.length 0 (wrap .i64 (2 * (s4.n:Int))) m5.1 m6.1 0 m6.2
def aW.tw:=aW.twX F (cA.tw F) (dx.tw F) (cB.tw F)
def aW.lh61 (bl:abW) (cG:ab6) (bm:abW) (ks:abT) (n:Nat) (tm:Tm) (H:Hp):OA:=match ks,tm 1,tm 3,tm 4,tm 5,tm 6 with
 | [],(.ptr fi jo),(.int .i64 ga),(.sl jp),(.sl eN),(.int .i64 gH)=>aW.l61 F bl cG bm n fi jo ga jp eN gH H
 | _,_,_,_,_,_=>none
def aW.lh3927 (bl:abW) (cG:ab6) (bm:abW) (ks:abT) (n:Nat) (tm:Tm) (H:Hp):OA:=match ks,tm 1,tm 3,tm 4,tm 5,tm 6,tm 7,tm 8 with
 | [bY],(.ptr kO sS),(.int .i64 gG),(.sl mY),(.sl mZ),(.int .i64 fG),(.ptr fH hZ),(.int .i64 f_)=>aW.l3927 F bl cG bm (aW.l61 F bl cG bm bY) n kO sS gG mY mZ fG fH hZ f_ H
 | _,_,_,_,_,_,_,_=>none
def aW.lh (bl:abW) (cG:ab6) (bm:abW) (p:Nat) (ks:abT) (n:Nat) (tm:Tm) (H:Hp):OA:=bif p.beq 3927 then aW.lh3927 F bl cG bm ks n tm H else (bif p.beq 61 then aW.lh61 F bl cG bm ks n tm H else (none))
def aW.tb:Nat->List (List Nat):=cS [(2,[[],[0],[],[2],[0,1],[0,1,2,3,4]])]
def aW.cs (F:Nat) (bl:abW) (cG:ab6) (bm:abW):Cs:=[(163,mk6 bl),(106,mk5 cG),(164,mk6 bm)]
theorem aW.loops (bl:abW) (cG:ab6) (bm:abW):LO (aT (aW.cs F bl cG bm)) aC (aW.lh F bl cG bm) F Try.f107:=
 (ae.rt (ae.rt (ae.rt (ae.lt (ae.rt (ae.block (ae.la (λn tm H r h=>by change aW.lh61 F bl cG bm [] n tm H=_ at h;unfold aW.lh61 at h;split at h;have e:bF tm [(1,_),(3,_),(4,_),(5,_),(6,_)]:=⟨‹_›,‹_›,‹_›,‹_›,‹_›,trivial⟩;obtain _ | k61:=n;cases h;exact ⟨_,rfl,by rw [<- bI e];exact Eq.trans (by kernel_rfl) h⟩;cases h) λk61=>(ae.rt (ae.lt (ae.block (ae.rt (ae.rt (ae.rt (ae.block (ae.la (λn tm H r h=>by change aW.lh3927 F bl cG bm [k61] n tm H=_ at h;unfold aW.lh3927 at h;split at h;have e:bF tm [(1,_),(3,_),(4,_),(5,_),(6,_),(7,_),(8,_)]:=⟨‹_›,‹_›,‹_›,‹_›,‹_›,‹_›,‹_›,trivial⟩;cases (show [k61]=_ from ‹_›);obtain _ | k3927:=n;cases h;exact ⟨_,rfl,by rw [<- bI e];exact Eq.trans (by kernel_rfl) h⟩;cases h) λk3927=>ae.no)))))))))))))))
theorem aW.eqX (bl:abW) (cG:ab6) (bm:abW) (ac:Sl) (ag:Int) (H:Hp):EX (aT (aW.cs F bl cG bm)) aC (aW.lh F bl cG bm) F Try.f107 [(.agg [(.sl ac),(.int .i64 ag)])] H=aW.twX F bl cG bm ac ag H:=by kernel_rfl
theorem aW.k:Ok Try.prog 107 (mk4 (aW.tw F)):=by
 intro args H v H' h
 unfold mk4 at h
 split at h
 ·exact okT (TB:=aW.tb) Try.func107 (aU (cA.k F) (aU (dx.k F) (aU (cB.k F) bo))) (aW.loops F (cA.tw F) (dx.tw F) (cB.tw F)) ((aW.eqX F (cA.tw F) (dx.tw F) (cB.tw F) _ _ H).trans h) (by kernel_rfl)
 ·cases h
def aB.j3 (F:Nat) (bl:abW) (bm:abW) (C13_:acq) (lM:Int) (pa:Bool) (pb:Nat) (Sd:Nat) (pc:Int) (H147:Hp):OA:=C13_ lM pa pb Sd (wrap .i64 (pc+1)) H147
def aB.j4 (bl:abW) (bm:abW) (C13_:acq) (gI:Int) (pd:Bool) (vy:Nat) (Se:Nat) (pe:Int) (H134:Hp):OA:=aB.j3 F bl bm C13_ gI pd vy Se pe H134
def aB.l213 (F:Nat) (bl:abW) (bm:abW) (C13_:acq):Nat->Int->Bool->Nat->Nat->Int->Int->Hp->OA
 | 0,_,_,_,_,_,_,_=>none
 | IZ+1,gJ,gK,jq,m_,fj,cD,H103=>(bif (decide (cD<4)) then ((Hp.ldSl H103 jq m_).bind λs148=>(Sl.idx s148 fj 5).bind λp149=>(Hp.ldI H103 .i64 p149.1 p149.2).bind λn150=>(Hp.ldI H103 .i64 p149.1 (p149.2+1)).bind λn151=>(Hp.ldI H103 .i64 p149.1 (p149.2+2)).bind λn152=>(Hp.ldI H103 .i64 p149.1 (p149.2+3)).bind λn153=>(Hp.ldI H103 .i64 p149.1 (p149.2+4)).bind λn154=>(bl n150 n151 n152 n153 n154 cD H103).bind λr155=>((r155.1).asI .i64).bind λn156=>(bif (n156==gJ) then ((Hp.ldSl r155.2 jq m_).bind λs157=>(Sl.idx s157 fj 5).bind λp158=>(Hp.ldI r155.2 .i64 p158.1 p158.2).bind λn159=>(Hp.ldI r155.2 .i64 p158.1 (p158.2+1)).bind λn160=>(Hp.ldI r155.2 .i64 p158.1 (p158.2+2)).bind λn161=>(Hp.ldI r155.2 .i64 p158.1 (p158.2+3)).bind λn162=>(Hp.ldI r155.2 .i64 p158.1 (p158.2+4)).bind λn163=>(bm n159 n160 n161 n162 n163 cD r155.2).bind λr164=>((r164.1).asB).bind λb165=>(bif (b165==gK) then (some ((.tup [(.int .i64 fj),(.int .i64 cD)]),r164.2)) else (aB.l213 F bl bm C13_ IZ gJ gK jq m_ fj (wrap .i64 (cD+1)) r164.2))) else (aB.l213 F bl bm C13_ IZ gJ gK jq m_ fj (wrap .i64 (cD+1)) r155.2))) else (aB.j4 F bl bm C13_ gJ gK jq m_ fj H103))
termination_by structural n=>n
def aB.l13 (F:Nat) (bl:abW) (bm:abW) :Nat->Int->Bool->Nat->Nat->Int->Hp->OA
 | 0,_,_,_,_,_,_=>none
 | eK+1,bV,fk,iq,fI,jr,H15=>(Hp.ldSl H15 iq fI).bind λs91=>(bif (decide (jr<(s91.n:Int))) then (aB.l213 F bl bm (aB.l13 F bl bm eK) F bV fk iq fI jr 0 H15) else (some ((.tup [(.int .i64 (-1)),(.int .i64 (-1))]),H15)))
termination_by structural n=>n
def aB.twX (bl:abW) (bm:abW) (ac:Sl) (ag:Int) (ay:Int) (h_:Bool) (H:Hp):OA:=(Hp.new H [(.sl ac),(.int .i64 ag)]).bind λH5=>aB.l13 F bl bm F ay h_ H.length 0 0 H5
def aB.tw:=aB.twX F (cA.tw F) (cB.tw F)
def aB.lh13 (bl:abW) (bm:abW) (ks:abT) (n:Nat) (tm:Tm) (H:Hp):OA:=match ks,tm 1,tm 2,tm 3,tm 8 with
 | [],(.int .i64 bV),(.bool fk),(.ptr iq fI),(.int .i64 jr)=>aB.l13 F bl bm n bV fk iq fI jr H
 | _,_,_,_,_=>none
def aB.lh213 (bl:abW) (bm:abW) (ks:abT) (n:Nat) (tm:Tm) (H:Hp):OA:=match ks,tm 1,tm 2,tm 3,tm 8,tm 9 with
 | [eK],(.int .i64 gJ),(.bool gK),(.ptr jq m_),(.int .i64 fj),(.int .i64 cD)=>aB.l213 F bl bm (aB.l13 F bl bm eK) n gJ gK jq m_ fj cD H
 | _,_,_,_,_,_=>none
def aB.lh (bl:abW) (bm:abW) (p:Nat) (ks:abT) (n:Nat) (tm:Tm) (H:Hp):OA:=bif p.beq 213 then aB.lh213 F bl bm ks n tm H else (bif p.beq 13 then aB.lh13 F bl bm ks n tm H else (none))
def mk7 (g:ab7) (args:ab0) (H:Hp):OA:=match args with
 | [(.agg [(.sl ac),(.int .i64 ag)]),(.int .i64 ay),(.bool h_)]=>g ac ag ay h_ H
 | _=>none
theorem mk7_E (g:ab7) (ac:Sl) (ag:Int) (ay:Int) (h_:Bool) (H:Hp):mk7 g [(.agg [(.sl ac),(.int .i64 ag)]),(.int .i64 ay),(.bool h_)] H=g ac ag ay h_ H:=rfl
def aB.cs (F:Nat) (bl:abW) (bm:abW):Cs:=[(163,mk6 bl),(164,mk6 bm)]
theorem aB.loops (bl:abW) (bm:abW):LO (aT (aB.cs F bl bm)) aC (aB.lh F bl bm) F Try.f198:=
 (ae.rt (ae.lt (ae.rt (ae.block (ae.la (λn tm H r h=>by change aB.lh13 F bl bm [] n tm H=_ at h;unfold aB.lh13 at h;split at h;have e:bF tm [(1,_),(2,_),(3,_),(8,_)]:=⟨‹_›,‹_›,‹_›,‹_›,trivial⟩;obtain _ | k13:=n;cases h;exact ⟨_,rfl,by rw [<- bI e];exact Eq.trans (by kernel_rfl) h⟩;cases h) λk13=>(ae.rt (ae.lt (ae.block (ae.rt (ae.block (ae.la (λn tm H r h=>by change aB.lh213 F bl bm [k13] n tm H=_ at h;unfold aB.lh213 at h;split at h;have e:bF tm [(1,_),(2,_),(3,_),(8,_),(9,_)]:=⟨‹_›,‹_›,‹_›,‹_›,‹_›,trivial⟩;cases (show [k13]=_ from ‹_›);obtain _ | k213:=n;cases h;exact ⟨_,rfl,by rw [<- bI e];exact Eq.trans (by kernel_rfl) h⟩;cases h) λk213=>ae.no)))))))))))
theorem aB.eqX (bl:abW) (bm:abW) (ac:Sl) (ag:Int) (ay:Int) (h_:Bool) (H:Hp):EX (aT (aB.cs F bl bm)) aC (aB.lh F bl bm) F Try.f198 [(.agg [(.sl ac),(.int .i64 ag)]),(.int .i64 ay),(.bool h_)] H=aB.twX F bl bm ac ag ay h_ H:=by kernel_rfl
theorem aB.k:Ok Try.prog 198 (mk7 (aB.tw F)):=by
 intro args H v H' h
 unfold mk7 at h
 split at h
 ·exact okT (TB:=aC) Try.func198 (aU (cA.k F) (aU (cB.k F) bo)) (aB.loops F (cA.tw F) (cB.tw F)) ((aB.eqX F (cA.tw F) (cB.tw F) _ _ _ _ H).trans h) (by kernel_rfl)
 ·cases h
def cJ.twX (F:Nat) (bl:abW) (bm:abW) (bQ:ab7) (ac:Sl) (ag:Int) (ay:Int) (H:Hp):OA:=(Hp.new H [(.sl ac),(.int .i64 ag)]).bind λH4=>(Hp.ldSl H4 H.length 0).bind λs5=>(Sl.idx s5 (wrap .i64 (Int.tdiv ay 4)) 5).bind λp6=>(Hp.ldI H4 .i64 p6.1 p6.2).bind λn7=>(Hp.ldI H4 .i64 p6.1 (p6.2+1)).bind λn8=>(Hp.ldI H4 .i64 p6.1 (p6.2+2)).bind λn9=>(Hp.ldI H4 .i64 p6.1 (p6.2+3)).bind λn10=>(Hp.ldI H4 .i64 p6.1 (p6.2+4)).bind λn11=>(Hp.new H4 [.int .i64 0,.int .i64 0,.int .i64 0,.int .i64 0,.int .i64 0]).bind λH12=>(Hp.st H12 H4.length 0 (.int .i64 n7)).bind λH13=>(Hp.st H13 H4.length (0+1) (.int .i64 n8)).bind λH14=>(Hp.st H14 H4.length (0+1+1) (.int .i64 n9)).bind λH15=>(Hp.st H15 H4.length (0+1+1+1) (.int .i64 n10)).bind λH16=>(Hp.st H16 H4.length (0+1+1+1+1) (.int .i64 n11)).bind λH17=>(Hp.ldSl H17 H.length 0).bind λs18=>(Hp.ldI H17 .i64 H.length (0+1)).bind λn19=>(Hp.ldI H17 .i64 H4.length 0).bind λn20=>(Hp.ldI H17 .i64 H4.length (0+1)).bind λn21=>(Hp.ldI H17 .i64 H4.length (0+2)).bind λn22=>(Hp.ldI H17 .i64 H4.length (0+3)).bind λn23=>(Hp.ldI H17 .i64 H4.length (0+4)).bind λn24=>(bl n20 n21 n22 n23 n24 (Int.tmod (wrap .i64 ((Int.tmod ay 4)+1)) 4) H17).bind λr25=>((r25.1).asI .i64).bind λn26=>(if aV H17 r25.2 then ((Hp.ldI r25.2 .i64 H4.length 0).bind λn27=>(Hp.ldI r25.2 .i64 H4.length (0+1)).bind λn28=>(Hp.ldI r25.2 .i64 H4.length (0+2)).bind λn29=>(Hp.ldI r25.2 .i64 H4.length (0+3)).bind λn30=>(Hp.ldI r25.2 .i64 H4.length (0+4)).bind λn31=>(bm n27 n28 n29 n30 n31 (Int.tmod (wrap .i64 ((Int.tmod ay 4)+1)) 4) r25.2).bind λr32=>((r32.1).asB).bind λb33=>(if aV r25.2 r32.2 then ((bQ s18 n19 n26 (!b33) r32.2).bind λr34=>((r34.1).asTup 2).bind λl35=>(l35[0]?).bind λv36=>((v36).asI .i64).bind λn37=>(l35[1]?).bind λv38=>((v38).asI .i64).bind λn39=>some ((.int .i64 (wrap .i64 ((wrap .i64 (4 * n37))+n39))),r34.2)) else none)) else none)
def cJ.tw:=cJ.twX F (cA.tw F) (cB.tw F) (aB.tw F)
def cJ.pn:Nat->List Nat:=cS [(3,[8])]
def cJ.tb:Nat->List (List Nat):=cS [(3,[[],[],[],[1,2],[],[],[1,2,3,4,5],[1,2,3,4,5,6],[0,1,2,3,4,5,6,7],[0,1,2,3,4,5,6,7,8],[0,1,2,3,4,5,6,7,8,9],[0,1,2,3,4,5,6,7,8,9],[0,1,2,3,4,5,6,7,8,9,10],[0,1,2,3,4,5,6,7,8,9,10,11,12]])]
def cJ.cs (F:Nat) (bl:abW) (bm:abW) (bQ:ab7):Cs:=[(163,mk6 bl),(164,mk6 bm),(198,mk7 bQ)]
theorem cJ.eqX (bl:abW) (bm:abW) (bQ:ab7) (ac:Sl) (ag:Int) (ay:Int) (H:Hp):EX (aT (cJ.cs F bl bm bQ)) cJ.pn lh0 F Try.f165 [(.agg [(.sl ac),(.int .i64 ag)]),(.int .i64 ay)] H=cJ.twX F bl bm bQ ac ag ay H:=by kernel_rfl
theorem cJ.k:Ok Try.prog 165 (mk1 (cJ.tw F)):=by
 intro args H v H' h
 unfold mk1 at h
 split at h
 ·exact okT (TB:=cJ.tb) Try.func165 (aU (cA.k F) (aU (cB.k F) (aU (aB.k F) bo))) ae.no ((cJ.eqX F (cA.tw F) (cB.tw F) (aB.tw F) _ _ _ H).trans h) (by kernel_rfl)
 ·cases h
def aF.j4 (F:Nat) (cZ:abY) (C61_:acd) (eY:Nat) (zV:Nat) (zW:Sl) (zX:Sl) (pf:Int) (H108:Hp):OA:=C61_ eY zV zW zX (wrap .i64 (pf+1)) H108
def aF.j5 (F:Nat) (cZ:abY) (C61_:acd) (vz:Nat) (Sf:Nat) (Sg:Sl) (Sh:Sl) (pg:Int) (H164:Hp):OA:=C61_ vz Sf Sg Sh (wrap .i64 (pg+1)) H164
def aF.j6 (cZ:abY) (C61_:acd) (vA:Nat) (lM:Nat) (pb:Sl) (zY:Sl) (js:Int) (Si:Sl) (H147:Hp):OA:=(Hp.new H147 [(.sl Si)]).bind λH148=>(Sl.row H148 (⟨some (H147.length,0),1,.ex 1⟩:Sl) 1).bind λxs150=>(Hp.app H148 1 24 pb (⟨some (H147.length,0),1,.ex 1⟩:Sl).n xs150).bind λa149=>aF.j5 F cZ C61_ vA lM a149.1 zY js a149.2
def aF.l7853 (F:Nat) (cZ:abY) (C61_:acd):Nat->Nat->Nat->Sl->Sl->Int->Sl->Int->Hp->OA
 | 0,_,_,_,_,_,_,_,_=>none
 | Sj+1,kl,ph,vB,pi,jt,fG,gb,H122=>(Sl.idx pi gb 1).bind λp165=>(Hp.ldB H122 p165.1 p165.2).bind λb166=>(bif (!b166) then ((Sl.idx pi gb 1).bind λp167=>(Hp.st H122 p167.1 p167.2 (.bool true)).bind λH168=>(Hp.new H168 [(.int .i64 gb)]).bind λH169=>(Sl.row H169 (⟨some (H168.length,0),1,.ex 1⟩:Sl) 1).bind λxs171=>(Hp.app H169 1 8 fG (⟨some (H168.length,0),1,.ex 1⟩:Sl).n xs171).bind λa170=>(Hp.ldSl a170.2 kl ph).bind λs172=>(Hp.ldI a170.2 .i64 kl (ph+1)).bind λn173=>(cZ s172 n173 gb a170.2).bind λr174=>((r174.1).asI .i64).bind λn175=>aF.l7853 F cZ C61_ Sj kl ph vB pi jt a170.1 n175 r174.2) else (aF.j6 F cZ C61_ kl ph vB pi jt fG H122))
termination_by structural n=>n
def aF.l61 (F:Nat) (cZ:abY) :Nat->Nat->Nat->Sl->Sl->Int->Hp->OA
 | 0,_,_,_,_,_,_=>none
 | bY+1,fi,jo,ga,jp,eN,H15=>(bif (decide (eN<(jp.n:Int))) then ((Sl.idx jp eN 1).bind λp96=>(Hp.ldB H15 p96.1 p96.2).bind λb97=>(bif b97 then (aF.j4 F cZ (aF.l61 F cZ bY) fi jo ga jp eN H15) else ((Hp.new H15 []).bind λH109=>aF.l7853 F cZ (aF.l61 F cZ bY) F fi jo ga jp eN (⟨some (H15.length,0),0,.ex 0⟩:Sl) eN H109))) else (some ((.sl ga),H15)))
termination_by structural n=>n
def aF.twX (cZ:abY) (ac:Sl) (ag:Int) (H:Hp):OA:=(Hp.new H [(.sl ac),(.int .i64 ag)]).bind λH3=>(Hp.new H3 []).bind λH4=>(Hp.ldSl H4 H.length 0).bind λs5=>(Hp.mk H4 [.bool false] 1 (wrap .i64 (4 * (s5.n:Int))) (wrap .i64 (4 * (s5.n:Int)))).bind λm6=>aF.l61 F cZ F H.length 0 (⟨some (H3.length,0),0,.ex 0⟩:Sl) m6.1 0 m6.2
def aF.tw:=aF.twX F (cJ.tw F)
def aF.lh61 (cZ:abY) (ks:abT) (n:Nat) (tm:Tm) (H:Hp):OA:=match ks,tm 1,tm 3,tm 4,tm 5 with
 | [],(.ptr fi jo),(.sl ga),(.sl jp),(.int .i64 eN)=>aF.l61 F cZ n fi jo ga jp eN H
 | _,_,_,_,_=>none
def aF.lh7853 (cZ:abY) (ks:abT) (n:Nat) (tm:Tm) (H:Hp):OA:=match ks,tm 1,tm 3,tm 4,tm 5,tm 6,tm 7 with
 | [bY],(.ptr kl ph),(.sl vB),(.sl pi),(.int .i64 jt),(.sl fG),(.int .i64 gb)=>aF.l7853 F cZ (aF.l61 F cZ bY) n kl ph vB pi jt fG gb H
 | _,_,_,_,_,_,_=>none
def aF.lh (cZ:abY) (p:Nat) (ks:abT) (n:Nat) (tm:Tm) (H:Hp):OA:=bif p.beq 7853 then aF.lh7853 F cZ ks n tm H else (bif p.beq 61 then aF.lh61 F cZ ks n tm H else (none))
def aF.cs (F:Nat) (cZ:abY):Cs:=[(165,mk1 cZ)]
theorem aF.loops (cZ:abY):LO (aT (aF.cs F cZ)) aC (aF.lh F cZ) F Try.f108:=
 (ae.rt (ae.rt (ae.rt (ae.lt (ae.rt (ae.block (ae.la (λn tm H r h=>by change aF.lh61 F cZ [] n tm H=_ at h;unfold aF.lh61 at h;split at h;have e:bF tm [(1,_),(3,_),(4,_),(5,_)]:=⟨‹_›,‹_›,‹_›,‹_›,trivial⟩;obtain _ | k61:=n;cases h;exact ⟨_,rfl,by rw [<- bI e];exact Eq.trans (by kernel_rfl) h⟩;cases h) λk61=>(ae.rt (ae.lt (ae.block (ae.rt (ae.rt (ae.lt (ae.rt (ae.block (ae.la (λn tm H r h=>by change aF.lh7853 F cZ [k61] n tm H=_ at h;unfold aF.lh7853 at h;split at h;have e:bF tm [(1,_),(3,_),(4,_),(5,_),(6,_),(7,_)]:=⟨‹_›,‹_›,‹_›,‹_›,‹_›,‹_›,trivial⟩;cases (show [k61]=_ from ‹_›);obtain _ | k7853:=n;cases h;exact ⟨_,rfl,by rw [<- bI e];exact Eq.trans (by kernel_rfl) h⟩;cases h) λk7853=>ae.no))))))))))))))))
theorem aF.eqX (cZ:abY) (ac:Sl) (ag:Int) (H:Hp):EX (aT (aF.cs F cZ)) aC (aF.lh F cZ) F Try.f108 [(.agg [(.sl ac),(.int .i64 ag)])] H=aF.twX F cZ ac ag H:=by kernel_rfl
theorem aF.k:Ok Try.prog 108 (mk4 (aF.tw F)):=by
 intro args H v H' h
 unfold mk4 at h
 split at h
 ·exact okT (TB:=aC) Try.func108 (aU (cJ.k F) bo) (aF.loops F (cJ.tw F)) ((aF.eqX F (cJ.tw F) _ _ H).trans h) (by kernel_rfl)
 ·cases h
def av.j6 (F:Nat) (bQ:ab7) (C61_:aca) (vC:Nat) (Sk:Nat) (Sn:Sl) (pj:Int) (H243:Hp):OA:=C61_ vC Sk Sn (wrap .i64 (pj+1)) H243
def av.j7 (bQ:ab7) (C61_:aca) (vD:Nat) (So:Nat) (pm:Sl) (lN:Int) (H226:Hp):OA:=av.j6 F bQ C61_ vD So pm lN H226
def av.j8 (F:Nat) (bQ:ab7) (C7855_:acC) (vE:Nat) (Sp:Nat) (Sq:Sl) (po:Int) (pr:Int) (pt:Int) (pu:Int) (H265:Hp):OA:=C7855_ vE Sp Sq po pr pt (wrap .i64 (pu+1)) H265
def av.l7855 (F:Nat) (bQ:ab7) (C61_:aca):Nat->Nat->Nat->Sl->Int->Int->Int->Int->Hp->OA
 | 0,_,_,_,_,_,_,_,_=>none
 | I_+1,kP,sT,lO,ir,fl,fm,gd,H187=>(bif (decide (gd<(lO.n:Int))) then ((Sl.idx lO gd 1).bind λp244=>(Hp.ldI H187 .i64 p244.1 p244.2).bind λn245=>(bif (n245==(if fm>fl then fm else fl)) then ((Sl.idx lO gd 1).bind λp246=>(Hp.st H187 p246.1 p246.2 (.int .i64 (if fm<fl then fm else fl))).bind λH247=>av.j8 F bQ (av.l7855 F bQ C61_ I_) kP sT lO ir fl fm gd H247) else (av.j8 F bQ (av.l7855 F bQ C61_ I_) kP sT lO ir fl fm gd H187))) else (av.j7 F bQ C61_ kP sT lO ir H187))
termination_by structural n=>n
def av.l61 (F:Nat) (bQ:ab7) :Nat->Nat->Nat->Sl->Int->Hp->OA
 | 0,_,_,_,_,_=>none
 | bY+1,ja,lP,pv,gL,H35=>(Hp.ldSl H35 ja lP).bind λs151=>(bif (decide (gL<(wrap .i64 (2 * (s151.n:Int))))) then ((Hp.ldSl H35 ja lP).bind λs152=>(Hp.ldI H35 .i64 ja (lP+1)).bind λn153=>(bQ s152 n153 gL true H35).bind λr154=>((r154.1).asTup 2).bind λl155=>(l155[0]?).bind λv156=>((v156).asI .i64).bind λn157=>(l155[1]?).bind λv158=>((v158).asI .i64).bind λn159=>(Hp.ldSl r154.2 ja lP).bind λs160=>(Hp.ldI r154.2 .i64 ja (lP+1)).bind λn161=>(bQ s160 n161 gL false r154.2).bind λr162=>((r162.1).asTup 2).bind λl163=>(l163[0]?).bind λv164=>((v164).asI .i64).bind λn165=>(l163[1]?).bind λv166=>((v166).asI .i64).bind λn167=>(Sl.idx pv n157 1).bind λp168=>(Hp.ldI r162.2 .i64 p168.1 p168.2).bind λn169=>(Sl.idx pv n165 1).bind λp170=>(Hp.ldI r162.2 .i64 p170.1 p170.2).bind λn171=>av.l7855 F bQ (av.l61 F bQ bY) F ja lP pv gL n169 n171 0 r162.2) else (some ((.sl pv),H35)))
termination_by structural n=>n
def av.j9 (bQ:ab7) (vF:Nat) (pz:Nat) (Sr:Sl) (H25:Hp):OA:=av.l61 F bQ F vF pz Sr 0 H25
def av.l29 (F:Nat) (bQ:ab7) :Nat->Nat->Nat->Sl->Int->Hp->OA
 | 0,_,_,_,_,_=>none
 | fh+1,cK,bV,iq,eZ,H12=>(Hp.ldSl H12 cK bV).bind λs266=>(bif (decide (eZ<(s266.n:Int))) then ((Hp.new H12 [(.int .i64 eZ)]).bind λH267=>(Sl.row H267 (⟨some (H12.length,0),1,.ex 1⟩:Sl) 1).bind λxs269=>(Hp.app H267 1 8 iq (⟨some (H12.length,0),1,.ex 1⟩:Sl).n xs269).bind λa268=>av.l29 F bQ fh cK bV a268.1 (wrap .i64 (eZ+1)) a268.2) else (av.j9 F bQ cK bV iq H12))
termination_by structural n=>n
def av.twX (bQ:ab7) (ac:Sl) (ag:Int) (H:Hp):OA:=(Hp.new H [(.sl ac),(.int .i64 ag)]).bind λH3=>(Hp.new H3 []).bind λH4=>av.l29 F bQ F H.length 0 (⟨some (H3.length,0),0,.ex 0⟩:Sl) 0 H4
def av.tw:=av.twX F (aB.tw F)
def av.lh29 (bQ:ab7) (ks:abT) (n:Nat) (tm:Tm) (H:Hp):OA:=match ks,tm 1,tm 3,tm 4 with
 | [],(.ptr cK bV),(.sl iq),(.int .i64 eZ)=>av.l29 F bQ n cK bV iq eZ H
 | _,_,_,_=>none
def av.lh61 (bQ:ab7) (ks:abT) (n:Nat) (tm:Tm) (H:Hp):OA:=match ks,tm 1,tm 3,tm 5 with
 | [],(.ptr ja lP),(.sl pv),(.int .i64 gL)=>av.l61 F bQ n ja lP pv gL H
 | _,_,_,_=>none
def av.lh7855 (bQ:ab7) (ks:abT) (n:Nat) (tm:Tm) (H:Hp):OA:=match ks,tm 1,tm 3,tm 5,tm 10,tm 11,tm 12 with
 | [bY],(.ptr kP sT),(.sl lO),(.int .i64 ir),(.int .i64 fl),(.int .i64 fm),(.int .i64 gd)=>av.l7855 F bQ (av.l61 F bQ bY) n kP sT lO ir fl fm gd H
 | _,_,_,_,_,_,_=>none
def av.lh (bQ:ab7) (p:Nat) (ks:abT) (n:Nat) (tm:Tm) (H:Hp):OA:=bif p.beq 7855 then av.lh7855 F bQ ks n tm H else (bif p.beq 61 then av.lh61 F bQ ks n tm H else (bif p.beq 29 then av.lh29 F bQ ks n tm H else (none)))
def av.tb:Nat->List (List Nat):=cS [(11,[[],[],[0,1],[0,1,2],[],[],[4,5],[4,5,6],[0,1,2,3],[0,1,2,3,4,5,6,7,8]])]
def av.cs (F:Nat) (bQ:ab7):Cs:=[(198,mk7 bQ)]
theorem av.loops (bQ:ab7):LO (aT (av.cs F bQ)) aC (av.lh F bQ) F Try.f166:=
 (ae.rt (ae.rt (ae.seq (ae.rt (ae.block (ae.la (λn tm H r h=>by change av.lh29 F bQ [] n tm H=_ at h;unfold av.lh29 at h;split at h;have e:bF tm [(1,_),(3,_),(4,_)]:=⟨‹_›,‹_›,‹_›,trivial⟩;obtain _ | k29:=n;cases h;exact ⟨_,rfl,by rw [<- bI e];exact Eq.trans (by kernel_rfl) h⟩;cases h) λk29=>ae.no))) (ae.lt (ae.rt (ae.block (ae.la (λn tm H r h=>by change av.lh61 F bQ [] n tm H=_ at h;unfold av.lh61 at h;split at h;have e:bF tm [(1,_),(3,_),(5,_)]:=⟨‹_›,‹_›,‹_›,trivial⟩;obtain _ | k61:=n;cases h;exact ⟨_,rfl,by rw [<- bI e];exact Eq.trans (by kernel_rfl) h⟩;cases h) λk61=>(ae.rt (ae.lt (ae.block (ae.rt (ae.rt (ae.rt (ae.rt (ae.block (ae.la (λn tm H r h=>by change av.lh7855 F bQ [k61] n tm H=_ at h;unfold av.lh7855 at h;split at h;have e:bF tm [(1,_),(3,_),(5,_),(10,_),(11,_),(12,_)]:=⟨‹_›,‹_›,‹_›,‹_›,‹_›,‹_›,trivial⟩;cases (show [k61]=_ from ‹_›);obtain _ | k7855:=n;cases h;exact ⟨_,rfl,by rw [<- bI e];exact Eq.trans (by kernel_rfl) h⟩;cases h) λk7855=>ae.no))))))))))))))))
theorem av.eqX (bQ:ab7) (ac:Sl) (ag:Int) (H:Hp):EX (aT (av.cs F bQ)) aC (av.lh F bQ) F Try.f166 [(.agg [(.sl ac),(.int .i64 ag)])] H=av.twX F bQ ac ag H:=by kernel_rfl
theorem av.k:Ok Try.prog 166 (mk4 (av.tw F)):=by
 intro args H v H' h
 unfold mk4 at h
 split at h
 ·exact okT (TB:=av.tb) Try.func166 (aU (aB.k F) bo) (av.loops F (aB.tw F)) ((av.eqX F (aB.tw F) _ _ H).trans h) (by kernel_rfl)
 ·cases h
def bj.j2 (F:Nat) (eO:abQ) (C61_:acI) (pA:Int) (Ss:Sl) (pB:Int) (H42:Hp):OA:=C61_ pA Ss (wrap .i64 (pB+1)) H42
def bj.l61 (F:Nat) (eO:abQ) :Nat->Int->Sl->Int->Hp->OA
 | 0,_,_,_,_=>none
 | bY+1,iu,pD,gf,H16=>(bif (decide (gf<(pD.n:Int))) then ((Sl.idx pD gf 1).bind λp30=>(Hp.ldI H16 .i64 p30.1 p30.2).bind λn31=>(bif (n31==gf) then (bj.j2 F eO (bj.l61 F eO bY) (wrap .i64 (iu+1)) pD gf H16) else (bj.j2 F eO (bj.l61 F eO bY) iu pD gf H16))) else (some ((.int .i64 iu),H16)))
def bj.twX (eO:abQ) (ac:Sl) (ag:Int) (H:Hp):OA:=(Hp.new H [(.sl ac),(.int .i64 ag)]).bind λH3=>(Hp.ldSl H3 H.length 0).bind λs4=>(Hp.ldI H3 .i64 H.length (0+1)).bind λn5=>(eO s4 n5 H3).bind λr6=>((r6.1).asSl).bind λs7=>bj.l61 F eO F 0 s7 0 r6.2
def bj.tw:=bj.twX F (av.tw F)
def bj.lh61 (eO:abQ) (ks:abT) (n:Nat) (tm:Tm) (H:Hp):OA:=match ks,tm 3,tm 4,tm 5 with
 | [],(.int .i64 iu),(.sl pD),(.int .i64 gf)=>bj.l61 F eO n iu pD gf H
 | _,_,_,_=>none
def bj.lh (eO:abQ) (p:Nat) (ks:abT) (n:Nat) (tm:Tm) (H:Hp):OA:=bif p.beq 61 then bj.lh61 F eO ks n tm H else (none)
def bj.cs (F:Nat) (eO:abQ):Cs:=[(166,mk4 eO)]
theorem bj.loops (eO:abQ):LO (aT (bj.cs F eO)) aC (bj.lh F eO) F Try.f109:=
 (ae.rt (ae.rt (ae.rt (ae.lt (ae.rt (ae.block (ae.la (λn tm H r h=>by change bj.lh61 F eO [] n tm H=_ at h;unfold bj.lh61 at h;split at h;have e:bF tm [(3,_),(4,_),(5,_)]:=⟨‹_›,‹_›,‹_›,trivial⟩;obtain _ | k61:=n;cases h;exact ⟨_,rfl,by rw [<- bI e];exact Eq.trans (by kernel_rfl) h⟩;cases h) λk61=>ae.no)))))))
theorem bj.eqX (eO:abQ) (ac:Sl) (ag:Int) (H:Hp):EX (aT (bj.cs F eO)) aC (bj.lh F eO) F Try.f109 [(.agg [(.sl ac),(.int .i64 ag)])] H=bj.twX F eO ac ag H:=by kernel_rfl
theorem bj.k:Ok Try.prog 109 (mk4 (bj.tw F)):=by
 intro args H v H' h
 unfold mk4 at h
 split at h
 ·exact okT (TB:=aC) Try.func109 (aU (av.k F) bo) (bj.loops F (av.tw F)) ((bj.eqX F (av.tw F) _ _ H).trans h) (by kernel_rfl)
 ·cases h
def dz.twX (F:Nat) (cG:ab6) (pE:abQ) (pF:abQ) (pG:abQ) (ac:Sl) (ag:Int) (H:Hp):OA:=(Hp.new H [(.sl ac),(.int .i64 ag)]).bind λH3=>(Hp.ldSl H3 H.length 0).bind λs4=>(bif (decide ((s4.n:Int)>10)) then (some ((.bool false),H3)) else ((Hp.ldI H3 .i64 H.length 1).bind λn5=>(cG n5 0 8 H3).bind λr6=>((r6.1).asB).bind λb7=>(bif (!b7) then (some ((.bool false),r6.2)) else ((Hp.ldSl r6.2 H.length 0).bind λs8=>(Hp.ldI r6.2 .i64 H.length (0+1)).bind λn9=>(pE s8 n9 r6.2).bind λr10=>((r10.1).asB).bind λb11=>(bif (!b11) then (some ((.bool false),r10.2)) else ((Hp.ldSl r10.2 H.length 0).bind λs12=>(Hp.ldI r10.2 .i64 H.length (0+1)).bind λn13=>(pF s12 n13 r10.2).bind λr14=>((r14.1).asSl).bind λs15=>(if aV r10.2 r14.2 then ((Hp.ldSl r14.2 H.length 0).bind λs16=>(Hp.ldSl r14.2 H.length 0).bind λs17=>(Hp.ldI r14.2 .i64 H.length (0+1)).bind λn18=>(pG s17 n18 r14.2).bind λr19=>((r19.1).asI .i64).bind λn20=>(if aV r14.2 r19.2 then (some ((.bool ((s15.n:Int)==(wrap .i64 ((s16.n:Int)+(wrap .i64 (2 * n20)))))),r19.2)) else none)) else none)))))))
def dz.tw:=dz.twX F (dx.tw F) (aW.tw F) (aF.tw F) (bj.tw F)
def dz.tb:Nat->List (List Nat):=cS [(3,[[],[0],[0,1],[],[3],[3,4],[],[0,1,6],[0,1,6,7],[0,1,3,4,5,6,7,8],[0,1,2,3,4,5,6,7,8,9],[0,1,2,3,4,5,6,7,8,9,10]])]
def dz.cs (F:Nat) (cG:ab6) (pE:abQ) (pF:abQ) (pG:abQ):Cs:=[(106,mk5 cG),(107,mk4 pE),(108,mk4 pF),(109,mk4 pG)]
theorem dz.eqX (cG:ab6) (pE:abQ) (pF:abQ) (pG:abQ) (ac:Sl) (ag:Int) (H:Hp):EX (aT (dz.cs F cG pE pF pG)) aC lh0 F Try.f47 [(.agg [(.sl ac),(.int .i64 ag)])] H=dz.twX F cG pE pF pG ac ag H:=by kernel_rfl
theorem dz.k:Ok Try.prog 47 (mk4 (dz.tw F)):=by
 intro args H v H' h
 unfold mk4 at h
 split at h
 ·exact okT (TB:=dz.tb) Try.func47 (aU (dx.k F) (aU (aW.k F) (aU (aF.k F) (aU (bj.k F) bo)))) ae.no ((dz.eqX F (dx.tw F) (aW.tw F) (aF.tw F) (bj.tw F) _ _ H).trans h) (by kernel_rfl)
 ·cases h
def ak.j6 (F:Nat) (vG:Nat) (Su:Nat) (Sv:Sl) (pH:Int) (H211:Hp):OA:=(Hp.ldI H211 .i64 vG (Su+1)).bind λn212=>some ((.tup [(.sl Sv),(.int .i64 (wrap .i64 (pH+n212)))]),H211)
def ak.j7 (F:Nat) (C509_:acE) (vH:Nat) (Sw:Nat) (Sx:Sl) (Sy:Sl) (pI:Int) (pJ:Int) (H234:Hp):OA:=C509_ vH Sw Sx Sy pI (wrap .i64 (pJ+1)) H234
def ak.l509 (F:Nat) :Nat->Nat->Nat->Sl->Sl->Int->Int->Hp->OA
 | 0,_,_,_,_,_,_,_=>none
 | vI+1,kQ,sU,na,pK,gg,fo,H166=>(bif (decide (fo<(na.n:Int))) then ((Sl.idx na fo 1).bind λp213=>(Hp.ldI H166 .i64 p213.1 p213.2).bind λn214=>(bif (n214==fo) then ((Hp.new H166 [(.int .i64 gg)]).bind λH215=>(Sl.row H215 (⟨some (H166.length,0),1,.ex 1⟩:Sl) 1).bind λxs217=>(Hp.app H215 1 8 pK (⟨some (H166.length,0),1,.ex 1⟩:Sl).n xs217).bind λa216=>ak.j7 F (ak.l509 F vI) kQ sU na a216.1 (wrap .i64 (gg+1)) fo a216.2) else ((Sl.idx na fo 1).bind λp235=>(Hp.ldI H166 .i64 p235.1 p235.2).bind λn236=>(Sl.idx pK n236 1).bind λp237=>(Hp.ldI H166 .i64 p237.1 p237.2).bind λn238=>(Hp.new H166 [(.int .i64 n238)]).bind λH239=>(Sl.row H239 (⟨some (H166.length,0),1,.ex 1⟩:Sl) 1).bind λxs241=>(Hp.app H239 1 8 pK (⟨some (H166.length,0),1,.ex 1⟩:Sl).n xs241).bind λa240=>ak.j7 F (ak.l509 F vI) kQ sU na a240.1 gg fo a240.2))) else (ak.j6 F kQ sU pK gg H166))
termination_by structural n=>n
def ak.j8 (vJ:Nat) (Sz:Nat) (SA:Sl) (H150:Hp):OA:=(Hp.new H150 []).bind λH151=>ak.l509 F F vJ Sz SA (⟨some (H150.length,0),0,.ex 0⟩:Sl) 0 0 H151
def ak.j10 (F:Nat) (C61_:aca) (vK:Nat) (SB:Nat) (SC:Sl) (pL:Int) (H320:Hp):OA:=C61_ vK SB SC (wrap .i64 (pL+1)) H320
def ak.j11 (C61_:aca) (vL:Nat) (SD:Nat) (SF:Sl) (pM:Int) (H304:Hp):OA:=ak.j10 F C61_ vL SD SF pM H304
def ak.j12 (F:Nat) (C1963_:acC) (vM:Nat) (SG:Nat) (SH:Sl) (pN:Int) (pO:Int) (pP:Int) (pQ:Int) (H341:Hp):OA:=C1963_ vM SG SH pN pO pP (wrap .i64 (pQ+1)) H341
def ak.l1963 (F:Nat) (C61_:aca):Nat->Nat->Nat->Sl->Int->Int->Int->Int->Hp->OA
 | 0,_,_,_,_,_,_,_,_=>none
 | Ja+1,kR,sV,lQ,iv,fp,fq,gh,H267=>(bif (decide (gh<(lQ.n:Int))) then ((Sl.idx lQ gh 1).bind λp321=>(Hp.ldI H267 .i64 p321.1 p321.2).bind λn322=>(bif (n322==(if fq>fp then fq else fp)) then ((Sl.idx lQ gh 1).bind λp323=>(Hp.st H267 p323.1 p323.2 (.int .i64 (if fq<fp then fq else fp))).bind λH324=>ak.j12 F (ak.l1963 F C61_ Ja) kR sV lQ iv fp fq gh H324) else (ak.j12 F (ak.l1963 F C61_ Ja) kR sV lQ iv fp fq gh H267))) else (ak.j11 F C61_ kR sV lQ iv H267))
termination_by structural n=>n
def ak.l61 (F:Nat) :Nat->Nat->Nat->Sl->Int->Hp->OA
 | 0,_,_,_,_,_=>none
 | bY+1,ju,eL,pR,gM,H38=>(Hp.ldSl H38 ju eL).bind λs242=>(bif (decide (gM<(s242.n:Int))) then ((Hp.ldSl H38 ju eL).bind λs243=>(Sl.idx s243 gM 5).bind λp244=>(Hp.ldI H38 .i64 p244.1 (p244.2+1)).bind λn245=>(Sl.idx pR n245 1).bind λp246=>(Hp.ldI H38 .i64 p246.1 p246.2).bind λn247=>(Hp.ldSl H38 ju eL).bind λs248=>(Sl.idx s248 gM 5).bind λp249=>(Hp.ldI H38 .i64 p249.1 (p249.2+3)).bind λn250=>(Sl.idx pR n250 1).bind λp251=>(Hp.ldI H38 .i64 p251.1 p251.2).bind λn252=>ak.l1963 F (ak.l61 F bY) F ju eL pR gM n247 n252 0 H38) else (ak.j8 F ju eL pR H38))
termination_by structural n=>n
def ak.j13 (pz:Nat) (SI:Nat) (SJ:Sl) (H27:Hp):OA:=ak.l61 F F pz SI SJ 0 H27
def ak.l29 (F:Nat) :Nat->Nat->Nat->Sl->Int->Hp->OA
 | 0,_,_,_,_,_=>none
 | fh+1,cK,bV,eZ,ee,H13=>(Hp.ldSl H13 cK bV).bind λs342=>(bif (decide (ee<(wrap .i64 (2 * (s342.n:Int))))) then ((Hp.new H13 [(.int .i64 ee)]).bind λH343=>(Sl.row H343 (⟨some (H13.length,0),1,.ex 1⟩:Sl) 1).bind λxs345=>(Hp.app H343 1 8 eZ (⟨some (H13.length,0),1,.ex 1⟩:Sl).n xs345).bind λa344=>ak.l29 F fh cK bV a344.1 (wrap .i64 (ee+1)) a344.2) else (ak.j13 F cK bV eZ H13))
termination_by structural n=>n
def ak.twX (ac:Sl) (ag:Int) (H:Hp):OA:=(Hp.new H [(.sl ac),(.int .i64 ag)]).bind λH3=>(Hp.new H3 []).bind λH4=>ak.l29 F F H.length 0 (⟨some (H3.length,0),0,.ex 0⟩:Sl) 0 H4
def ak.tw:=ak.twX F
def ak.lh29 (ks:abT) (n:Nat) (tm:Tm) (H:Hp):OA:=match ks,tm 1,tm 4,tm 5 with
 | [],(.ptr cK bV),(.sl eZ),(.int .i64 ee)=>ak.l29 F n cK bV eZ ee H
 | _,_,_,_=>none
def ak.lh61 (ks:abT) (n:Nat) (tm:Tm) (H:Hp):OA:=match ks,tm 1,tm 4,tm 6 with
 | [],(.ptr ju eL),(.sl pR),(.int .i64 gM)=>ak.l61 F n ju eL pR gM H
 | _,_,_,_=>none
def ak.lh509 (ks:abT) (n:Nat) (tm:Tm) (H:Hp):OA:=match ks,tm 1,tm 4,tm 10,tm 11,tm 12 with
 | [],(.ptr kQ sU),(.sl na),(.sl pK),(.int .i64 gg),(.int .i64 fo)=>ak.l509 F n kQ sU na pK gg fo H
 | _,_,_,_,_,_=>none
def ak.lh1963 (ks:abT) (n:Nat) (tm:Tm) (H:Hp):OA:=match ks,tm 1,tm 4,tm 6,tm 7,tm 8,tm 9 with
 | [bY],(.ptr kR sV),(.sl lQ),(.int .i64 iv),(.int .i64 fp),(.int .i64 fq),(.int .i64 gh)=>ak.l1963 F (ak.l61 F bY) n kR sV lQ iv fp fq gh H
 | _,_,_,_,_,_,_=>none
def ak.lh (p:Nat) (ks:abT) (n:Nat) (tm:Tm) (H:Hp):OA:=bif p.beq 1963 then ak.lh1963 F ks n tm H else (bif p.beq 509 then ak.lh509 F ks n tm H else (bif p.beq 61 then ak.lh61 F ks n tm H else (bif p.beq 29 then ak.lh29 F ks n tm H else (none))))
def ak.tb:Nat->List (List Nat):=cS [(9,[[],[],[1],[],[1,2,3],[1,2,3,4],[1,2,3,4,5],[0,1,2,3,4,5,6],[0,1,2,3,4,5,6,7],[],[],[10],[],[10,11,12],[10,11,12,13],[10,11,12,13,14],[9,10,11,12,13,14,15],[9,10,11,12,13,14,15,16],[0,1,2,3,4,5,6,7,8],[0,1,2,3,4,5,6,7,8,9,10,11,12,13,14,15,16,17,18]]),(24,[[],[],[],[2],[1,2,3],[0],[0,1,2,3,4,5]])]
theorem ak.loops:LO (aT []) aC (ak.lh F) F Try.f59:=
 (ae.rt (ae.rt (ae.seq (ae.rt (ae.block (ae.la (λn tm H r h=>by change ak.lh29 F [] n tm H=_ at h;unfold ak.lh29 at h;split at h;have e:bF tm [(1,_),(4,_),(5,_)]:=⟨‹_›,‹_›,‹_›,trivial⟩;obtain _ | k29:=n;cases h;exact ⟨_,rfl,by rw [<- bI e];exact Eq.trans (by kernel_rfl) h⟩;cases h) λk29=>ae.no))) (ae.seq (ae.rt (ae.block (ae.la (λn tm H r h=>by change ak.lh61 F [] n tm H=_ at h;unfold ak.lh61 at h;split at h;have e:bF tm [(1,_),(4,_),(6,_)]:=⟨‹_›,‹_›,‹_›,trivial⟩;obtain _ | k61:=n;cases h;exact ⟨_,rfl,by rw [<- bI e];exact Eq.trans (by kernel_rfl) h⟩;cases h) λk61=>(ae.rt (ae.lt (ae.block (ae.rt (ae.rt (ae.block (ae.la (λn tm H r h=>by change ak.lh1963 F [k61] n tm H=_ at h;unfold ak.lh1963 at h;split at h;have e:bF tm [(1,_),(4,_),(6,_),(7,_),(8,_),(9,_)]:=⟨‹_›,‹_›,‹_›,‹_›,‹_›,‹_›,trivial⟩;cases (show [k61]=_ from ‹_›);obtain _ | k1963:=n;cases h;exact ⟨_,rfl,by rw [<- bI e];exact Eq.trans (by kernel_rfl) h⟩;cases h) λk1963=>ae.no)))))))))) (ae.rt (ae.rt (ae.lt (ae.rt (ae.block (ae.la (λn tm H r h=>by change ak.lh509 F [] n tm H=_ at h;unfold ak.lh509 at h;split at h;have e:bF tm [(1,_),(4,_),(10,_),(11,_),(12,_)]:=⟨‹_›,‹_›,‹_›,‹_›,‹_›,trivial⟩;obtain _ | k509:=n;cases h;exact ⟨_,rfl,by rw [<- bI e];exact Eq.trans (by kernel_rfl) h⟩;cases h) λk509=>ae.no))))))))))
theorem ak.k:Ok Try.prog 59 (mk4 (ak.tw F)):=by
 intro args H v H' h
 unfold mk4 at h
 split at h
 ·exact okT (PN:=aC) (LH:=(ak.lh F)) (F:=F) (TB:=ak.tb) Try.func59 bo (ak.loops F) (Eq.trans (by kernel_rfl) h) (by kernel_rfl)
 ·cases h
def bc.j2 (F:Nat) (bO:abQ) (C61_:acd) (eY:Nat) (zV:Nat) (zW:Sl) (zX:Sl) (gj:Int) (H113:Hp):OA:=C61_ eY zV zW zX (wrap .i64 (gj+1)) H113
def bc.l61 (F:Nat) (bO:abQ) :Nat->Nat->Nat->Sl->Sl->Int->Hp->OA
 | 0,_,_,_,_,_,_=>none
 | bY+1,kn,pT,jb,ng,gN,H21=>(Hp.ldSl H21 kn pT).bind λs70=>(bif (decide (gN<(s70.n:Int))) then ((Hp.ldSl H21 kn pT).bind λs71=>(Sl.idx s71 gN 5).bind λp72=>(Hp.ldI H21 .i64 p72.1 p72.2).bind λn73=>(Hp.ldI H21 .i64 p72.1 (p72.2+1)).bind λn74=>(Hp.ldI H21 .i64 p72.1 (p72.2+2)).bind λn75=>(Hp.ldI H21 .i64 p72.1 (p72.2+3)).bind λn76=>(Hp.ldI H21 .i64 p72.1 (p72.2+4)).bind λn77=>(Hp.new H21 [.int .i64 0,.int .i64 0,.int .i64 0,.int .i64 0,.int .i64 0]).bind λH78=>(Hp.st H78 H21.length 0 (.int .i64 n73)).bind λH79=>(Hp.st H79 H21.length (0+1) (.int .i64 n74)).bind λH80=>(Hp.st H80 H21.length (0+1+1) (.int .i64 n75)).bind λH81=>(Hp.st H81 H21.length (0+1+1+1) (.int .i64 n76)).bind λH82=>(Hp.st H82 H21.length (0+1+1+1+1) (.int .i64 n77)).bind λH83=>(Hp.ldI H83 .i64 H21.length 0).bind λn84=>(Sl.idx ng n84 1).bind λp85=>(Hp.ldI H83 .i64 p85.1 p85.2).bind λn86=>(Hp.ldI H83 .i64 H21.length 2).bind λn87=>(Sl.idx ng n87 1).bind λp88=>(Hp.ldI H83 .i64 p88.1 p88.2).bind λn89=>(Hp.ldI H83 .i64 H21.length 1).bind λn90=>(Sl.idx ng n90 1).bind λp91=>(Hp.ldI H83 .i64 p91.1 p91.2).bind λn92=>(Hp.ldI H83 .i64 H21.length 4).bind λn93=>(bif (n93==1) then ((Hp.new H83 [(.int .i64 (wrap .i64 (n89+1))),(.int .i64 (wrap .i64 (n92+1))),(.int .i64 (wrap .i64 (0 - (wrap .i64 (n86+1))))),(.int .i64 (wrap .i64 (0 - (wrap .i64 (n92+1)))))]).bind λH94=>(Hp.new H94 [(.sl (⟨some (H83.length,0),4,.ex 4⟩:Sl))]).bind λH95=>(Sl.row H95 (⟨some (H94.length,0),1,.ex 1⟩:Sl) 1).bind λxs97=>(Hp.app H95 1 24 jb (⟨some (H94.length,0),1,.ex 1⟩:Sl).n xs97).bind λa96=>bc.j2 F bO (bc.l61 F bO bY) kn pT a96.1 ng gN a96.2) else ((Hp.new H83 [(.int .i64 (wrap .i64 (n89+1))),(.int .i64 (wrap .i64 (0 - (wrap .i64 (n92+1))))),(.int .i64 (wrap .i64 (0 - (wrap .i64 (n86+1))))),(.int .i64 (wrap .i64 (n92+1)))]).bind λH114=>(Hp.new H114 [(.sl (⟨some (H83.length,0),4,.ex 4⟩:Sl))]).bind λH115=>(Sl.row H115 (⟨some (H114.length,0),1,.ex 1⟩:Sl) 1).bind λxs117=>(Hp.app H115 1 24 jb (⟨some (H114.length,0),1,.ex 1⟩:Sl).n xs117).bind λa116=>bc.j2 F bO (bc.l61 F bO bY) kn pT a116.1 ng gN a116.2))) else (some ((.sl jb),H21)))
termination_by structural n=>n
def bc.twX (bO:abQ) (ac:Sl) (ag:Int) (H:Hp):OA:=(Hp.new H [(.sl ac),(.int .i64 ag)]).bind λH3=>(Hp.new H3 []).bind λH4=>(Hp.ldSl H4 H.length 0).bind λs5=>(Hp.ldI H4 .i64 H.length (0+1)).bind λn6=>(bO s5 n6 H4).bind λr7=>((r7.1).asTup 2).bind λl8=>(l8[0]?).bind λv9=>((v9).asSl).bind λs10=>(l8[1]?).bind λv11=>((v11).asI .i64).bind λn12=>bc.l61 F bO F H.length 0 (⟨some (H3.length,0),0,.ex 0⟩:Sl) s10 0 r7.2
def bc.tw:=bc.twX F (ak.tw F)
def bc.lh61 (bO:abQ) (ks:abT) (n:Nat) (tm:Tm) (H:Hp):OA:=match ks,tm 1,tm 3,tm 4,tm 6 with
 | [],(.ptr kn pT),(.sl jb),(.sl ng),(.int .i64 gN)=>bc.l61 F bO n kn pT jb ng gN H
 | _,_,_,_,_=>none
def bc.lh (bO:abQ) (p:Nat) (ks:abT) (n:Nat) (tm:Tm) (H:Hp):OA:=bif p.beq 61 then bc.lh61 F bO ks n tm H else (none)
def bc.tb:Nat->List (List Nat):=cS [(7,[[],[],[1],[0,1,2],[0,1,2,3],[0,1,2,3,4],[],[],[7],[6,7,8],[6,7,8,9],[6,7,8,9,10],[],[],[13],[12,13,14],[12,13,14,15],[12,13,14,15,16],[0,1,2,3,4,5],[0,1,2,3,4,5,6,7,8,9,10,11,18],[0,1,2,3,4,5,6,7,8,9,10,11,12,13,14,15,16,17,18,19]])]
def bc.cs (F:Nat) (bO:abQ):Cs:=[(59,mk4 bO)]
theorem bc.loops (bO:abQ):LO (aT (bc.cs F bO)) aC (bc.lh F bO) F Try.f60:=
 (ae.rt (ae.rt (ae.rt (ae.lt (ae.rt (ae.block (ae.la (λn tm H r h=>by change bc.lh61 F bO [] n tm H=_ at h;unfold bc.lh61 at h;split at h;have e:bF tm [(1,_),(3,_),(4,_),(6,_)]:=⟨‹_›,‹_›,‹_›,‹_›,trivial⟩;obtain _ | k61:=n;cases h;exact ⟨_,rfl,by rw [<- bI e];exact Eq.trans (by kernel_rfl) h⟩;cases h) λk61=>ae.no)))))))
theorem bc.eqX (bO:abQ) (ac:Sl) (ag:Int) (H:Hp):EX (aT (bc.cs F bO)) aC (bc.lh F bO) F Try.f60 [(.agg [(.sl ac),(.int .i64 ag)])] H=bc.twX F bO ac ag H:=by kernel_rfl
theorem bc.k:Ok Try.prog 60 (mk4 (bc.tw F)):=by
 intro args H v H' h
 unfold mk4 at h
 split at h
 ·exact okT (TB:=bc.tb) Try.func60 (aU (ak.k F) bo) (bc.loops F (ak.tw F)) ((bc.eqX F (ak.tw F) _ _ H).trans h) (by kernel_rfl)
 ·cases h
def aP.j1 (F:Nat) (pU:Int) (SK:Sl) (jv:Nat) (lR:Nat) (ko:Int) (lT:Int) (H39:Hp):OA:=(bif (ko==lT) then ((Hp.st H39 jv lR (.int .i64 0)).bind λH40=>(Hp.st H40 jv (lR+1) (.sl (⟨none,0,.ex 0⟩:Sl))).bind λH41=>(Hp.ldI H41 .i64 jv lR).bind λn42=>(Hp.ldSl H41 jv (lR+1)).bind λs43=>some ((.agg [(.int .i64 n42),(.sl s43)]),H41)) else ((Hp.new H39 []).bind λH44=>(Sl.cut SK 1 ko lT).bind λs45=>(Sl.row H44 s45 1).bind λxs47=>(Hp.app H44 1 8 (⟨some (H39.length,0),0,.ex 0⟩:Sl) s45.n xs47).bind λa46=>(Hp.st a46.2 jv lR (.int .i64 (wrap .i64 (pU+ko)))).bind λH48=>(Hp.st H48 jv (lR+1) (.sl a46.1)).bind λH49=>(Hp.ldI H49 .i64 jv lR).bind λn50=>(Hp.ldSl H49 jv (lR+1)).bind λs51=>some ((.agg [(.int .i64 n50),(.sl s51)]),H49)))
def aP.l30 (F:Nat) :Nat->Int->Sl->Nat->Nat->Int->Int->Hp->OA
 | 0,_,_,_,_,_,_,_=>none
 | SL+1,iw,pV,kS,sW,eS,gk,H28=>(bif (decide (eS<gk)) then ((Sl.idx pV (wrap .i64 (gk - 1)) 1).bind λp52=>(Hp.ldI H28 .i64 p52.1 p52.2).bind λn53=>(bif (n53==0) then (aP.l30 F SL iw pV kS sW eS (wrap .i64 (gk - 1)) H28) else (aP.j1 F iw pV kS sW eS gk H28))) else (aP.j1 F iw pV kS sW eS gk H28))
termination_by structural n=>n
def aP.j2 (pW:Int) (SM:Sl) (vN:Nat) (SN:Nat) (pX:Int) (pY:Int) (H20:Hp):OA:=aP.l30 F F pW SM vN SN pX pY H20
def aP.l14 (F:Nat) :Nat->Int->Sl->Nat->Nat->Int->Int->Hp->OA
 | 0,_,_,_,_,_,_,_=>none
 | zZ+1,iy,pZ,er,ft,gl,gO,H10=>(bif (decide (gl<gO)) then ((Sl.idx pZ gl 1).bind λp54=>(Hp.ldI H10 .i64 p54.1 p54.2).bind λn55=>(bif (n55==0) then (aP.l14 F zZ iy pZ er ft (wrap .i64 (gl+1)) gO H10) else (aP.j2 F iy pZ er ft gl gO H10))) else (aP.j2 F iy pZ er ft gl gO H10))
termination_by structural n=>n
def aP.twX (ac:Int) (aq:Sl) (H:Hp):OA:=(Hp.new H [.int .i64 0,.sl ⟨none,0,.ex 0⟩]).bind λH3=>aP.l14 F F ac aq H.length 0 0 (aq.n:Int) H3
def aP.tw:=aP.twX F
def aP.lh14 (ks:abT) (n:Nat) (tm:Tm) (H:Hp):OA:=match ks,tm 0,tm 1,tm 4,tm 5,tm 6 with
 | [],(.int .i64 iy),(.sl pZ),(.ptr er ft),(.int .i64 gl),(.int .i64 gO)=>aP.l14 F n iy pZ er ft gl gO H
 | _,_,_,_,_,_=>none
def aP.lh30 (ks:abT) (n:Nat) (tm:Tm) (H:Hp):OA:=match ks,tm 0,tm 1,tm 4,tm 5,tm 6 with
 | [],(.int .i64 iw),(.sl pV),(.ptr kS sW),(.int .i64 eS),(.int .i64 gk)=>aP.l30 F n iw pV kS sW eS gk H
 | _,_,_,_,_,_=>none
def aP.lh (p:Nat) (ks:abT) (n:Nat) (tm:Tm) (H:Hp):OA:=bif p.beq 30 then aP.lh30 F ks n tm H else (bif p.beq 14 then aP.lh14 F ks n tm H else (none))
def mk8 (g:abV) (args:ab0) (H:Hp):OA:=match args with
 | [(.int .i64 ac),(.sl aq)]=>g ac aq H
 | _=>none
theorem mk8_E (g:abV) (ac:Int) (aq:Sl) (H:Hp):mk8 g [(.int .i64 ac),(.sl aq)] H=g ac aq H:=rfl
theorem aP.loops:LO (aT []) aC (aP.lh F) F Try.f200:=
 (ae.rt (ae.rt (ae.seq (ae.block (ae.la (λn tm H r h=>by change aP.lh14 F [] n tm H=_ at h;unfold aP.lh14 at h;split at h;have e:bF tm [(0,_),(1,_),(4,_),(5,_),(6,_)]:=⟨‹_›,‹_›,‹_›,‹_›,‹_›,trivial⟩;obtain _ | k14:=n;cases h;exact ⟨_,rfl,by rw [<- bI e];exact Eq.trans (by kernel_rfl) h⟩;cases h) λk14=>ae.no)) (ae.lt (ae.block (ae.la (λn tm H r h=>by change aP.lh30 F [] n tm H=_ at h;unfold aP.lh30 at h;split at h;have e:bF tm [(0,_),(1,_),(4,_),(5,_),(6,_)]:=⟨‹_›,‹_›,‹_›,‹_›,‹_›,trivial⟩;obtain _ | k30:=n;cases h;exact ⟨_,rfl,by rw [<- bI e];exact Eq.trans (by kernel_rfl) h⟩;cases h) λk30=>ae.no))))))
theorem aP.k:Ok Try.prog 200 (mk8 (aP.tw F)):=by
 intro args H v H' h
 unfold mk8 at h
 split at h
 ·exact okT (PN:=aC) (LH:=(aP.lh F)) (F:=F) (TB:=aC) Try.func200 bo (aP.loops F) (Eq.trans (by kernel_rfl) h) (by kernel_rfl)
 ·cases h
def aJ.j1 (F:Nat) (dk:abV) (nh:Nat) (vO:Nat) (iz:Int) (lU:Sl) (H132:Hp):OA:=(dk iz lU H132).bind λr133=>((r133.1).asAgg 2).bind λl134=>(l134[0]?).bind λv135=>((v135).asI .i64).bind λn136=>(l134[1]?).bind λv137=>((v137).asSl).bind λs138=>(Hp.st r133.2 nh vO (.int .i64 n136)).bind λH139=>(Hp.st H139 nh (vO+1) (.sl s138)).bind λH140=>(Hp.ldI H140 .i64 nh vO).bind λn141=>(Hp.ldSl H140 nh (vO+1)).bind λs142=>some ((.agg [(.int .i64 n141),(.sl s142)]),H140)
def aJ.l1021 (F:Nat) (dk:abV) :Nat->Nat->Nat->Nat->Nat->Int->Sl->Int->Hp->OA
 | 0,_,_,_,_,_,_,_,_=>none
 | SO+1,kp,p_,lV,vP,gP,qd,cD,H103=>(Hp.ldSl H103 kp (p_+1)).bind λs143=>(bif (decide (cD<(s143.n:Int))) then ((Hp.ldI H103 .i64 kp p_).bind λn144=>(Sl.idx qd (wrap .i64 ((wrap .i64 (n144 - gP))+cD)) 1).bind λp145=>(Hp.ldI H103 .i64 p145.1 p145.2).bind λn146=>(Hp.ldSl H103 kp (p_+1)).bind λs147=>(Sl.idx s147 cD 1).bind λp148=>(Hp.ldI H103 .i64 p148.1 p148.2).bind λn149=>(Sl.idx qd (wrap .i64 ((wrap .i64 (n144 - gP))+cD)) 1).bind λp150=>(Hp.st H103 p150.1 p150.2 (.int .i64 (wrap .i64 (n146+n149)))).bind λH151=>aJ.l1021 F dk SO kp p_ lV vP gP qd (wrap .i64 (cD+1)) H151) else (aJ.j1 F dk lV vP gP qd H103))
termination_by structural n=>n
def aJ.j2 (dk:abV) (vQ:Nat) (SP:Nat) (vR:Nat) (SQ:Nat) (qe:Int) (SS:Sl) (H84:Hp):OA:=aJ.l1021 F dk F vQ SP vR SQ qe SS 0 H84
def aJ.l509 (F:Nat) (dk:abV) :Nat->Nat->Nat->Nat->Nat->Nat->Nat->Int->Sl->Int->Hp->OA
 | 0,_,_,_,_,_,_,_,_,_,_=>none
 | vI+1,kq,qf,lW,vS,lX,vT,gQ,qg,gm,H57=>(Hp.ldSl H57 kq (qf+1)).bind λs152=>(bif (decide (gm<(s152.n:Int))) then ((Hp.ldI H57 .i64 kq qf).bind λn153=>(Sl.idx qg (wrap .i64 ((wrap .i64 (n153 - gQ))+gm)) 1).bind λp154=>(Hp.ldI H57 .i64 p154.1 p154.2).bind λn155=>(Hp.ldSl H57 kq (qf+1)).bind λs156=>(Sl.idx s156 gm 1).bind λp157=>(Hp.ldI H57 .i64 p157.1 p157.2).bind λn158=>(Sl.idx qg (wrap .i64 ((wrap .i64 (n153 - gQ))+gm)) 1).bind λp159=>(Hp.st H57 p159.1 p159.2 (.int .i64 (wrap .i64 (n155+n158)))).bind λH160=>aJ.l509 F dk vI kq qf lW vS lX vT gQ qg (wrap .i64 (gm+1)) H160) else (aJ.j2 F dk lW vS lX vT gQ qg H57))
termination_by structural n=>n
def aJ.twX (dk:abV) (ac:Int) (ag:Sl) (ay:Int) (bp:Sl) (H:Hp):OA:=(Hp.new H [(.int .i64 ac),(.sl ag)]).bind λH5=>(Hp.new H5 [(.int .i64 ay),(.sl bp)]).bind λH6=>(Hp.new H6 [.int .i64 0,.sl ⟨none,0,.ex 0⟩]).bind λH7=>(Hp.ldSl H7 H.length 1).bind λs8=>(bif ((s8.n:Int)==0) then ((Hp.ldI H7 .i64 H5.length 0).bind λn9=>(Hp.ldSl H7 H5.length 1).bind λs10=>(dk n9 s10 H7).bind λr11=>((r11.1).asAgg 2).bind λl12=>(l12[0]?).bind λv13=>((v13).asI .i64).bind λn14=>(l12[1]?).bind λv15=>((v15).asSl).bind λs16=>(Hp.st r11.2 H6.length 0 (.int .i64 n14)).bind λH17=>(Hp.st H17 H6.length (0+1) (.sl s16)).bind λH18=>(Hp.ldI H18 .i64 H6.length 0).bind λn19=>(Hp.ldSl H18 H6.length (0+1)).bind λs20=>some ((.agg [(.int .i64 n19),(.sl s20)]),H18)) else ((Hp.ldSl H7 H5.length 1).bind λs21=>(bif ((s21.n:Int)==0) then ((Hp.ldI H7 .i64 H.length 0).bind λn22=>(Hp.ldSl H7 H.length 1).bind λs23=>(dk n22 s23 H7).bind λr24=>((r24.1).asAgg 2).bind λl25=>(l25[0]?).bind λv26=>((v26).asI .i64).bind λn27=>(l25[1]?).bind λv28=>((v28).asSl).bind λs29=>(Hp.st r24.2 H6.length 0 (.int .i64 n27)).bind λH30=>(Hp.st H30 H6.length (0+1) (.sl s29)).bind λH31=>(Hp.ldI H31 .i64 H6.length 0).bind λn32=>(Hp.ldSl H31 H6.length (0+1)).bind λs33=>some ((.agg [(.int .i64 n32),(.sl s33)]),H31)) else ((Hp.ldI H7 .i64 H.length 0).bind λn34=>(Hp.ldI H7 .i64 H5.length 0).bind λn35=>(Hp.ldI H7 .i64 H.length 0).bind λn36=>(Hp.ldSl H7 H.length 1).bind λs37=>(Hp.ldI H7 .i64 H5.length 0).bind λn38=>(Hp.ldSl H7 H5.length 1).bind λs39=>(Hp.mk H7 [.int .i64 0] 8 (wrap .i64 ((if (wrap .i64 (n38+(s39.n:Int)))>(wrap .i64 (n36+(s37.n:Int))) then (wrap .i64 (n38+(s39.n:Int))) else (wrap .i64 (n36+(s37.n:Int)))) - (if n35<n34 then n35 else n34))) (wrap .i64 ((if (wrap .i64 (n38+(s39.n:Int)))>(wrap .i64 (n36+(s37.n:Int))) then (wrap .i64 (n38+(s39.n:Int))) else (wrap .i64 (n36+(s37.n:Int)))) - (if n35<n34 then n35 else n34)))).bind λm40=>aJ.l509 F dk F H.length 0 H5.length 0 H6.length 0 (if n35<n34 then n35 else n34) m40.1 0 m40.2))))
def aJ.tw:=aJ.twX F (aP.tw F)
def aJ.lh509 (dk:abV) (ks:abT) (n:Nat) (tm:Tm) (H:Hp):OA:=match ks,tm 2,tm 3,tm 4,tm 5,tm 7,tm 8 with
 | [],(.ptr kq qf),(.ptr lW vS),(.ptr lX vT),(.int .i64 gQ),(.sl qg),(.int .i64 gm)=>aJ.l509 F dk n kq qf lW vS lX vT gQ qg gm H
 | _,_,_,_,_,_,_=>none
def aJ.lh1021 (dk:abV) (ks:abT) (n:Nat) (tm:Tm) (H:Hp):OA:=match ks,tm 3,tm 4,tm 5,tm 7,tm 9 with
 | [],(.ptr kp p_),(.ptr lV vP),(.int .i64 gP),(.sl qd),(.int .i64 cD)=>aJ.l1021 F dk n kp p_ lV vP gP qd cD H
 | _,_,_,_,_,_=>none
def aJ.lh (dk:abV) (p:Nat) (ks:abT) (n:Nat) (tm:Tm) (H:Hp):OA:=bif p.beq 1021 then aJ.lh1021 F dk ks n tm H else (bif p.beq 509 then aJ.lh509 F dk ks n tm H else (none))
def aJ.pn:Nat->List Nat:=cS [(11,[16]),(15,[16])]
def aJ.tb:Nat->List (List Nat):=cS [(11,[[],[],[1],[],[1,2,3],[],[1,2,3,4,5],[0,1,2,3,4,5,6],[0,1,2,3,4,5,6,7],[],[9],[],[9,10,11],[9,10,11,12],[0,1,2,3,4,5,6,7,8,9,10,11,12,13],[0,1,2,3,4,5,6,7,8,9,10,11,12,13,14],[0,1,2,3,4,5,6,7,8,9,10,11,12,13,14,15]]),(15,[[],[],[1],[],[1,2,3],[],[1,2,3,4,5],[0,1,2,3,4,5,6],[0,1,2,3,4,5,6,7],[],[9],[],[9,10,11],[9,10,11,12],[0,1,2,3,4,5,6,7,8,9,10,11,12,13],[0,1,2,3,4,5,6,7,8,9,10,11,12,13,14],[0,1,2,3,4,5,6,7,8,9,10,11,12,13,14,15]])]
def mk9 (g:ab3) (args:ab0) (H:Hp):OA:=match args with
 | [(.agg [(.int .i64 ac),(.sl ag)]),(.agg [(.int .i64 ay),(.sl bp)])]=>g ac ag ay bp H
 | _=>none
theorem mk9_E (g:ab3) (ac:Int) (ag:Sl) (ay:Int) (bp:Sl) (H:Hp):mk9 g [(.agg [(.int .i64 ac),(.sl ag)]),(.agg [(.int .i64 ay),(.sl bp)])] H=g ac ag ay bp H:=rfl
def aJ.cs (F:Nat) (dk:abV):Cs:=[(200,mk8 dk)]
theorem aJ.loops (dk:abV):LO (aT (aJ.cs F dk)) aJ.pn (aJ.lh F dk) F Try.f172:=
 (ae.rt (ae.rt (ae.rt (ae.rt (ae.rt (ae.rt (ae.seq (ae.rt (ae.block (ae.la (λn tm H r h=>by change aJ.lh509 F dk [] n tm H=_ at h;unfold aJ.lh509 at h;split at h;have e:bF tm [(2,_),(3,_),(4,_),(5,_),(7,_),(8,_)]:=⟨‹_›,‹_›,‹_›,‹_›,‹_›,‹_›,trivial⟩;obtain _ | k509:=n;cases h;exact ⟨_,rfl,by rw [<- bI e];exact Eq.trans (by kernel_rfl) h⟩;cases h) λk509=>ae.no))) (ae.lt (ae.rt (ae.block (ae.la (λn tm H r h=>by change aJ.lh1021 F dk [] n tm H=_ at h;unfold aJ.lh1021 at h;split at h;have e:bF tm [(3,_),(4,_),(5,_),(7,_),(9,_)]:=⟨‹_›,‹_›,‹_›,‹_›,‹_›,trivial⟩;obtain _ | k1021:=n;cases h;exact ⟨_,rfl,by rw [<- bI e];exact Eq.trans (by kernel_rfl) h⟩;cases h) λk1021=>ae.no)))))))))))
theorem aJ.eqX (dk:abV) (ac:Int) (ag:Sl) (ay:Int) (bp:Sl) (H:Hp):EX (aT (aJ.cs F dk)) aJ.pn (aJ.lh F dk) F Try.f172 [(.agg [(.int .i64 ac),(.sl ag)]),(.agg [(.int .i64 ay),(.sl bp)])] H=aJ.twX F dk ac ag ay bp H:=by kernel_rfl
theorem aJ.k:Ok Try.prog 172 (mk9 (aJ.tw F)):=by
 intro args H v H' h
 unfold mk9 at h
 split at h
 ·exact okT (TB:=aJ.tb) Try.func172 (aU (aP.k F) bo) (aJ.loops F (aP.tw F)) ((aJ.eqX F (aP.tw F) _ _ _ _ H).trans h) (by kernel_rfl)
 ·cases h
def aK.j4 (F:Nat) (dJ:ab3) (C61_:acr) (SU:Sl) (qh:Int) (vU:Nat) (zY:Nat) (js:Nat) (lY:Nat) (lZ:Int) (iA:Int) (H149:Hp):OA:=C61_ SU qh vU zY js lY lZ (wrap .i64 (iA+1)) H149
def aK.j5 (dJ:ab3) (C61_:acr) (z_:Sl) (gI:Int) (sX:Nat) (Jb:Nat) (sY:Nat) (Jc:Nat) (l_:Int) (kr:Int) (H134:Hp):OA:=(Sl.idx z_ kr 1).bind λp135=>(Hp.ldI H134 .i64 p135.1 p135.2).bind λn136=>(bif (decide (n136>0)) then (aK.j4 F dJ C61_ z_ gI sX Jb sY Jc (wrap .i64 (l_+1)) kr H134) else (aK.j4 F dJ C61_ z_ gI sX Jb sY Jc (wrap .i64 (l_ - 1)) kr H134))
def aK.j6 (dJ:ab3) (C61_:acr) (Aa:Sl) (eY:Int) (sZ:Nat) (Jd:Nat) (kT:Nat) (qi:Nat) (gj:Int) (kt:Int) (H109:Hp):OA:=(Sl.idx Aa kt 1).bind λp110=>(Hp.ldI H109 .i64 p110.1 p110.2).bind λn111=>(bif (n111==(wrap .i64 (0 - eY))) then ((Hp.ldI H109 .i64 kT qi).bind λn112=>(Hp.ldSl H109 kT (qi+1)).bind λs113=>(Hp.new H109 [(.int .i64 (-1))]).bind λH114=>(dJ n112 s113 (wrap .i64 (gj - 1)) (⟨some (H109.length,0),1,.ex 1⟩:Sl) H114).bind λr115=>((r115.1).asAgg 2).bind λl116=>(l116[0]?).bind λv117=>((v117).asI .i64).bind λn118=>(l116[1]?).bind λv119=>((v119).asSl).bind λs120=>(Hp.st r115.2 kT qi (.int .i64 n118)).bind λH121=>(Hp.st H121 kT (qi+1) (.sl s120)).bind λH122=>aK.j5 F dJ C61_ Aa eY sZ Jd kT qi gj kt H122) else (aK.j5 F dJ C61_ Aa eY sZ Jd kT qi gj kt H109))
def aK.l61 (F:Nat) (dJ:ab3) :Nat->Sl->Int->Nat->Nat->Nat->Nat->Int->Int->Hp->OA
 | 0,_,_,_,_,_,_,_,_,_=>none
 | bY+1,qj,bV,jc,ma,ia,ee,iB,gR,H15=>(bif (decide (gR<(qj.n:Int))) then ((Sl.idx qj gR 1).bind λp86=>(Hp.ldI H15 .i64 p86.1 p86.2).bind λn87=>(bif (n87==bV) then ((Hp.ldI H15 .i64 ia ee).bind λn88=>(Hp.ldSl H15 ia (ee+1)).bind λs89=>(Hp.new H15 [(.int .i64 1)]).bind λH90=>(dJ n88 s89 iB (⟨some (H15.length,0),1,.ex 1⟩:Sl) H90).bind λr91=>((r91.1).asAgg 2).bind λl92=>(l92[0]?).bind λv93=>((v93).asI .i64).bind λn94=>(l92[1]?).bind λv95=>((v95).asSl).bind λs96=>(Hp.st r91.2 ia ee (.int .i64 n94)).bind λH97=>(Hp.st H97 ia (ee+1) (.sl s96)).bind λH98=>aK.j6 F dJ (aK.l61 F dJ bY) qj bV jc ma ia ee iB gR H98) else (aK.j6 F dJ (aK.l61 F dJ bY) qj bV jc ma ia ee iB gR H15))) else ((Hp.ldI H15 .i64 ia ee).bind λn150=>(Hp.ldSl H15 ia (ee+1)).bind λs151=>(Hp.st H15 jc ma (.int .i64 n150)).bind λH152=>(Hp.st H152 jc (ma+1) (.sl s151)).bind λH153=>(Hp.ldI H153 .i64 jc ma).bind λn154=>(Hp.ldSl H153 jc (ma+1)).bind λs155=>some ((.agg [(.int .i64 n154),(.sl s155)]),H153)))
termination_by structural n=>n
def aK.twX (dJ:ab3) (ac:Sl) (aq:Int) (H:Hp):OA:=(Hp.new H [.int .i64 0,.sl ⟨none,0,.ex 0⟩]).bind λH3=>(Hp.new H3 [.int .i64 0,.sl ⟨none,0,.ex 0⟩]).bind λH4=>(Hp.st H4 H3.length 0 (.int .i64 0)).bind λH5=>(Hp.st H5 H3.length (0+1) (.sl (⟨none,0,.ex 0⟩:Sl))).bind λH6=>aK.l61 F dJ F ac aq H.length 0 H3.length 0 0 0 H6
def aK.tw:=aK.twX F (aJ.tw F)
def aK.lh61 (dJ:ab3) (ks:abT) (n:Nat) (tm:Tm) (H:Hp):OA:=match ks,tm 0,tm 1,tm 4,tm 5,tm 6,tm 7 with
 | [],(.sl qj),(.int .i64 bV),(.ptr jc ma),(.ptr ia ee),(.int .i64 iB),(.int .i64 gR)=>aK.l61 F dJ n qj bV jc ma ia ee iB gR H
 | _,_,_,_,_,_,_=>none
def aK.lh (dJ:ab3) (p:Nat) (ks:abT) (n:Nat) (tm:Tm) (H:Hp):OA:=bif p.beq 61 then aK.lh61 F dJ ks n tm H else (none)
def aK.cs (F:Nat) (dJ:ab3):Cs:=[(172,mk9 dJ)]
theorem aK.loops (dJ:ab3):LO (aT (aK.cs F dJ)) aC (aK.lh F dJ) F Try.f133:=
 (ae.rt (ae.rt (ae.rt (ae.lt (ae.rt (ae.block (ae.la (λn tm H r h=>by change aK.lh61 F dJ [] n tm H=_ at h;unfold aK.lh61 at h;split at h;have e:bF tm [(0,_),(1,_),(4,_),(5,_),(6,_),(7,_)]:=⟨‹_›,‹_›,‹_›,‹_›,‹_›,‹_›,trivial⟩;obtain _ | k61:=n;cases h;exact ⟨_,rfl,by rw [<- bI e];exact Eq.trans (by kernel_rfl) h⟩;cases h) λk61=>ae.no)))))))
theorem aK.eqX (dJ:ab3) (ac:Sl) (aq:Int) (H:Hp):EX (aT (aK.cs F dJ)) aC (aK.lh F dJ) F Try.f133 [(.sl ac),(.int .i64 aq)] H=aK.twX F dJ ac aq H:=by kernel_rfl
theorem aK.k:Ok Try.prog 133 (mk0 (aK.tw F)):=by
 intro args H v H' h
 unfold mk0 at h
 split at h
 ·exact okT (TB:=aC) Try.func133 (aU (aJ.k F) bo) (aK.loops F (aJ.tw F)) ((aK.eqX F (aJ.tw F) _ _ H).trans h) (by kernel_rfl)
 ·cases h
def aQ.j3 (F:Nat) (bO:abQ) (dA:abQ) (dB:abQ) (C125_:ace) (SV:Sl) (lY:Int) (lZ:Sl) (iA:Int) (H149:Hp):OA:=C125_ SV lY lZ (wrap .i64 (iA+1)) H149
def aQ.j4 (bO:abQ) (dA:abQ) (dB:abQ) (C125_:ace) (SW:Sl) (iz:Int) (SX:Sl) (lU:Int) (SY:Sl) (H132:Hp):OA:=(Hp.new H132 [(.sl SY)]).bind λH133=>(Sl.row H133 (⟨some (H132.length,0),1,.ex 1⟩:Sl) 1).bind λxs135=>(Hp.app H133 1 24 SW (⟨some (H132.length,0),1,.ex 1⟩:Sl).n xs135).bind λa134=>aQ.j3 F bO dA dB C125_ a134.1 iz SX lU a134.2
def aQ.l8021 (F:Nat) (bO:abQ) (dA:abQ) (dB:abQ) (C125_:ace):Nat->Sl->Int->Sl->Int->Sl->Int->Hp->OA
 | 0,_,_,_,_,_,_,_=>none
 | SZ+1,vV,iC,s_,iD,vW,iE,H107=>(bif (decide (iE<=iC)) then ((Sl.idx s_ iD 1).bind λp150=>(Hp.ldSl H107 p150.1 p150.2).bind λs151=>(dB s151 iE H107).bind λr152=>((r152.1).asAgg 2).bind λl153=>(l153[0]?).bind λv154=>((v154).asI .i64).bind λn155=>(l153[1]?).bind λv156=>((v156).asSl).bind λs157=>(Hp.new r152.2 [(.int .i64 n155),(.sl s157)]).bind λH158=>(Sl.row H158 (⟨some (r152.2.length,0),1,.ex 1⟩:Sl) 2).bind λxs160=>(Hp.app H158 2 32 vW (⟨some (r152.2.length,0),1,.ex 1⟩:Sl).n xs160).bind λa159=>aQ.l8021 F bO dA dB C125_ SZ vV iC s_ iD a159.1 (wrap .i64 (iE+1)) a159.2) else (aQ.j4 F bO dA dB C125_ vV iC s_ iD vW H107))
def aQ.l125 (F:Nat) (bO:abQ) (dA:abQ) (dB:abQ) :Nat->Sl->Int->Sl->Int->Hp->OA
 | 0,_,_,_,_,_=>none
 | ni+1,vX,kU,vY,jw,H26=>(bif (decide (jw<(vY.n:Int))) then ((Hp.new H26 []).bind λH94=>aQ.l8021 F bO dA dB (aQ.l125 F bO dA dB ni) F vX kU vY jw (⟨some (H26.length,0),0,.ex 0⟩:Sl) 1 H94) else (some ((.sl vX),H26)))
def aQ.twX (bO:abQ) (dA:abQ) (dB:abQ) (ac:Sl) (ag:Int) (H:Hp):OA:=(Hp.new H [(.sl ac),(.int .i64 ag)]).bind λH3=>(Hp.new H3 []).bind λH4=>(Hp.ldSl H4 H.length 0).bind λs5=>(Hp.ldI H4 .i64 H.length (0+1)).bind λn6=>(bO s5 n6 H4).bind λr7=>((r7.1).asTup 2).bind λl8=>(l8[0]?).bind λv9=>((v9).asSl).bind λs10=>(l8[1]?).bind λv11=>((v11).asI .i64).bind λn12=>(Hp.ldSl r7.2 H.length 0).bind λs13=>(Hp.ldI r7.2 .i64 H.length (0+1)).bind λn14=>(dA s13 n14 r7.2).bind λr15=>((r15.1).asSl).bind λs16=>aQ.l125 F bO dA dB F (⟨some (H3.length,0),0,.ex 0⟩:Sl) n12 s16 0 r15.2
def aQ.tw:=aQ.twX F (ak.tw F) (bc.tw F) (aK.tw F)
def aQ.lh125 (bO:abQ) (dA:abQ) (dB:abQ) (ks:abT) (n:Nat) (tm:Tm) (H:Hp):OA:=match ks,tm 3,tm 5,tm 6,tm 7 with
 | [],(.sl vX),(.int .i64 kU),(.sl vY),(.int .i64 jw)=>aQ.l125 F bO dA dB n vX kU vY jw H
 | _,_,_,_,_=>none
def aQ.lh8021 (bO:abQ) (dA:abQ) (dB:abQ) (ks:abT) (n:Nat) (tm:Tm) (H:Hp):OA:=match ks,tm 3,tm 5,tm 6,tm 7,tm 8,tm 9 with
 | [ni],(.sl vV),(.int .i64 iC),(.sl s_),(.int .i64 iD),(.sl vW),(.int .i64 iE)=>aQ.l8021 F bO dA dB (aQ.l125 F bO dA dB ni) n vV iC s_ iD vW iE H
 | _,_,_,_,_,_,_=>none
def aQ.lh (bO:abQ) (dA:abQ) (dB:abQ) (p:Nat) (ks:abT) (n:Nat) (tm:Tm) (H:Hp):OA:=bif p.beq 8021 then aQ.lh8021 F bO dA dB ks n tm H else (bif p.beq 125 then aQ.lh125 F bO dA dB ks n tm H else (none))
def aQ.cs (F:Nat) (bO:abQ) (dA:abQ) (dB:abQ):Cs:=[(59,mk4 bO),(60,mk4 dA),(133,mk0 dB)]
theorem aQ.loops (bO:abQ) (dA:abQ) (dB:abQ):LO (aT (aQ.cs F bO dA dB)) aC (aQ.lh F bO dA dB) F Try.f72:=
 (ae.rt (ae.rt (ae.rt (ae.rt (ae.lt (ae.rt (ae.block (ae.la (λn tm H r h=>by change aQ.lh125 F bO dA dB [] n tm H=_ at h;unfold aQ.lh125 at h;split at h;have e:bF tm [(3,_),(5,_),(6,_),(7,_)]:=⟨‹_›,‹_›,‹_›,‹_›,trivial⟩;obtain _ | k125:=n;cases h;exact ⟨_,rfl,by rw [<- bI e];exact Eq.trans (by kernel_rfl) h⟩;cases h) λk125=>(ae.rt (ae.lt (ae.block (ae.rt (ae.lt (ae.rt (ae.block (ae.la (λn tm H r h=>by change aQ.lh8021 F bO dA dB [k125] n tm H=_ at h;unfold aQ.lh8021 at h;split at h;have e:bF tm [(3,_),(5,_),(6,_),(7,_),(8,_),(9,_)]:=⟨‹_›,‹_›,‹_›,‹_›,‹_›,‹_›,trivial⟩;cases (show [k125]=_ from ‹_›);obtain _ | k8021:=n;cases h;exact ⟨_,rfl,by rw [<- bI e];exact Eq.trans (by kernel_rfl) h⟩;cases h) λk8021=>ae.no))))))))))))))))
theorem aQ.eqX (bO:abQ) (dA:abQ) (dB:abQ) (ac:Sl) (ag:Int) (H:Hp):EX (aT (aQ.cs F bO dA dB)) aC (aQ.lh F bO dA dB) F Try.f72 [(.agg [(.sl ac),(.int .i64 ag)])] H=aQ.twX F bO dA dB ac ag H:=by kernel_rfl
theorem aQ.k:Ok Try.prog 72 (mk4 (aQ.tw F)):=by
 intro args H v H' h
 unfold mk4 at h
 split at h
 ·exact okT (TB:=aC) Try.func72 (aU (ak.k F) (aU (bc.k F) (aU (aK.k F) bo))) (aQ.loops F (ak.tw F) (bc.tw F) (aK.tw F)) ((aQ.eqX F (ak.tw F) (bc.tw F) (aK.tw F) _ _ H).trans h) (by kernel_rfl)
 ·cases h
def es.twX (F:Nat) (qk:abQ) (qn:abQ) (ac:Sl) (ag:Int) (H:Hp):OA:=(Hp.new H [(.sl ac),(.int .i64 ag)]).bind λH3=>(Hp.ldSl H3 H.length 0).bind λs4=>(Hp.ldI H3 .i64 H.length (0+1)).bind λn5=>(qk s4 n5 H3).bind λr6=>((r6.1).asB).bind λb7=>(bif (!b7) then ((Hp.new r6.2 []).bind λH8=>some ((.tup [(.sl (⟨some (r6.2.length,0),0,.ex 0⟩:Sl)),(.bool false)]),H8)) else ((Hp.ldSl r6.2 H.length 0).bind λs9=>(Hp.ldI r6.2 .i64 H.length (0+1)).bind λn10=>(qn s9 n10 r6.2).bind λr11=>((r11.1).asSl).bind λs12=>some ((.tup [(.sl s12),(.bool true)]),r11.2)))
def es.tw:=es.twX F (dz.tw F) (aQ.tw F)
def es.cs (F:Nat) (qk:abQ) (qn:abQ):Cs:=[(47,mk4 qk),(72,mk4 qn)]
theorem es.eqX (qk:abQ) (qn:abQ) (ac:Sl) (ag:Int) (H:Hp):EX (aT (es.cs F qk qn)) aC lh0 F Try.f20 [(.agg [(.sl ac),(.int .i64 ag)])] H=es.twX F qk qn ac ag H:=by kernel_rfl
theorem es.k:Ok Try.prog 20 (mk4 (es.tw F)):=by
 intro args H v H' h
 unfold mk4 at h
 split at h
 ·exact okT (TB:=aC) Try.func20 (aU (dz.k F) (aU (aQ.k F) bo)) ae.no ((es.eqX F (dz.tw F) (aQ.tw F) _ _ H).trans h) (by kernel_rfl)
 ·cases h
def cl.twX (F:Nat) (ac:Sl) (H:Hp):OA:=some ((.int .i64 (ac.n:Int)),H)
def cl.tw:=cl.twX F
theorem cl.k:Ok Try.prog 128 (mk3 (cl.tw F)):=by
 intro args H v H' h
 unfold mk3 at h
 split at h
 ·exact ok0 Try.func128 (Eq.trans (by kernel_rfl) h) (by kernel_rfl) (by kernel_rfl)
 ·cases h
def de.twX (F:Nat) (ac:Int) (aq:Int) (dy:Int) (H:Hp):OA:=(bif (decide (aq<=ac)) then (some ((.bool (decide (ac<=dy))),H)) else (some ((.bool false),H)))
def de.tw:=de.twX F
theorem de.k:Ok Try.prog 112 (mk5 (de.tw F)):=by
 intro args H v H' h
 unfold mk5 at h
 split at h
 ·exact ok0 Try.func112 (Eq.trans (by kernel_rfl) h) (by kernel_rfl) (by kernel_rfl)
 ·cases h
def eT.twX (F:Nat) (ac:Int) (ag:Int) (bG:Int) (bH:Int) (bz:Int) (H:Hp):OA:=(Hp.new H [(.int .i64 ac),(.int .i64 ag),(.int .i64 bG),(.int .i64 bH),(.int .i64 bz)]).bind λH6=>(Hp.ldI H6 .i64 H.length 4).bind λn7=>(bif (n7 != 1) then ((Hp.ldI H6 .i64 H.length 4).bind λn8=>some ((.bool (n8 != (-1))),H6)) else (some ((.bool false),H6)))
def eT.tw:=eT.twX F
theorem eT.k:Ok Try.prog 157 (mk2 (eT.tw F)):=by
 intro args H v H' h
 unfold mk2 at h
 split at h
 ·exact ok0 Try.func157 (Eq.trans (by kernel_rfl) h) (by kernel_rfl) (by kernel_rfl)
 ·cases h
def bJ.l13 (F:Nat) (fJ:ab4) :Nat->Sl->Int->Int->Hp->OA
 | 0,_,_,_,_=>none
 | eK+1,ib,cN,bW,H6=>(bif (decide (bW<cN)) then ((Sl.idx ib bW 5).bind λp15=>(Hp.ldI H6 .i64 p15.1 p15.2).bind λn16=>(Hp.ldI H6 .i64 p15.1 (p15.2+1)).bind λn17=>(Hp.ldI H6 .i64 p15.1 (p15.2+2)).bind λn18=>(Hp.ldI H6 .i64 p15.1 (p15.2+3)).bind λn19=>(Hp.ldI H6 .i64 p15.1 (p15.2+4)).bind λn20=>(fJ n16 n17 n18 n19 n20 H6).bind λr21=>((r21.1).asB).bind λb22=>(bif b22 then (some ((.int .i64 bW),r21.2)) else (bJ.l13 F fJ eK ib cN (wrap .i64 (bW+1)) r21.2))) else (some ((.int .i64 (-1)),H6)))
def bJ.twX (fJ:ab4) (ac:Sl) (H:Hp):OA:=bJ.l13 F fJ F ac (ac.n:Int) 0 H
def bJ.tw:=bJ.twX F (eT.tw F)
def bJ.lh13 (fJ:ab4) (ks:abT) (n:Nat) (tm:Tm) (H:Hp):OA:=match ks,tm 0,tm 1,tm 7,tm 8 with
 | [],(.sl ib),(.fn 157 []),(.int .i64 cN),(.int .i64 bW)=>bJ.l13 F fJ n ib cN bW H
 | _,_,_,_,_=>none
def bJ.lh (fJ:ab4) (p:Nat) (ks:abT) (n:Nat) (tm:Tm) (H:Hp):OA:=bif p.beq 13 then bJ.lh13 F fJ ks n tm H else (none)
def mk10 (g:abS) (args:ab0) (H:Hp):OA:=match args with
 | [(.sl ac),(.fn 157 [])]=>g ac H
 | _=>none
theorem mk10_E (g:abS) (ac:Sl) (H:Hp):mk10 g [(.sl ac),(.fn 157 [])] H=g ac H:=rfl
def bJ.cs (F:Nat) (fJ:ab4):Cs:=[(157,mk2 fJ)]
theorem bJ.loops (fJ:ab4):LO (aT (bJ.cs F fJ)) aC (bJ.lh F fJ) F Try.f192:=
 (ae.rt (ae.lt (ae.rt (ae.block (ae.la (λn tm H r h=>by change bJ.lh13 F fJ [] n tm H=_ at h;unfold bJ.lh13 at h;split at h;have e:bF tm [(0,_),(1,_),(7,_),(8,_)]:=⟨‹_›,‹_›,‹_›,‹_›,trivial⟩;obtain _ | k13:=n;cases h;exact ⟨_,rfl,by rw [<- bI e];exact Eq.trans (by kernel_rfl) h⟩;cases h) λk13=>ae.no)))))
theorem bJ.eqX (fJ:ab4) (ac:Sl) (H:Hp):EX (aT (bJ.cs F fJ)) aC (bJ.lh F fJ) F Try.f192 [(.sl ac),(.fn 157 [])] H=bJ.twX F fJ ac H:=by kernel_rfl
theorem bJ.k:Ok Try.prog 192 (mk10 (bJ.tw F)):=by
 intro args H v H' h
 unfold mk10 at h
 split at h
 ·exact okT (TB:=aC) Try.func192 (aU (eT.k F) bo) (bJ.loops F (eT.tw F)) ((bJ.eqX F (eT.tw F) _ H).trans h) (by kernel_rfl)
 ·cases h
def et.twX (F:Nat) (qo:abS) (ac:Sl) (H:Hp):OA:=(qo ac H).bind λr2=>((r2.1).asI .i64).bind λn3=>some ((.bool (decide (n3>=0))),r2.2)
def et.tw:=et.twX F (bJ.tw F)
def et.cs (F:Nat) (qo:abS):Cs:=[(192,mk10 qo)]
theorem et.eqX (qo:abS) (ac:Sl) (H:Hp):EX (aT (et.cs F qo)) aC lh0 F Try.f156 [(.sl ac),(.fn 157 [])] H=et.twX F qo ac H:=by kernel_rfl
theorem et.k:Ok Try.prog 156 (mk10 (et.tw F)):=by
 intro args H v H' h
 unfold mk10 at h
 split at h
 ·exact okT (TB:=aC) Try.func156 (aU (bJ.k F) bo) ae.no ((et.eqX F (bJ.tw F) _ H).trans h) (by kernel_rfl)
 ·cases h
def bits_Mul64.twX (F:Nat) (ac:Int) (aq:Int) (H:Hp):OA:=some ((.tup [(.int .u64 (IntKind.u64.wrap ((IntKind.u64.wrap ((IntKind.u64.wrap ((Int.fdiv ac (2 ^ (min (32:Int).toNat (IntKind.u64).bits))) * (Int.fdiv aq (2 ^ (min (32:Int).toNat (IntKind.u64).bits)))))+(Int.fdiv (IntKind.u64.wrap ((IntKind.u64.wrap ((Int.fdiv ac (2 ^ (min (32:Int).toNat (IntKind.u64).bits))) * (Go.bits .and .u64 aq 4294967295)))+(Int.fdiv (IntKind.u64.wrap ((Go.bits .and .u64 ac 4294967295) * (Go.bits .and .u64 aq 4294967295))) (2 ^ (min (32:Int).toNat (IntKind.u64).bits))))) (2 ^ (min (32:Int).toNat (IntKind.u64).bits)))))+(Int.fdiv (IntKind.u64.wrap ((Go.bits .and .u64 (IntKind.u64.wrap ((IntKind.u64.wrap ((Int.fdiv ac (2 ^ (min (32:Int).toNat (IntKind.u64).bits))) * (Go.bits .and .u64 aq 4294967295)))+(Int.fdiv (IntKind.u64.wrap ((Go.bits .and .u64 ac 4294967295) * (Go.bits .and .u64 aq 4294967295))) (2 ^ (min (32:Int).toNat (IntKind.u64).bits))))) 4294967295)+(IntKind.u64.wrap ((Go.bits .and .u64 ac 4294967295) * (Int.fdiv aq (2 ^ (min (32:Int).toNat (IntKind.u64).bits))))))) (2 ^ (min (32:Int).toNat (IntKind.u64).bits)))))),(.int .u64 (IntKind.u64.wrap (ac * aq)))]),H)
def bits_Mul64.tw:=bits_Mul64.twX F
def mk11 (g:ab5) (args:ab0) (H:Hp):OA:=match args with
 | [(.int .u64 ac),(.int .u64 aq)]=>g ac aq H
 | _=>none
theorem mk11_E (g:ab5) (ac:Int) (aq:Int) (H:Hp):mk11 g [(.int .u64 ac),(.int .u64 aq)] H=g ac aq H:=rfl
theorem bits_Mul64.k:Ok Try.prog 219 (mk11 (bits_Mul64.tw F)):=by
 intro args H v H' h
 unfold mk11 at h
 split at h
 ·exact ok0 Try.func219 (Eq.trans (by kernel_rfl) h) (by kernel_rfl) (by kernel_rfl)
 ·cases h
def bits_Mul.twX (F:Nat) (g_bits_Mul64:ab5) (ac:Int) (aq:Int) (H:Hp):OA:=(g_bits_Mul64 ac aq H).bind λr3=>((r3.1).asTup 2).bind λl4=>(l4[0]?).bind λv5=>((v5).asI .u64).bind λn6=>(l4[1]?).bind λv7=>((v7).asI .u64).bind λn8=>some ((.tup [(.int .u64 n6),(.int .u64 n8)]),r3.2)
def bits_Mul.tw:=bits_Mul.twX F (bits_Mul64.tw F)
def bits_Mul.cs (F:Nat) (g_bits_Mul64:ab5):Cs:=[(219,mk11 g_bits_Mul64)]
theorem bits_Mul.eqX (g_bits_Mul64:ab5) (ac:Int) (aq:Int) (H:Hp):EX (aT (bits_Mul.cs F g_bits_Mul64)) aC lh0 F Try.f197 [(.int .u64 ac),(.int .u64 aq)] H=bits_Mul.twX F g_bits_Mul64 ac aq H:=by kernel_rfl
theorem bits_Mul.k:Ok Try.prog 197 (mk11 (bits_Mul.tw F)):=by
 intro args H v H' h
 unfold mk11 at h
 split at h
 ·exact okT (TB:=aC) Try.func197 (aU (bits_Mul64.k F) bo) ae.no ((bits_Mul.eqX F (bits_Mul64.tw F) _ _ H).trans h) (by kernel_rfl)
 ·cases h
def bi.l254 (F:Nat) (g_bits_Mul:ab5) :Nat->Sl->Int->Hp->OA
 | 0,_,_,_=>none
 | S_+1,mb,qp,H33=>(bif (decide (qp<(mb.n:Int))) then ((Sl.cut mb 2 qp (mb.n:Int)).bind λs37=>(Sl.cut mb 2 0 qp).bind λs38=>(Hp.cpy H33 2 s37 s38).bind λc39=>bi.l254 F g_bits_Mul S_ mb (wrap .i64 (qp+(c39.1:Int))) c39.2) else (some ((.sl mb),H33)))
def bi.j1 (g_bits_Mul:ab5) (Ta:Sl) (nj:Int) (H21:Hp):OA:=(Hp.mk H21 [.int .i64 0,.int .i64 0] 16 (wrap .i64 nj) (wrap .i64 nj)).bind λm22=>(Hp.cpy m22.2 2 m22.1 Ta).bind λc23=>bi.l254 F g_bits_Mul F m22.1 (c23.1:Int) c23.2
def bi.j2 (g_bits_Mul:ab5) (Je:Sl) (qq:Int) (H7:Hp):OA:=(g_bits_Mul (IntKind.u64.wrap (Je.n:Int)) (IntKind.u64.wrap qq) H7).bind λr8=>((r8.1).asTup 2).bind λl9=>(l9[0]?).bind λv10=>((v10).asI .u64).bind λn11=>(l9[1]?).bind λv12=>((v12).asI .u64).bind λn13=>(bif (decide (n11>0)) then (none) else ((bif (decide (n13>9223372036854775807)) then (none) else (bi.j1 F g_bits_Mul Je n13 r8.2))))
def bi.twX (g_bits_Mul:ab5) (ac:Sl) (aq:Int) (H:Hp):OA:=(bif (decide (aq<0)) then (none) else (bi.j2 F g_bits_Mul ac aq H))
def bi.tw:=bi.twX F (bits_Mul.tw F)
def bi.lh254 (g_bits_Mul:ab5) (ks:abT) (n:Nat) (tm:Tm) (H:Hp):OA:=match ks,tm 7,tm 8 with
 | [],(.sl mb),(.int .i64 qp)=>bi.l254 F g_bits_Mul n mb qp H
 | _,_,_=>none
def bi.lh (g_bits_Mul:ab5) (p:Nat) (ks:abT) (n:Nat) (tm:Tm) (H:Hp):OA:=bif p.beq 254 then bi.lh254 F g_bits_Mul ks n tm H else (none)
def bi.pn:Nat->List Nat:=cS [(9,[7])]
def bi.tb:Nat->List (List Nat):=cS [(9,[[],[],[],[1,2],[],[],[4,5],[1,2,3,4,5,6],[0,1,2,3,4,5,6,7],[0,1,2,3,4,5,6,7,8]])]
def bi.cs (F:Nat) (g_bits_Mul:ab5):Cs:=[(197,mk11 g_bits_Mul)]
theorem bi.loops (g_bits_Mul:ab5):LO (aT (bi.cs F g_bits_Mul)) bi.pn (bi.lh F g_bits_Mul) F Try.f193:=
 (ae.rt (ae.rt (ae.rt (ae.rt (ae.rt (ae.rt (ae.lt (ae.block (ae.la (λn tm H r h=>by change bi.lh254 F g_bits_Mul [] n tm H=_ at h;unfold bi.lh254 at h;split at h;have e:bF tm [(7,_),(8,_)]:=⟨‹_›,‹_›,trivial⟩;obtain _ | k254:=n;cases h;exact ⟨_,rfl,by rw [<- bI e];exact Eq.trans (by kernel_rfl) h⟩;cases h) λk254=>ae.no)))))))))
theorem bi.eqX (g_bits_Mul:ab5) (ac:Sl) (aq:Int) (H:Hp):EX (aT (bi.cs F g_bits_Mul)) bi.pn (bi.lh F g_bits_Mul) F Try.f193 [(.sl ac),(.int .i64 aq)] H=bi.twX F g_bits_Mul ac aq H:=by kernel_rfl
theorem bi.k:Ok Try.prog 193 (mk0 (bi.tw F)):=by
 intro args H v H' h
 unfold mk0 at h
 split at h
 ·exact okT (TB:=bi.tb) Try.func193 (aU (bits_Mul.k F) bo) (bi.loops F (bits_Mul.tw F)) ((bi.eqX F (bits_Mul.tw F) _ _ H).trans h) (by kernel_rfl)
 ·cases h
def dM.twX (F:Nat) (ac:Int) (ag:Int) (bG:Int) (bH:Int) (bz:Int) (H:Hp):OA:=(Hp.new H [(.int .i64 ac),(.int .i64 ag),(.int .i64 bG),(.int .i64 bH),(.int .i64 bz)]).bind λH6=>(Hp.new H6 [.int .i64 0,.int .i64 0,.int .i64 0,.int .i64 0]).bind λH7=>(Hp.ldI H7 .i64 H.length 0).bind λn8=>(Hp.ldI H7 .i64 H.length 1).bind λn9=>(Hp.ldI H7 .i64 H.length 2).bind λn10=>(Hp.ldI H7 .i64 H.length 3).bind λn11=>(Hp.st H7 H6.length 0 (.int .i64 n8)).bind λH12=>(Hp.st H12 H6.length (0+1) (.int .i64 n9)).bind λH13=>(Hp.st H13 H6.length (0+1+1) (.int .i64 n10)).bind λH14=>(Hp.st H14 H6.length (0+1+1+1) (.int .i64 n11)).bind λH15=>(Hp.ldI H15 .i64 H6.length 0).bind λn16=>(Hp.ldI H15 .i64 H6.length (0+1)).bind λn17=>(Hp.ldI H15 .i64 H6.length (0+2)).bind λn18=>(Hp.ldI H15 .i64 H6.length (0+3)).bind λn19=>some ((.agg [(.int .i64 n16),(.int .i64 n17),(.int .i64 n18),(.int .i64 n19)]),H15)
def dM.tw:=dM.twX F
theorem dM.k:Ok Try.prog 194 (mk2 (dM.tw F)):=by
 intro args H v H' h
 unfold mk2 at h
 split at h
 ·exact ok0 Try.func194 (Eq.trans (by kernel_rfl) h) (by kernel_rfl) (by kernel_rfl)
 ·cases h
def dN.twX (F:Nat) (ac:Int) (ag:Int) (bG:Int) (bH:Int) (bz:Int) (cf:Int) (H:Hp):OA:=(Hp.new H [(.int .i64 ac),(.int .i64 ag),(.int .i64 bG),(.int .i64 bH),(.int .i64 bz)]).bind λH7=>(bif (cf==0) then (some ((.bool true),H7)) else ((Hp.ldI H7 .i64 H.length 4).bind λn8=>some ((.bool (cf==(wrap .i64 (2+n8)))),H7)))
def dN.tw:=dN.twX F
theorem dN.k:Ok Try.prog 195 (mk6 (dN.tw F)):=by
 intro args H v H' h
 unfold mk6 at h
 split at h
 ·exact ok0 Try.func195 (Eq.trans (by kernel_rfl) h) (by kernel_rfl) (by kernel_rfl)
 ·cases h
def fu.twX (F:Nat) (ac:Sl) (H:Hp):OA:=some ((.int .i64 (ac.n:Int)),H)
def fu.tw:=fu.twX F
theorem fu.k:Ok Try.prog 217 (mk3 (fu.tw F)):=by
 intro args H v H' h
 unfold mk3 at h
 split at h
 ·exact ok0 Try.func217 (Eq.trans (by kernel_rfl) h) (by kernel_rfl) (by kernel_rfl)
 ·cases h
def dC.twX (F:Nat) (qs:abS) (e_:ab6) (ac:Sl) (aq:Int) (H:Hp):OA:=(qs ac H).bind λr3=>((r3.1).asI .i64).bind λn4=>(e_ aq 0 (wrap .i64 (n4 - 1)) r3.2).bind λr5=>((r5.1).asB).bind λb6=>some ((.bool b6),r5.2)
def dC.tw:=dC.twX F (fu.tw F) (de.tw F)
def dC.cs (F:Nat) (qs:abS) (e_:ab6):Cs:=[(217,mk3 qs),(112,mk5 e_)]
theorem dC.eqX (qs:abS) (e_:ab6) (ac:Sl) (aq:Int) (H:Hp):EX (aT (dC.cs F qs e_)) aC lh0 F Try.f196 [(.sl ac),(.int .i64 aq)] H=dC.twX F qs e_ ac aq H:=by kernel_rfl
theorem dC.k:Ok Try.prog 196 (mk0 (dC.tw F)):=by
 intro args H v H' h
 unfold mk0 at h
 split at h
 ·exact okT (TB:=aC) Try.func196 (aU (fu.k F) (aU (de.k F) bo)) ae.no ((dC.eqX F (fu.tw F) (de.tw F) _ _ H).trans h) (by kernel_rfl)
 ·cases h
def aX.l3931 (F:Nat) (dO:abQ) (cT:ab4) (cU:abW) (dP:abQ) (C61_:acJ):Nat->Nat->Nat->Nat->Nat->Sl->Int->Int->Nat->Nat->Int->Int->Int->Int->Int->Int->Hp->OA
 | 0,_,_,_,_,_,_,_,_,_,_,_,_,_,_,_,_=>none
 | Jf+1,eu,eU,fv,gS,ta,iF,iG,iH,kV,gT,fa,fb,fc,fd,dl,H233=>(bif (decide (dl<4)) then ((if 0<=dl/\dl<(4:Int) then (([(.int .i64 fa),(.int .i64 fb),(.int .i64 fc),(.int .i64 fd)]:List AV)[(dl:Int).toNat * 1]?).bind λv283=>((v283).asI .i64).bind λn284=>(Hp.ldSl H233 fv gS).bind λs285=>(Hp.ldI H233 .i64 iH kV).bind λn286=>(Hp.ldI H233 .i64 iH (kV+1)).bind λn287=>(Hp.ldI H233 .i64 iH (kV+2)).bind λn288=>(Hp.ldI H233 .i64 iH (kV+3)).bind λn289=>(Hp.ldI H233 .i64 iH (kV+4)).bind λn290=>(cU n286 n287 n288 n289 n290 dl H233).bind λr291=>((r291.1).asB).bind λb292=>(bif b292 then ((Hp.ldSl r291.2 fv (gS+1)).bind λs293=>(dP s293 n284 r291.2).bind λr294=>((r294.1).asB).bind λb295=>(bif (!b295) then ((Hp.ldSl r294.2 fv gS).bind λs296=>(Hp.ldSl r294.2 fv (gS+1)).bind λs297=>(Hp.st r294.2 eu eU (.sl s296)).bind λH298=>(Hp.st H298 eu (eU+1) (.sl s297)).bind λH299=>(Hp.ldSl H299 eu eU).bind λs300=>(Hp.ldSl H299 eu (eU+1)).bind λs301=>some ((.tup [(.agg [(.sl s300),(.sl s301)]),(.bool false)]),H299)) else ((Sl.idx s293 n284 2).bind λp302=>(Hp.ldI r294.2 .i64 p302.1 p302.2).bind λn303=>(bif (decide (n303>=0)) then ((Hp.ldSl r294.2 fv gS).bind λs304=>(Hp.ldSl r294.2 fv (gS+1)).bind λs305=>(Hp.st r294.2 eu eU (.sl s304)).bind λH306=>(Hp.st H306 eu (eU+1) (.sl s305)).bind λH307=>(Hp.ldSl H307 eu eU).bind λs308=>(Hp.ldSl H307 eu (eU+1)).bind λs309=>some ((.tup [(.agg [(.sl s308),(.sl s309)]),(.bool false)]),H307)) else ((Sl.idx s293 n284 2).bind λp310=>(Hp.st r294.2 p310.1 p310.2 (.int .i64 gT)).bind λH311=>(Hp.st H311 p310.1 (p310.2+1) (.int .i64 dl)).bind λH312=>aX.l3931 F dO cT cU dP C61_ Jf eu eU fv gS ta iF iG iH kV gT fa fb fc fd (wrap .i64 (dl+1)) H312))))) else ((dP s285 n284 r291.2).bind λr313=>((r313.1).asB).bind λb314=>(bif (!b314) then ((Hp.ldSl r313.2 fv gS).bind λs315=>(Hp.ldSl r313.2 fv (gS+1)).bind λs316=>(Hp.st r313.2 eu eU (.sl s315)).bind λH317=>(Hp.st H317 eu (eU+1) (.sl s316)).bind λH318=>(Hp.ldSl H318 eu eU).bind λs319=>(Hp.ldSl H318 eu (eU+1)).bind λs320=>some ((.tup [(.agg [(.sl s319),(.sl s320)]),(.bool false)]),H318)) else ((Sl.idx s285 n284 2).bind λp321=>(Hp.ldI r313.2 .i64 p321.1 p321.2).bind λn322=>(bif (decide (n322>=0)) then ((Hp.ldSl r313.2 fv gS).bind λs323=>(Hp.ldSl r313.2 fv (gS+1)).bind λs324=>(Hp.st r313.2 eu eU (.sl s323)).bind λH325=>(Hp.st H325 eu (eU+1) (.sl s324)).bind λH326=>(Hp.ldSl H326 eu eU).bind λs327=>(Hp.ldSl H326 eu (eU+1)).bind λs328=>some ((.tup [(.agg [(.sl s327),(.sl s328)]),(.bool false)]),H326)) else ((Sl.idx s285 n284 2).bind λp329=>(Hp.st r313.2 p329.1 p329.2 (.int .i64 gT)).bind λH330=>(Hp.st H330 p329.1 (p329.2+1) (.int .i64 dl)).bind λH331=>aX.l3931 F dO cT cU dP C61_ Jf eu eU fv gS ta iF iG iH kV gT fa fb fc fd (wrap .i64 (dl+1)) H331)))))) else none)) else (C61_ eu eU fv gS ta iF (wrap .i64 (iG+1)) H233))
termination_by structural n=>n
def aX.l61 (F:Nat) (dO:abQ) (cT:ab4) (cU:abW) (dP:abQ) :Nat->Nat->Nat->Nat->Nat->Sl->Int->Int->Hp->OA
 | 0,_,_,_,_,_,_,_,_=>none
 | bY+1,jx,nk,kW,eS,vZ,jy,gU,H29=>(bif (decide (gU<jy)) then ((Sl.idx vZ gU 5).bind λp184=>(Hp.ldI H29 .i64 p184.1 p184.2).bind λn185=>(Hp.ldI H29 .i64 p184.1 (p184.2+1)).bind λn186=>(Hp.ldI H29 .i64 p184.1 (p184.2+2)).bind λn187=>(Hp.ldI H29 .i64 p184.1 (p184.2+3)).bind λn188=>(Hp.ldI H29 .i64 p184.1 (p184.2+4)).bind λn189=>(Hp.new H29 [.int .i64 0,.int .i64 0,.int .i64 0,.int .i64 0,.int .i64 0]).bind λH190=>(Hp.st H190 H29.length 0 (.int .i64 n185)).bind λH191=>(Hp.st H191 H29.length (0+1) (.int .i64 n186)).bind λH192=>(Hp.st H192 H29.length (0+1+1) (.int .i64 n187)).bind λH193=>(Hp.st H193 H29.length (0+1+1+1) (.int .i64 n188)).bind λH194=>(Hp.st H194 H29.length (0+1+1+1+1) (.int .i64 n189)).bind λH195=>(Hp.ldI H195 .i64 H29.length 0).bind λn196=>(Hp.ldI H195 .i64 H29.length (0+1)).bind λn197=>(Hp.ldI H195 .i64 H29.length (0+2)).bind λn198=>(Hp.ldI H195 .i64 H29.length (0+3)).bind λn199=>(Hp.ldI H195 .i64 H29.length (0+4)).bind λn200=>(cT n196 n197 n198 n199 n200 H195).bind λr201=>((r201.1).asAgg 4).bind λl202=>(l202[0]?).bind λv203=>((v203).asI .i64).bind λn204=>(l202[1]?).bind λv205=>((v205).asI .i64).bind λn206=>(l202[2]?).bind λv207=>((v207).asI .i64).bind λn208=>(l202[3]?).bind λv209=>((v209).asI .i64).bind λn210=>aX.l3931 F dO cT cU dP (aX.l61 F dO cT cU dP bY) F jx nk kW eS vZ jy gU H29.length 0 gU n204 n206 n208 n210 0 r201.2) else ((Hp.ldSl H29 kW eS).bind λs332=>(Hp.ldSl H29 kW (eS+1)).bind λs333=>(Hp.st H29 jx nk (.sl s332)).bind λH334=>(Hp.st H334 jx (nk+1) (.sl s333)).bind λH335=>(Hp.ldSl H335 jx nk).bind λs336=>(Hp.ldSl H335 jx (nk+1)).bind λs337=>some ((.tup [(.agg [(.sl s336),(.sl s337)]),(.bool true)]),H335)))
termination_by structural n=>n
def aX.twX (dO:abQ) (cT:ab4) (cU:abW) (dP:abQ) (ac:Sl) (ag:Int) (H:Hp):OA:=(Hp.new H [(.sl ac),(.int .i64 ag)]).bind λH3=>(Hp.new H3 [.sl ⟨none,0,.ex 0⟩,.sl ⟨none,0,.ex 0⟩]).bind λH4=>(Hp.ldSl H4 H.length 0).bind λs5=>(Hp.new H4 [(.int .i64 (-1)),(.int .i64 0)]).bind λH6=>(dO (⟨some (H4.length,0),1,.ex 1⟩:Sl) (wrap .i64 (2 * (s5.n:Int))) H6).bind λr7=>((r7.1).asSl).bind λs8=>(Hp.new r7.2 [(.int .i64 (-1)),(.int .i64 0)]).bind λH9=>(dO (⟨some (r7.2.length,0),1,.ex 1⟩:Sl) (wrap .i64 (2 * (s5.n:Int))) H9).bind λr10=>((r10.1).asSl).bind λs11=>(Hp.new r10.2 [.sl ⟨none,0,.ex 0⟩,.sl ⟨none,0,.ex 0⟩]).bind λH12=>(Hp.st H12 r10.2.length 0 (.sl s8)).bind λH13=>(Hp.st H13 r10.2.length (0+1) (.sl s11)).bind λH14=>(Hp.ldSl H14 H.length 0).bind λs15=>aX.l61 F dO cT cU dP F H3.length 0 r10.2.length 0 s15 (s15.n:Int) 0 H14
def aX.tw:=aX.twX F (bi.tw F) (dM.tw F) (dN.tw F) (dC.tw F)
def aX.lh61 (dO:abQ) (cT:ab4) (cU:abW) (dP:abQ) (ks:abT) (n:Nat) (tm:Tm) (H:Hp):OA:=match ks,tm 2,tm 5,tm 25,tm 26,tm 27 with
 | [],(.ptr jx nk),(.ptr kW eS),(.sl vZ),(.int .i64 jy),(.int .i64 gU)=>aX.l61 F dO cT cU dP n jx nk kW eS vZ jy gU H
 | _,_,_,_,_,_=>none
def aX.lh3931 (dO:abQ) (cT:ab4) (cU:abW) (dP:abQ) (ks:abT) (n:Nat) (tm:Tm) (H:Hp):OA:=match ks,tm 2,tm 5,tm 6,tm 7,tm 25,tm 26,tm 27,tm 33,tm 34 with
 | [bY],(.ptr eu eU),(.ptr fv gS),(.int .i64 gT),(.ptr iH kV),(.sl ta),(.int .i64 iF),(.int .i64 iG),(.agg [(.int .i64 fa),(.int .i64 fb),(.int .i64 fc),(.int .i64 fd)]),(.int .i64 dl)=>aX.l3931 F dO cT cU dP (aX.l61 F dO cT cU dP bY) n eu eU fv gS ta iF iG iH kV gT fa fb fc fd dl H
 | _,_,_,_,_,_,_,_,_,_=>none
def aX.lh (dO:abQ) (cT:ab4) (cU:abW) (dP:abQ) (p:Nat) (ks:abT) (n:Nat) (tm:Tm) (H:Hp):OA:=bif p.beq 3931 then aX.lh3931 F dO cT cU dP ks n tm H else (bif p.beq 61 then aX.lh61 F dO cT cU dP ks n tm H else (none))
def aX.cs (F:Nat) (dO:abQ) (cT:ab4) (cU:abW) (dP:abQ):Cs:=[(193,mk0 dO),(194,mk2 cT),(195,mk6 cU),(196,mk0 dP)]
theorem aX.loops (dO:abQ) (cT:ab4) (cU:abW) (dP:abQ):LO (aT (aX.cs F dO cT cU dP)) aC (aX.lh F dO cT cU dP) F Try.f158:=
 (ae.rt (ae.rt (ae.rt (ae.lt (ae.rt (ae.block (ae.la (λn tm H r h=>by change aX.lh61 F dO cT cU dP [] n tm H=_ at h;unfold aX.lh61 at h;split at h;have e:bF tm [(2,_),(5,_),(25,_),(26,_),(27,_)]:=⟨‹_›,‹_›,‹_›,‹_›,‹_›,trivial⟩;obtain _ | k61:=n;cases h;exact ⟨_,rfl,by rw [<- bI e];exact Eq.trans (by kernel_rfl) h⟩;cases h) λk61=>(ae.rt (ae.rt (ae.lt (ae.block (ae.rt (ae.rt (ae.block (ae.la (λn tm H r h=>by change aX.lh3931 F dO cT cU dP [k61] n tm H=_ at h;unfold aX.lh3931 at h;split at h;have e:bF tm [(2,_),(5,_),(6,_),(7,_),(25,_),(26,_),(27,_),(33,_),(34,_)]:=⟨‹_›,‹_›,‹_›,‹_›,‹_›,‹_›,‹_›,‹_›,‹_›,trivial⟩;cases (show [k61]=_ from ‹_›);obtain _ | k3931:=n;cases h;exact ⟨_,rfl,by rw [<- bI e];exact Eq.trans (by kernel_rfl) h⟩;cases h) λk3931=>ae.no)))))))))))))))
theorem aX.eqX (dO:abQ) (cT:ab4) (cU:abW) (dP:abQ) (ac:Sl) (ag:Int) (H:Hp):EX (aT (aX.cs F dO cT cU dP)) aC (aX.lh F dO cT cU dP) F Try.f158 [(.agg [(.sl ac),(.int .i64 ag)])] H=aX.twX F dO cT cU dP ac ag H:=by kernel_rfl
theorem aX.k:Ok Try.prog 158 (mk4 (aX.tw F)):=by
 intro args H v H' h
 unfold mk4 at h
 split at h
 ·exact okT (TB:=aC) Try.func158 (aU (bi.k F) (aU (dM.k F) (aU (dN.k F) (aU (dC.k F) bo)))) (aX.loops F (bi.tw F) (dM.tw F) (dN.tw F) (dC.tw F)) ((aX.eqX F (bi.tw F) (dM.tw F) (dN.tw F) (dC.tw F) _ _ H).trans h) (by kernel_rfl)
 ·cases h
def cV.twX (F:Nat) (cT:ab4) (cU:abW) (ac:Sl) (ag:Int) (ay:Sl) (bp:Sl) (ic:Int) (fw:Int) (H:Hp):OA:=(Hp.new H [(.sl ac),(.int .i64 ag)]).bind λH7=>(Hp.new H7 [(.sl ay),(.sl bp)]).bind λH8=>(Hp.new H8 [(.int .i64 ic),(.int .i64 fw)]).bind λH9=>(Hp.new H9 [.int .i64 0,.int .i64 0]).bind λH10=>(Hp.ldSl H10 H.length 0).bind λs11=>(Hp.ldI H10 .i64 H8.length 0).bind λn12=>(Sl.idx s11 n12 5).bind λp13=>(Hp.ldI H10 .i64 p13.1 p13.2).bind λn14=>(Hp.ldI H10 .i64 p13.1 (p13.2+1)).bind λn15=>(Hp.ldI H10 .i64 p13.1 (p13.2+2)).bind λn16=>(Hp.ldI H10 .i64 p13.1 (p13.2+3)).bind λn17=>(Hp.ldI H10 .i64 p13.1 (p13.2+4)).bind λn18=>(Hp.new H10 [.int .i64 0,.int .i64 0,.int .i64 0,.int .i64 0,.int .i64 0]).bind λH19=>(Hp.st H19 H10.length 0 (.int .i64 n14)).bind λH20=>(Hp.st H20 H10.length (0+1) (.int .i64 n15)).bind λH21=>(Hp.st H21 H10.length (0+1+1) (.int .i64 n16)).bind λH22=>(Hp.st H22 H10.length (0+1+1+1) (.int .i64 n17)).bind λH23=>(Hp.st H23 H10.length (0+1+1+1+1) (.int .i64 n18)).bind λH24=>(Hp.ldI H24 .i64 H10.length 0).bind λn25=>(Hp.ldI H24 .i64 H10.length (0+1)).bind λn26=>(Hp.ldI H24 .i64 H10.length (0+2)).bind λn27=>(Hp.ldI H24 .i64 H10.length (0+3)).bind λn28=>(Hp.ldI H24 .i64 H10.length (0+4)).bind λn29=>(cT n25 n26 n27 n28 n29 H24).bind λr30=>((r30.1).asAgg 4).bind λl31=>(l31[0]?).bind λv32=>((v32).asI .i64).bind λn33=>(l31[1]?).bind λv34=>((v34).asI .i64).bind λn35=>(l31[2]?).bind λv36=>((v36).asI .i64).bind λn37=>(l31[3]?).bind λv38=>((v38).asI .i64).bind λn39=>(if aV H24 r30.2 then ((Hp.ldI r30.2 .i64 H8.length 1).bind λn40=>(if 0<=n40/\n40<(4:Int) then (([(.int .i64 n33),(.int .i64 n35),(.int .i64 n37),(.int .i64 n39)]:List AV)[(n40:Int).toNat * 1]?).bind λv41=>((v41).asI .i64).bind λn42=>(Hp.ldI r30.2 .i64 H10.length 0).bind λn43=>(Hp.ldI r30.2 .i64 H10.length (0+1)).bind λn44=>(Hp.ldI r30.2 .i64 H10.length (0+2)).bind λn45=>(Hp.ldI r30.2 .i64 H10.length (0+3)).bind λn46=>(Hp.ldI r30.2 .i64 H10.length (0+4)).bind λn47=>(Hp.ldI r30.2 .i64 H8.length 1).bind λn48=>(cU n43 n44 n45 n46 n47 n48 r30.2).bind λr49=>((r49.1).asB).bind λb50=>(bif b50 then ((Hp.ldSl r49.2 H7.length 0).bind λs51=>(Sl.idx s51 n42 2).bind λp52=>(Hp.ldI r49.2 .i64 p52.1 p52.2).bind λn53=>(Hp.ldI r49.2 .i64 p52.1 (p52.2+1)).bind λn54=>(Hp.st r49.2 H9.length 0 (.int .i64 n53)).bind λH55=>(Hp.st H55 H9.length (0+1) (.int .i64 n54)).bind λH56=>(Hp.ldI H56 .i64 H9.length 0).bind λn57=>(Hp.ldI H56 .i64 H9.length (0+1)).bind λn58=>some ((.agg [(.int .i64 n57),(.int .i64 n58)]),H56)) else ((Hp.ldSl r49.2 H7.length 1).bind λs59=>(Sl.idx s59 n42 2).bind λp60=>(Hp.ldI r49.2 .i64 p60.1 p60.2).bind λn61=>(Hp.ldI r49.2 .i64 p60.1 (p60.2+1)).bind λn62=>(Hp.st r49.2 H9.length 0 (.int .i64 n61)).bind λH63=>(Hp.st H63 H9.length (0+1) (.int .i64 n62)).bind λH64=>(Hp.ldI H64 .i64 H9.length 0).bind λn65=>(Hp.ldI H64 .i64 H9.length (0+1)).bind λn66=>some ((.agg [(.int .i64 n65),(.int .i64 n66)]),H64))) else none)) else none)
def cV.tw:=cV.twX F (dM.tw F) (dN.tw F)
def cV.tb:Nat->List (List Nat):=cS [(2,[[],[0],[],[2],[0,1,2,3],[0,1,2,3,4]])]
def mk12 (g:acb) (args:ab0) (H:Hp):OA:=match args with
 | [(.agg [(.sl ac),(.int .i64 ag)]),(.agg [(.sl ay),(.sl bp)]),(.agg [(.int .i64 ic),(.int .i64 fw)])]=>g ac ag ay bp ic fw H
 | _=>none
theorem mk12_E (g:acb) (ac:Sl) (ag:Int) (ay:Sl) (bp:Sl) (ic:Int) (fw:Int) (H:Hp):mk12 g [(.agg [(.sl ac),(.int .i64 ag)]),(.agg [(.sl ay),(.sl bp)]),(.agg [(.int .i64 ic),(.int .i64 fw)])] H=g ac ag ay bp ic fw H:=rfl
def cV.cs (F:Nat) (cT:ab4) (cU:abW):Cs:=[(194,mk2 cT),(195,mk6 cU)]
theorem cV.eqX (cT:ab4) (cU:abW) (ac:Sl) (ag:Int) (ay:Sl) (bp:Sl) (ic:Int) (fw:Int) (H:Hp):EX (aT (cV.cs F cT cU)) aC lh0 F Try.f160 [(.agg [(.sl ac),(.int .i64 ag)]),(.agg [(.sl ay),(.sl bp)]),(.agg [(.int .i64 ic),(.int .i64 fw)])] H=cV.twX F cT cU ac ag ay bp ic fw H:=by kernel_rfl
theorem cV.k:Ok Try.prog 160 (mk12 (cV.tw F)):=by
 intro args H v H' h
 unfold mk12 at h
 split at h
 ·exact okT (TB:=cV.tb) Try.func160 (aU (dM.k F) (aU (dN.k F) bo)) ae.no ((cV.eqX F (dM.tw F) (dN.tw F) _ _ _ _ _ _ H).trans h) (by kernel_rfl)
 ·cases h
def aD.j4 (F:Nat) (c_:acb) (C61_:ach) (v_:Nat) (Tc:Nat) (wa:Nat) (Td:Nat) (Te:Sl) (Tf:Sl) (qt:Int) (qu:Int) (H248:Hp):OA:=C61_ v_ Tc wa Td Te Tf qt (wrap .i64 (qu+1)) H248
def aD.j5 (c_:acb) (C61_:ach) (wb:Nat) (Tg:Nat) (pm:Nat) (Th:Nat) (lN:Sl) (Ti:Sl) (qv:Int) (qw:Int) (H228:Hp):OA:=aD.j4 F c_ C61_ wb Tg pm Th lN Ti qv qw H228
def aD.j6 (c_:acb) (C61_:ach) (tc:Nat) (Jg:Nat) (td:Nat) (Jh:Nat) (Ji:Sl) (Jj:Sl) (Jk:Sl) (mc:Int) (md:Int) (H205:Hp):OA:=(bif (decide ((Jk.n:Int)>0)) then ((Hp.new H205 [(.sl Jk)]).bind λH206=>(Sl.row H206 (⟨some (H205.length,0),1,.ex 1⟩:Sl) 1).bind λxs208=>(Hp.app H206 1 24 Ji (⟨some (H205.length,0),1,.ex 1⟩:Sl).n xs208).bind λa207=>aD.j5 F c_ C61_ tc Jg td Jh a207.1 Jj mc md a207.2) else (aD.j5 F c_ C61_ tc Jg td Jh Ji Jj mc md H205))
def aD.l15725 (F:Nat) (c_:acb) (C61_:ach):Nat->Nat->Nat->Nat->Nat->Sl->Sl->Int->Int->Sl->Int->Hp->OA
 | 0,_,_,_,_,_,_,_,_,_,_,_=>none
 | Ab+1,ku,qx,kv,qy,wc,qz,jz,jA,wd,fx,H164=>(Sl.idx qz fx 1).bind λp249=>(Hp.ldB H164 p249.1 p249.2).bind λb250=>(bif (!b250) then ((Sl.idx qz fx 1).bind λp251=>(Hp.st H164 p251.1 p251.2 (.bool true)).bind λH252=>(Hp.new H252 [(.int .i64 fx)]).bind λH253=>(Sl.row H253 (⟨some (H252.length,0),1,.ex 1⟩:Sl) 1).bind λxs255=>(Hp.app H253 1 8 wd (⟨some (H252.length,0),1,.ex 1⟩:Sl).n xs255).bind λa254=>(Hp.ldSl a254.2 ku qx).bind λs256=>(Hp.ldI a254.2 .i64 ku (qx+1)).bind λn257=>(Hp.ldSl a254.2 kv qy).bind λs258=>(Hp.ldSl a254.2 kv (qy+1)).bind λs259=>(c_ s256 n257 s258 s259 (wrap .i64 (Int.tdiv fx 4)) (Int.tmod (wrap .i64 (fx+1)) 4) a254.2).bind λr260=>((r260.1).asAgg 2).bind λl261=>(l261[0]?).bind λv262=>((v262).asI .i64).bind λn263=>(l261[1]?).bind λv264=>((v264).asI .i64).bind λn265=>(Hp.new r260.2 [.int .i64 0,.int .i64 0]).bind λH266=>(Hp.st H266 r260.2.length 0 (.int .i64 n263)).bind λH267=>(Hp.st H267 r260.2.length (0+1) (.int .i64 n265)).bind λH268=>(Hp.ldI H268 .i64 r260.2.length 0).bind λn269=>(Hp.ldI H268 .i64 r260.2.length 1).bind λn270=>aD.l15725 F c_ C61_ Ab ku qx kv qy wc qz jz jA a254.1 (wrap .i64 ((wrap .i64 (4 * n269))+n270)) H268) else (aD.j6 F c_ C61_ ku qx kv qy wc qz wd jz jA H164))
termination_by structural n=>n
def aD.l61 (F:Nat) (c_:acb) :Nat->Nat->Nat->Nat->Nat->Sl->Sl->Int->Int->Hp->OA
 | 0,_,_,_,_,_,_,_,_,_=>none
 | bY+1,nl,Ac,nm,Ad,wg,Ae,gA,ev,H22=>(bif (decide (ev<gA)) then (aD.l15725 F c_ (aD.l61 F c_ bY) F nl Ac nm Ad wg Ae gA ev (⟨none,0,.ex 0⟩:Sl) ev H22) else (some ((.sl wg),H22)))
termination_by structural n=>n
def aD.twX (c_:acb) (ac:Sl) (ag:Int) (ay:Sl) (bp:Sl) (H:Hp):OA:=(Hp.new H [(.sl ac),(.int .i64 ag)]).bind λH5=>(Hp.new H5 [(.sl ay),(.sl bp)]).bind λH6=>(Hp.ldSl H6 H.length 0).bind λs7=>(Hp.mk H6 [.bool false] 1 (wrap .i64 (4 * (s7.n:Int))) (wrap .i64 (4 * (s7.n:Int)))).bind λm8=>aD.l61 F c_ F H.length 0 H5.length 0 (⟨none,0,.ex 0⟩:Sl) m8.1 (m8.1.n:Int) 0 m8.2
def aD.tw:=aD.twX F (cV.tw F)
def aD.lh61 (c_:acb) (ks:abT) (n:Nat) (tm:Tm) (H:Hp):OA:=match ks,tm 2,tm 3,tm 5,tm 6,tm 17,tm 18 with
 | [],(.ptr nl Ac),(.ptr nm Ad),(.sl wg),(.sl Ae),(.int .i64 gA),(.int .i64 ev)=>aD.l61 F c_ n nl Ac nm Ad wg Ae gA ev H
 | _,_,_,_,_,_,_=>none
def aD.lh15725 (c_:acb) (ks:abT) (n:Nat) (tm:Tm) (H:Hp):OA:=match ks,tm 2,tm 3,tm 5,tm 6,tm 8,tm 9,tm 17,tm 18 with
 | [bY],(.ptr ku qx),(.ptr kv qy),(.sl wc),(.sl qz),(.sl wd),(.int .i64 fx),(.int .i64 jz),(.int .i64 jA)=>aD.l15725 F c_ (aD.l61 F c_ bY) n ku qx kv qy wc qz jz jA wd fx H
 | _,_,_,_,_,_,_,_,_=>none
def aD.lh (c_:acb) (p:Nat) (ks:abT) (n:Nat) (tm:Tm) (H:Hp):OA:=bif p.beq 15725 then aD.lh15725 F c_ ks n tm H else (bif p.beq 61 then aD.lh61 F c_ ks n tm H else (none))
def mk13 (g:acm) (args:ab0) (H:Hp):OA:=match args with
 | [(.agg [(.sl ac),(.int .i64 ag)]),(.agg [(.sl ay),(.sl bp)])]=>g ac ag ay bp H
 | _=>none
theorem mk13_E (g:acm) (ac:Sl) (ag:Int) (ay:Sl) (bp:Sl) (H:Hp):mk13 g [(.agg [(.sl ac),(.int .i64 ag)]),(.agg [(.sl ay),(.sl bp)])] H=g ac ag ay bp H:=rfl
def aD.cs (F:Nat) (c_:acb):Cs:=[(160,mk12 c_)]
theorem aD.loops (c_:acb):LO (aT (aD.cs F c_)) aC (aD.lh F c_) F Try.f104:=
 (ae.rt (ae.rt (ae.rt (ae.lt (ae.rt (ae.block (ae.la (λn tm H r h=>by change aD.lh61 F c_ [] n tm H=_ at h;unfold aD.lh61 at h;split at h;have e:bF tm [(2,_),(3,_),(5,_),(6,_),(17,_),(18,_)]:=⟨‹_›,‹_›,‹_›,‹_›,‹_›,‹_›,trivial⟩;obtain _ | k61:=n;cases h;exact ⟨_,rfl,by rw [<- bI e];exact Eq.trans (by kernel_rfl) h⟩;cases h) λk61=>(ae.rt (ae.rt (ae.lt (ae.block (ae.rt (ae.rt (ae.lt (ae.rt (ae.block (ae.la (λn tm H r h=>by change aD.lh15725 F c_ [k61] n tm H=_ at h;unfold aD.lh15725 at h;split at h;have e:bF tm [(2,_),(3,_),(5,_),(6,_),(8,_),(9,_),(17,_),(18,_)]:=⟨‹_›,‹_›,‹_›,‹_›,‹_›,‹_›,‹_›,‹_›,trivial⟩;cases (show [k61]=_ from ‹_›);obtain _ | k15725:=n;cases h;exact ⟨_,rfl,by rw [<- bI e];exact Eq.trans (by kernel_rfl) h⟩;cases h) λk15725=>ae.no)))))))))))))))))
theorem aD.eqX (c_:acb) (ac:Sl) (ag:Int) (ay:Sl) (bp:Sl) (H:Hp):EX (aT (aD.cs F c_)) aC (aD.lh F c_) F Try.f104 [(.agg [(.sl ac),(.int .i64 ag)]),(.agg [(.sl ay),(.sl bp)])] H=aD.twX F c_ ac ag ay bp H:=by kernel_rfl
theorem aD.k:Ok Try.prog 104 (mk13 (aD.tw F)):=by
 intro args H v H' h
 unfold mk13 at h
 split at h
 ·exact okT (TB:=aC) Try.func104 (aU (cV.k F) bo) (aD.loops F (cV.tw F)) ((aD.eqX F (cV.tw F) _ _ _ _ H).trans h) (by kernel_rfl)
 ·cases h
def fy.twX (F:Nat) (ac:Sl) (H:Hp):OA:=some ((.int .i64 (ac.n:Int)),H)
def fy.tw:=fy.twX F
theorem fy.k:Ok Try.prog 85 (mk3 (fy.tw F)):=by
 intro args H v H' h
 unfold mk3 at h
 split at h
 ·exact ok0 Try.func85 (Eq.trans (by kernel_rfl) h) (by kernel_rfl) (by kernel_rfl)
 ·cases h
def bB.l29 (F:Nat) :Nat->Sl->Int->Int->Hp->OA
 | 0,_,_,_,_=>none
 | fh+1,wh,jB,gV,H7=>(bif (decide (gV<jB)) then ((Hp.new H7 [(.int .i64 gV)]).bind λH11=>(Sl.row H11 (⟨some (H7.length,0),1,.ex 1⟩:Sl) 1).bind λxs13=>(Hp.app H11 1 8 wh (⟨some (H7.length,0),1,.ex 1⟩:Sl).n xs13).bind λa12=>bB.l29 F fh a12.1 jB (wrap .i64 (gV+1)) a12.2) else (some ((.sl wh),H7)))
def bB.twX (ac:Int) (H:Hp):OA:=bB.l29 F F (⟨none,0,.ex 0⟩:Sl) ac 0 H
def bB.tw:=bB.twX F
def bB.lh29 (ks:abT) (n:Nat) (tm:Tm) (H:Hp):OA:=match ks,tm 3,tm 5,tm 6 with
 | [],(.sl wh),(.int .i64 jB),(.int .i64 gV)=>bB.l29 F n wh jB gV H
 | _,_,_,_=>none
def bB.lh (p:Nat) (ks:abT) (n:Nat) (tm:Tm) (H:Hp):OA:=bif p.beq 29 then bB.lh29 F ks n tm H else (none)
def mk14 (g:ab1) (args:ab0) (H:Hp):OA:=match args with
 | [(.int .i64 ac)]=>g ac H
 | _=>none
theorem mk14_E (g:ab1) (ac:Int) (H:Hp):mk14 g [(.int .i64 ac)] H=g ac H:=rfl
theorem bB.loops:LO (aT []) aC (bB.lh F) F Try.f125:=
 (ae.rt (ae.rt (ae.lt (ae.rt (ae.block (ae.la (λn tm H r h=>by change bB.lh29 F [] n tm H=_ at h;unfold bB.lh29 at h;split at h;have e:bF tm [(3,_),(5,_),(6,_)]:=⟨‹_›,‹_›,‹_›,trivial⟩;obtain _ | k29:=n;cases h;exact ⟨_,rfl,by rw [<- bI e];exact Eq.trans (by kernel_rfl) h⟩;cases h) λk29=>ae.no))))))
theorem bB.k:Ok Try.prog 125 (mk14 (bB.tw F)):=by
 intro args H v H' h
 unfold mk14 at h
 split at h
 ·exact okT (PN:=aC) (LH:=(bB.lh F)) (F:=F) (TB:=aC) Try.func125 bo (bB.loops F) (Eq.trans (by kernel_rfl) h) (by kernel_rfl)
 ·cases h
def bf.j2 (F:Nat) (C7_:acK) (Tj:Sl) (qA:Int) (qB:Int) (Tk:Sl) (qC:Int) (qD:Int) (H50:Hp):OA:=C7_ Tj qA qB Tk qC (wrap .i64 (qD+1)) H50
def bf.l7 (F:Nat) :Nat->Sl->Int->Int->Sl->Int->Int->Hp->OA
 | 0,_,_,_,_,_,_,_=>none
 | Jl+1,jC,dp,iI,te,iJ,gn,H16=>(bif (decide (gn<iJ)) then ((Sl.idx te gn 1).bind λp34=>(Hp.ldI H16 .i64 p34.1 p34.2).bind λn35=>(bif (n35==dp) then ((Sl.idx jC gn 1).bind λp36=>(Hp.st H16 p36.1 p36.2 (.int .i64 iI)).bind λH37=>bf.j2 F (bf.l7 F Jl) jC dp iI te iJ gn H37) else (bf.j2 F (bf.l7 F Jl) jC dp iI te iJ gn H16))) else (some ((.tup []),H16)))
def bf.twX (ac:Sl) (aq:Int) (dy:Int) (H:Hp):OA:=(Sl.idx ac dy 1).bind λp4=>(Hp.ldI H .i64 p4.1 p4.2).bind λn5=>(Sl.idx ac aq 1).bind λp6=>(Hp.ldI H .i64 p6.1 p6.2).bind λn7=>bf.l7 F F ac n5 n7 ac (ac.n:Int) 0 H
def bf.tw:=bf.twX F
def bf.lh7 (ks:abT) (n:Nat) (tm:Tm) (H:Hp):OA:=match ks,tm 0,tm 6,tm 7,tm 18,tm 19,tm 20 with
 | [],(.sl jC),(.int .i64 dp),(.int .i64 iI),(.sl te),(.int .i64 iJ),(.int .i64 gn)=>bf.l7 F n jC dp iI te iJ gn H
 | _,_,_,_,_,_,_=>none
def bf.lh (p:Nat) (ks:abT) (n:Nat) (tm:Tm) (H:Hp):OA:=bif p.beq 7 then bf.lh7 F ks n tm H else (none)
def bf.tb:Nat->List (List Nat):=cS [(0,[[],[],[0,1],[0,1,2],[],[],[4,5],[4,5,6],[0,1,2,3],[0,1,2,3,4,5,6,7,8]])]
def mk15 (g:abY) (args:ab0) (H:Hp):OA:=match args with
 | [(.sl ac),(.int .i64 aq),(.int .i64 dy)]=>g ac aq dy H
 | _=>none
theorem mk15_E (g:abY) (ac:Sl) (aq:Int) (dy:Int) (H:Hp):mk15 g [(.sl ac),(.int .i64 aq),(.int .i64 dy)] H=g ac aq dy H:=rfl
theorem bf.loops:LO (aT []) aC (bf.lh F) F Try.f129:=
 (ae.rt (ae.rt (ae.block (ae.la (λn tm H r h=>by change bf.lh7 F [] n tm H=_ at h;unfold bf.lh7 at h;split at h;have e:bF tm [(0,_),(6,_),(7,_),(18,_),(19,_),(20,_)]:=⟨‹_›,‹_›,‹_›,‹_›,‹_›,‹_›,trivial⟩;obtain _ | k7:=n;cases h;exact ⟨_,rfl,by rw [<- bI e];exact Eq.trans (by kernel_rfl) h⟩;cases h) λk7=>ae.no))))
theorem bf.k:Ok Try.prog 129 (mk15 (bf.tw F)):=by
 intro args H v H' h
 unfold mk15 at h
 split at h
 ·exact okT (PN:=aC) (LH:=(bf.lh F)) (F:=F) (TB:=bf.tb) Try.func129 bo (bf.loops F) (Eq.trans (by kernel_rfl) h) (by kernel_rfl)
 ·cases h
theorem nm_law:Keyed Try.prog 2:=int_keyed Try.underlying2
theorem nm_zero (w:World):(zeroValue 2).run Try.prog w=.ok (.int .i64 0) w:=by kernel_rfl
theorem nm_info:(Try.prog.info? 2).map (λi=>(i.zero,i.size,i.bytes))=some (some (.int .i64 0),1,8):=by kernel_rfl
theorem nm_none (a:Option Addr) (cap:Nat) (w:World):Calls Try.prog 130 #[.slice a 0 cap] w λe w'=>e=.returned (.slice none 0 0)/\Below w.heap.size w w':=by
 have hmm:=@run_makeMap Try.prog
 go_enter Try.func130,Try.ntmps130
 go_wp2
 refine wp_loop_rounds 1 ?_
 rw [rounds_succ]
 go_wp2
 go_ret
 exact ⟨rfl,(Below.refl _ _).alloc (Nat.le_refl _) _⟩
theorem nm_any (b off len cap:Nat) (zs:abU) (w:World) (hreach:len<=4294967296) (hz:len<=zs.length) (hb:b<w.heap.size)
  (hc:∀ j,j<zs.length->w.cell? ⟨b,off+j,none⟩=some (.int .i64 (zs.getD j 0))) (hwz:∀ n∈zs,(Lit.int .i64 n).wf=true) :
  Calls Try.prog 130 #[.slice (some ⟨b,off,none⟩) len cap] w λe w'=>∃ v,e=.returned v/\w'.ownsRow (w.heap.size+1) 2 1 v len ((nst zs len).2.map (Value.int .i64))/\Below w.heap.size w w':=by
 have hmm:=@run_makeMap Try.prog
 obtain ⟨i0,hi,hz0,hz1,hz2⟩:=info_parts nm_info
 go_enter Try.func130,Try.ntmps130
 go_wp2
 go_loopw [4,12] (λv i wr=>∃ (k:Nat) (D:DataW Unit),k<=len/\i=.int .i64 k/\wr.ownsMap Try.prog 2 (plainElem Try.prog 2) w.heap.size k D/\ND D (nst zs k).1 /\
   wr.ownsRow (w.heap.size+1) 2 1 v k ((nst zs k).2.map (Value.int .i64))/\Below w.heap.size w wr/\w.heap.size+1<=wr.heap.size)
  (λ_ i _=>len - (intOf i).toNat)
 case atStart=>exact ⟨0,.map [],Nat.zero_le _,rfl,World.ownsMap_made _ _ _ _,ND.nil,World.ownsRow_nil _ _ _ _,(Below.refl _ _).alloc (Nat.le_refl _) _,by simp⟩
 case round=>
  obtain ⟨k,D,hk,rfl,hown,hD,hrow,hnx,hws⟩:=hrel
  obtain ⟨x,hx⟩:∃ x,x=zs.getD k 0:=⟨_,rfl⟩
  have hwx:(Lit.int .i64 x).wf=true:=by rw [hx];exact aaa hwz k
  have hcx:k<len->wr.cell? ⟨b,off+k,none⟩=some (.int .i64 x):=λ_=>by rw [hx];exact (hnx.cell (by exact hb)).trans (hc k (by omega))
  have hkey:keyOf Try.prog 2 (.int .i64 x)=some (.int .i64 x):=keyOf_int_mk Try.underlying2 hwx
  have hl1:=QJ zs k
  have hs1:Maps.size D<=k:=by rw [hD.size];exact hl1
  have hht:=hown.tidy nm_law
  have n1:nst zs (k+1)=(bif (nst zs k).1.contains x then (nst zs k).1 else (nst zs k).1++[x],(nst zs k).2++[(((bif (nst zs k).1.contains x then (nst zs k).1 else (nst zs k).1++[x]).idxOf x:Nat):Int)]):=by rw [hx];rfl
  clear hx
  go_wp2_with (first
   | (at_lookup;first
     | (refine wpList_lookup_own_ok_int _ rfl _ _ 181 rfl 2 2 .i64 nm_law Try.underlying181 Try.underlying2 (nm_zero _) w.heap.size k _ rfl hown _ _ rfl hkey ?_;intro c hat hwc)
     | (refine wpList_lookup_own_int _ rfl _ _ 181 rfl 2 2 .i64 nm_law Try.underlying181 Try.underlying2 (nm_zero _) w.heap.size (k+1) _ rfl hown1 _ _ rfl hkey ?_;intro c2 hat2 hwc2)
     | (refine wpList_lookup_own_int _ rfl _ _ 181 rfl 2 2 .i64 nm_law Try.underlying181 Try.underlying2 (nm_zero _) w.heap.size k _ rfl hown _ _ rfl hkey ?_;intro c2 hat2 hwc2))
   | (at_len;refine wpList_len_own _ rfl _ 181 rfl 2 2 Try.underlying181 _ w.heap.size k _ rfl hown ?_)
   | (at_mapUpdate;refine wpList_mapUpdate_own _ rfl _ _ _ 181 rfl 2 2 nm_law Try.underlying181 (plainElem Try.prog 2) w.heap.size k _ rfl hown (by unfold maxLen;omega) _ _ _ rfl rfl hkey _ [] (plainElem_int Try.underlying2 (WalkArith.wf_i64 (by omega))) ?_;intro w1 hown1 hgrow1)
   | (at_builtin;first
     | (refine wpList_append_own _ rfl _ _ 47 rfl (w.heap.size+1) 2 i0 (.int .i64 0) 1 8 Try.underlying47 hi hz0 hz1 hz2 rfl (by decide) _ _ _ rfl ((hrow.kept hgrow1 (Or.inr (zG hrow (Nat.lt_succ_self _)).symm)).alloc _) ⟨w1.heap.size,0,none⟩ 1 1 [.int .i64 c2] rfl rfl (cell_one_new _ _ _) (ints_oneCell .i64 [c2]) (by unfold maxLen;omega) (by omega) (by have:=hgrow1.size;simp at this ⊢;omega) ?_;intro v' w2 hown' hgrow2 hnil2)
     | (refine wpList_append_own _ rfl _ _ 47 rfl (w.heap.size+1) 2 i0 (.int .i64 0) 1 8 Try.underlying47 hi hz0 hz1 hz2 rfl (by decide) _ _ _ rfl (hrow.alloc _) ⟨wr.heap.size,0,none⟩ 1 1 [.int .i64 c2] rfl rfl (cell_one_new _ _ _) (ints_oneCell .i64 [c2]) (by unfold maxLen;omega) (by omega) (by simp;omega) ?_;intro v' w2 hown' hgrow2 hnil2))
   | go_in)
  ·have hlt:k<len:=by assumption
   have ht:(!Maps.has D (Lit.int .i64 x))=true:=by assumption
   have hc0:(nst zs k).1.contains x=false:=by rw [<- hD.has x];simpa using ht
   have hr1:=hrow.kept hgrow1 (Or.inr (zG hrow (Nat.lt_succ_self _)).symm)
   have s1:=hgrow1.size
   have s2:=hgrow2.size
   simp at s1 s2
   have hD1:=hD.new hht hc0
   rw [hD1.at_ x (by simp) _] at hat2
   have e2:c2=(((nst zs k).1++[x]).idxOf x:Nat):=by injection hat2 with q;injection q with _ q;exact q.symm
   rw [hc0,cond_false] at n1
   go_roundw
   case rel=>
    refine ⟨k+1,_,by omega,by go_num,(hown1.alloc _).kept hgrow2 (zG hr1 (Nat.lt_succ_self _)),by rw [n1];exact hD1,?_,?_,by omega⟩
    ·rw [n1,List.map_append,<-e2];exact hown'
    ·exact (((hnx.grown hgrow1 hnx.size (λj hj=>by cases hj;exact Nat.le_refl _)).alloc (by omega) _).grown hgrow2 (by simp;omega) (λj hj=>Nat.le_trans (Nat.le_succ _) (hr1.lt j hj).1))
   case measure=>simp [intOf];omega
  ·have hlt:k<len:=by assumption
   have ht:(!Maps.has D (Lit.int .i64 x))=false:=by assumption
   have hc1:(nst zs k).1.contains x=true:=by rw [<- hD.has x];simpa using ht
   have s2:=hgrow2.size
   simp at s2
   rw [hD.at_ x hc1 _] at hat2
   have e2:c2=((nst zs k).1.idxOf x:Nat):=by injection hat2 with q;injection q with _ q;exact q.symm
   rw [hc1,cond_true] at n1
   go_roundw
   case rel=>
    refine ⟨k+1,_,by omega,by go_num,((hown.alloc _).kept hgrow2 (zG hrow (Nat.lt_succ_self _))).mono (Nat.le_succ _),by rw [n1];exact hD,?_,?_,by omega⟩
    ·rw [n1,List.map_append,<-e2];exact hown'
    ·exact ((hnx.alloc hnx.size _).grown hgrow2 (by simp;omega) (λj hj=>Nat.le_trans (Nat.le_succ _) (hrow.lt j hj).1))
   case measure=>simp [intOf];omega
  ·have:k=len:=by omega
   subst this
   go_ret
   exact ⟨_,rfl,hrow,hnx⟩
theorem nm_ok:NumOk Try.prog 130 2:=⟨nm_none,nm_any⟩
def ct.tw (F:Nat) (ac:Sl) (H:Hp):OA:=vm ac H
def ct.mk (g:abS) (args:ab0) (H:Hp):OA:=match args with
 | [.sl ac]=>g ac H
 | _=>none
theorem ct.T {F:Nat} {ac:Sl} {H:Hp} {v:AV} {H':Hp} (h:ct.tw F ac H=some (v,H')):Go.AE.T Try.prog 130 [.sl ac] H v H':=
 nm_ok.T (aab Try.func130 (by kernel_rfl) (by kernel_rfl)) h
theorem ct.mk_T {F:Nat} {args:ab0} {H:Hp} {v:AV} {H':Hp} (h:ct.mk (ct.tw F) args H=some (v,H')):Go.AE.T Try.prog 130 args H v H':=by
 unfold ct.mk at h
 split at h
 ·exact ct.T h
 ·cases h
theorem ct.k:Ok Try.prog 130 (ct.mk (ct.tw F)):=λ_ _ _ _ h=>ct.mk_T h
def bx.l29 (F:Nat) (bZ:abS) (cu:ab1) (cv:abY) (cw:abS) :Nat->Nat->Nat->Sl->Sl->Int->Int->Hp->OA
 | 0,_,_,_,_,_,_,_=>none
 | fh+1,mf,wi,kw,wj,jD,gW,H26=>(bif (decide (gW<jD)) then ((Sl.idx wj gW 2).bind λp40=>(Hp.ldI H26 .i64 p40.1 p40.2).bind λn41=>(Hp.ldI H26 .i64 p40.1 (p40.2+1)).bind λn42=>(Hp.new H26 [.int .i64 0,.int .i64 0]).bind λH43=>(Hp.st H43 H26.length 0 (.int .i64 n41)).bind λH44=>(Hp.st H44 H26.length (0+1) (.int .i64 n42)).bind λH45=>(Hp.ldI H45 .i64 H26.length 0).bind λn46=>(Hp.ldSl H45 mf (wi+1)).bind λs47=>(Sl.idx s47 gW 2).bind λp48=>(Hp.ldI H45 .i64 p48.1 p48.2).bind λn49=>(cv kw n46 n49 H45).bind λr50=>bx.l29 F bZ cu cv cw fh mf wi kw wj jD (wrap .i64 (gW+1)) r50.2) else ((cw kw H26).bind λr51=>((r51.1).asSl).bind λs52=>some ((.sl s52),r51.2)))
termination_by structural n=>n
def bx.twX (bZ:abS) (cu:ab1) (cv:abY) (cw:abS) (ac:Sl) (ag:Int) (ay:Sl) (bp:Sl) (H:Hp):OA:=(Hp.new H [(.sl ac),(.int .i64 ag)]).bind λH5=>(Hp.new H5 [(.sl ay),(.sl bp)]).bind λH6=>(Hp.ldSl H6 H.length 0).bind λs7=>(bZ s7 H6).bind λr8=>((r8.1).asI .i64).bind λn9=>(cu n9 r8.2).bind λr10=>((r10.1).asSl).bind λs11=>(Hp.ldSl r10.2 H5.length 0).bind λs12=>bx.l29 F bZ cu cv cw F H5.length 0 s11 s12 (s12.n:Int) 0 r10.2
def bx.tw:=bx.twX F (cl.tw F) (bB.tw F) (bf.tw F) (ct.tw F)
def bx.lh29 (bZ:abS) (cu:ab1) (cv:abY) (cw:abS) (ks:abT) (n:Nat) (tm:Tm) (H:Hp):OA:=match ks,tm 3,tm 5,tm 13,tm 14,tm 15 with
 | [],(.ptr mf wi),(.sl kw),(.sl wj),(.int .i64 jD),(.int .i64 gW)=>bx.l29 F bZ cu cv cw n mf wi kw wj jD gW H
 | _,_,_,_,_,_=>none
def bx.lh (bZ:abS) (cu:ab1) (cv:abY) (cw:abS) (p:Nat) (ks:abT) (n:Nat) (tm:Tm) (H:Hp):OA:=bif p.beq 29 then bx.lh29 F bZ cu cv cw ks n tm H else (none)
def bx.pn:Nat->List Nat:=cS [(5,[9])]
def bx.tb:Nat->List (List Nat):=cS [(5,[[],[],[1],[],[3],[],[3,4,5],[3,4,5,6],[3,4,5,6,7],[0,1,2,3,4,5,6,7,8]])]
def bx.cs (F:Nat) (bZ:abS) (cu:ab1) (cv:abY) (cw:abS):Cs:=[(128,mk3 bZ),(125,mk14 cu),(129,mk15 cv),(130,ct.mk cw)]
theorem bx.loops (bZ:abS) (cu:ab1) (cv:abY) (cw:abS):LO (aT (bx.cs F bZ cu cv cw)) bx.pn (bx.lh F bZ cu cv cw) F Try.f159:=
 (ae.rt (ae.rt (ae.lt (ae.rt (ae.block (ae.la (λn tm H r h=>by change bx.lh29 F bZ cu cv cw [] n tm H=_ at h;unfold bx.lh29 at h;split at h;have e:bF tm [(3,_),(5,_),(13,_),(14,_),(15,_)]:=⟨‹_›,‹_›,‹_›,‹_›,‹_›,trivial⟩;obtain _ | k29:=n;cases h;exact ⟨_,rfl,by rw [<- bI e];exact Eq.trans (by kernel_rfl) h⟩;cases h) λk29=>ae.no))))))
theorem bx.eqX (bZ:abS) (cu:ab1) (cv:abY) (cw:abS) (ac:Sl) (ag:Int) (ay:Sl) (bp:Sl) (H:Hp):EX (aT (bx.cs F bZ cu cv cw)) bx.pn (bx.lh F bZ cu cv cw) F Try.f159 [(.agg [(.sl ac),(.int .i64 ag)]),(.agg [(.sl ay),(.sl bp)])] H=bx.twX F bZ cu cv cw ac ag ay bp H:=by kernel_rfl
theorem bx.k:Ok Try.prog 159 (mk13 (bx.tw F)):=by
 intro args H v H' h
 unfold mk13 at h
 split at h
 ·exact okT (TB:=bx.tb) Try.func159 (aU (cl.k F) (aU (bB.k F) (aU (bf.k F) (aU (ct.k F) bo)))) (bx.loops F (cl.tw F) (bB.tw F) (bf.tw F) (ct.tw F)) ((bx.eqX F (cl.tw F) (bB.tw F) (bf.tw F) (ct.tw F) _ _ _ _ H).trans h) (by kernel_rfl)
 ·cases h
def bu.l61 (F:Nat) :Nat->Sl->Int->Int->Hp->OA
 | 0,_,_,_,_=>none
 | bY+1,jC,fI,iK,H13=>(bif (decide (iK<(jC.n:Int))) then ((Sl.idx jC iK 1).bind λp16=>(Hp.ldI H13 .i64 p16.1 p16.2).bind λn17=>bu.l61 F bY jC (if n17>fI then n17 else fI) (wrap .i64 (iK+1)) H13) else (some ((.int .i64 fI),H13)))
def bu.j1 (Jm:Sl) (H5:Hp):OA:=(Sl.idx Jm 0 1).bind λp6=>(Hp.ldI H5 .i64 p6.1 p6.2).bind λn7=>bu.l61 F F Jm n7 1 H5
def bu.twX (ac:Sl) (H:Hp):OA:=(bif (decide ((ac.n:Int)<1)) then (none) else (bu.j1 F ac H))
def bu.tw:=bu.twX F
def bu.lh61 (ks:abT) (n:Nat) (tm:Tm) (H:Hp):OA:=match ks,tm 0,tm 3,tm 4 with
 | [],(.sl jC),(.int .i64 fI),(.int .i64 iK)=>bu.l61 F n jC fI iK H
 | _,_,_,_=>none
def bu.lh (p:Nat) (ks:abT) (n:Nat) (tm:Tm) (H:Hp):OA:=bif p.beq 61 then bu.lh61 F ks n tm H else (none)
theorem bu.loops:LO (aT []) aC (bu.lh F) F Try.f171:=
 (ae.rt (ae.rt (ae.rt (ae.lt (ae.rt (ae.block (ae.la (λn tm H r h=>by change bu.lh61 F [] n tm H=_ at h;unfold bu.lh61 at h;split at h;have e:bF tm [(0,_),(3,_),(4,_)]:=⟨‹_›,‹_›,‹_›,trivial⟩;obtain _ | k61:=n;cases h;exact ⟨_,rfl,by rw [<- bI e];exact Eq.trans (by kernel_rfl) h⟩;cases h) λk61=>ae.no)))))))
theorem bu.k:Ok Try.prog 171 (mk3 (bu.tw F)):=by
 intro args H v H' h
 unfold mk3 at h
 split at h
 ·exact okT (PN:=aC) (LH:=(bu.lh F)) (F:=F) (TB:=aC) Try.func171 bo (bu.loops F) (Eq.trans (by kernel_rfl) h) (by kernel_rfl)
 ·cases h
def da.twX (F:Nat) (qE:abS) (ac:Sl) (H:Hp):OA:=(bif ((ac.n:Int)==0) then (some ((.int .i64 0),H)) else ((qE ac H).bind λr2=>((r2.1).asI .i64).bind λn3=>some ((.int .i64 (wrap .i64 (n3+1))),r2.2)))
def da.tw:=da.twX F (bu.tw F)
def da.cs (F:Nat) (qE:abS):Cs:=[(171,mk3 qE)]
theorem da.eqX (qE:abS) (ac:Sl) (H:Hp):EX (aT (da.cs F qE)) aC lh0 F Try.f131 [(.sl ac)] H=da.twX F qE ac H:=by kernel_rfl
theorem da.k:Ok Try.prog 131 (mk3 (da.tw F)):=by
 intro args H v H' h
 unfold mk3 at h
 split at h
 ·exact okT (TB:=aC) Try.func131 (aU (bu.k F) bo) ae.no ((da.eqX F (bu.tw F) _ H).trans h) (by kernel_rfl)
 ·cases h
def cH.twX (F:Nat) (bZ:abS) (e_:ab6) (qF:abS) (qG:abQ) (qH:acm) (qI:abS) (qJ:acm) (dW:abS) (ac:Sl) (ag:Int) (H:Hp):OA:=(Hp.new H [(.sl ac),(.int .i64 ag)]).bind λH3=>(Hp.new H3 [.sl ⟨none,0,.ex 0⟩,.sl ⟨none,0,.ex 0⟩]).bind λH4=>(Hp.ldSl H4 H.length 0).bind λs5=>(bZ s5 H4).bind λr6=>((r6.1).asI .i64).bind λn7=>(bif (decide (n7>10)) then ((Hp.st r6.2 H3.length 0 (.sl (⟨none,0,.ex 0⟩:Sl))).bind λH8=>(Hp.st H8 H3.length (0+1) (.sl (⟨none,0,.ex 0⟩:Sl))).bind λH9=>(Hp.ldSl H9 H3.length 0).bind λs10=>(Hp.ldSl H9 H3.length (0+1)).bind λs11=>some ((.tup [(.agg [(.sl s10),(.sl s11)]),(.bool false)]),H9)) else ((Hp.ldI r6.2 .i64 H.length 1).bind λn12=>(e_ n12 0 8 r6.2).bind λr13=>((r13.1).asB).bind λb14=>(bif (!b14) then ((Hp.st r13.2 H3.length 0 (.sl (⟨none,0,.ex 0⟩:Sl))).bind λH15=>(Hp.st H15 H3.length (0+1) (.sl (⟨none,0,.ex 0⟩:Sl))).bind λH16=>(Hp.ldSl H16 H3.length 0).bind λs17=>(Hp.ldSl H16 H3.length (0+1)).bind λs18=>some ((.tup [(.agg [(.sl s17),(.sl s18)]),(.bool false)]),H16)) else ((Hp.ldSl r13.2 H.length 0).bind λs19=>(qF s19 r13.2).bind λr20=>((r20.1).asB).bind λb21=>(bif b21 then ((Hp.st r20.2 H3.length 0 (.sl (⟨none,0,.ex 0⟩:Sl))).bind λH22=>(Hp.st H22 H3.length (0+1) (.sl (⟨none,0,.ex 0⟩:Sl))).bind λH23=>(Hp.ldSl H23 H3.length 0).bind λs24=>(Hp.ldSl H23 H3.length (0+1)).bind λs25=>some ((.tup [(.agg [(.sl s24),(.sl s25)]),(.bool false)]),H23)) else ((Hp.ldSl r20.2 H.length 0).bind λs26=>(Hp.ldI r20.2 .i64 H.length (0+1)).bind λn27=>(qG s26 n27 r20.2).bind λr28=>((r28.1).asTup 2).bind λl29=>(l29[0]?).bind λv30=>((v30).asAgg 2).bind λl31=>(l31[0]?).bind λv32=>((v32).asSl).bind λs33=>(l31[1]?).bind λv34=>((v34).asSl).bind λs35=>(l29[1]?).bind λv36=>((v36).asB).bind λb37=>(Hp.new r28.2 [.sl ⟨none,0,.ex 0⟩,.sl ⟨none,0,.ex 0⟩]).bind λH38=>(Hp.st H38 r28.2.length 0 (.sl s33)).bind λH39=>(Hp.st H39 r28.2.length (0+1) (.sl s35)).bind λH40=>(bif (!b37) then ((Hp.st H40 H3.length 0 (.sl (⟨none,0,.ex 0⟩:Sl))).bind λH41=>(Hp.st H41 H3.length (0+1) (.sl (⟨none,0,.ex 0⟩:Sl))).bind λH42=>(Hp.ldSl H42 H3.length 0).bind λs43=>(Hp.ldSl H42 H3.length (0+1)).bind λs44=>some ((.tup [(.agg [(.sl s43),(.sl s44)]),(.bool false)]),H42)) else ((Hp.ldSl H40 H.length 0).bind λs45=>(Hp.ldI H40 .i64 H.length (0+1)).bind λn46=>(Hp.ldSl H40 r28.2.length 0).bind λs47=>(Hp.ldSl H40 r28.2.length (0+1)).bind λs48=>(qH s45 n46 s47 s48 H40).bind λr49=>((r49.1).asSl).bind λs50=>(if aV H40 r49.2 then ((qI s50 r49.2).bind λr51=>((r51.1).asI .i64).bind λn52=>(if aV r49.2 r51.2 then ((Hp.ldSl r51.2 H.length 0).bind λs53=>(Hp.ldI r51.2 .i64 H.length (0+1)).bind λn54=>(Hp.ldSl r51.2 r28.2.length 0).bind λs55=>(Hp.ldSl r51.2 r28.2.length (0+1)).bind λs56=>(qJ s53 n54 s55 s56 r51.2).bind λr57=>((r57.1).asSl).bind λs58=>(dW s58 r57.2).bind λr59=>((r59.1).asI .i64).bind λn60=>(bif (n52 != (wrap .i64 (n7+(wrap .i64 (2 * n60))))) then ((Hp.st r59.2 H3.length 0 (.sl (⟨none,0,.ex 0⟩:Sl))).bind λH61=>(Hp.st H61 H3.length (0+1) (.sl (⟨none,0,.ex 0⟩:Sl))).bind λH62=>(Hp.ldSl H62 H3.length 0).bind λs63=>(Hp.ldSl H62 H3.length (0+1)).bind λs64=>some ((.tup [(.agg [(.sl s63),(.sl s64)]),(.bool false)]),H62)) else ((Hp.ldSl r59.2 r28.2.length 0).bind λs65=>(Hp.ldSl r59.2 r28.2.length (0+1)).bind λs66=>(Hp.st r59.2 H3.length 0 (.sl s65)).bind λH67=>(Hp.st H67 H3.length (0+1) (.sl s66)).bind λH68=>(Hp.ldSl H68 H3.length 0).bind λs69=>(Hp.ldSl H68 H3.length (0+1)).bind λs70=>some ((.tup [(.agg [(.sl s69),(.sl s70)]),(.bool true)]),H68)))) else none)) else none)))))))))
def cH.tw:=cH.twX F (cl.tw F) (de.tw F) (et.tw F) (aX.tw F) (aD.tw F) (fy.tw F) (bx.tw F) (da.tw F)
def cH.pn:Nat->List Nat:=cS [(5,[10,11])]
def cH.tb:Nat->List (List Nat):=cS [(5,[[],[0],[0,1],[0,1,2],[0,1,2],[0,1,2,3,4],[0,1,2,3,4,5],[0,1,2],[0,1,2],[0,1,2],[0,1,2,3,4,5,6,8,9],[0,1,2,3,4,5,6,8,9,10],[0,1,2,3,4,5,6,8,9,10,11],[0,1,2,3,4,5,6,7,8,9,10,11,12],[0,1,2,3,4,5,6,7,8,9,10,11,12,13],[0,1,2,3,4,5,6,7,8,9,10,11,12,13,14]])]
def cH.cs (F:Nat) (bZ:abS) (e_:ab6) (qF:abS) (qG:abQ) (qH:acm) (qI:abS) (qJ:acm) (dW:abS):Cs:=[(128,mk3 bZ),(112,mk5 e_),(156,mk10 qF),(158,mk4 qG),(104,mk13 qH),(85,mk3 qI),(159,mk13 qJ),(131,mk3 dW)]
theorem cH.eqX (bZ:abS) (e_:ab6) (qF:abS) (qG:abQ) (qH:acm) (qI:abS) (qJ:acm) (dW:abS) (ac:Sl) (ag:Int) (H:Hp):EX (aT (cH.cs F bZ e_ qF qG qH qI qJ dW)) cH.pn lh0 F Try.f103 [(.agg [(.sl ac),(.int .i64 ag)])] H=cH.twX F bZ e_ qF qG qH qI qJ dW ac ag H:=by kernel_rfl
theorem cH.k:Ok Try.prog 103 (mk4 (cH.tw F)):=by
 intro args H v H' h
 unfold mk4 at h
 split at h
 ·exact okT (TB:=cH.tb) Try.func103 (aU (cl.k F) (aU (de.k F) (aU (et.k F) (aU (aX.k F) (aU (aD.k F) (aU (fy.k F) (aU (bx.k F) (aU (da.k F) bo)))))))) ae.no ((cH.eqX F (cl.tw F) (de.tw F) (et.tw F) (aX.tw F) (aD.tw F) (fy.tw F) (bx.tw F) (da.tw F) _ _ H).trans h) (by kernel_rfl)
 ·cases h
def dX.twX (F:Nat) (qK:abQ) (ac:Sl) (ag:Int) (H:Hp):OA:=(Hp.new H [(.sl ac),(.int .i64 ag)]).bind λH3=>(Hp.ldSl H3 H.length 0).bind λs4=>(Hp.ldI H3 .i64 H.length (0+1)).bind λn5=>(qK s4 n5 H3).bind λr6=>((r6.1).asTup 2).bind λl7=>(l7[0]?).bind λv8=>((v8).asAgg 2).bind λl9=>(l9[0]?).bind λv10=>((v10).asSl).bind λs11=>(l9[1]?).bind λv12=>((v12).asSl).bind λs13=>(l7[1]?).bind λv14=>((v14).asB).bind λb15=>(Hp.new r6.2 [.sl ⟨none,0,.ex 0⟩,.sl ⟨none,0,.ex 0⟩]).bind λH16=>(Hp.st H16 r6.2.length 0 (.sl s11)).bind λH17=>(Hp.st H17 r6.2.length (0+1) (.sl s13)).bind λH18=>some ((.bool b15),H18)
def dX.tw:=dX.twX F (cH.tw F)
def dX.cs (F:Nat) (qK:abQ):Cs:=[(103,mk4 qK)]
theorem dX.eqX (qK:abQ) (ac:Sl) (ag:Int) (H:Hp):EX (aT (dX.cs F qK)) aC lh0 F Try.f63 [(.agg [(.sl ac),(.int .i64 ag)])] H=dX.twX F qK ac ag H:=by kernel_rfl
theorem dX.k:Ok Try.prog 63 (mk4 (dX.tw F)):=by
 intro args H v H' h
 unfold mk4 at h
 split at h
 ·exact okT (TB:=aC) Try.func63 (aU (cH.k F) bo) ae.no ((dX.eqX F (cH.tw F) _ _ H).trans h) (by kernel_rfl)
 ·cases h
def ba.j1 (F:Nat) (bZ:abS) (cu:ab1) (cv:abY) (cw:abS) (dW:abS) (wk:Nat) (Tl:Nat) (Tn:Sl) (H47:Hp):OA:=(cw Tn H47).bind λr48=>((r48.1).asSl).bind λs49=>(dW s49 r48.2).bind λr50=>((r50.1).asI .i64).bind λn51=>(if aV r48.2 r50.2 then ((Hp.ldI r50.2 .i64 wk (Tl+1)).bind λn52=>some ((.tup [(.sl s49),(.int .i64 (wrap .i64 (n51+n52)))]),r50.2)) else none)
def ba.l29 (F:Nat) (bZ:abS) (cu:ab1) (cv:abY) (cw:abS) (dW:abS) :Nat->Nat->Nat->Sl->Sl->Int->Int->Hp->OA
 | 0,_,_,_,_,_,_,_=>none
 | fh+1,mg,wo,tf,wq,jE,iL,H20=>(bif (decide (iL<jE)) then ((Sl.idx wq iL 5).bind λp53=>(Hp.ldI H20 .i64 p53.1 p53.2).bind λn54=>(Hp.ldI H20 .i64 p53.1 (p53.2+1)).bind λn55=>(Hp.ldI H20 .i64 p53.1 (p53.2+2)).bind λn56=>(Hp.ldI H20 .i64 p53.1 (p53.2+3)).bind λn57=>(Hp.ldI H20 .i64 p53.1 (p53.2+4)).bind λn58=>(Hp.new H20 [.int .i64 0,.int .i64 0,.int .i64 0,.int .i64 0,.int .i64 0]).bind λH59=>(Hp.st H59 H20.length 0 (.int .i64 n54)).bind λH60=>(Hp.st H60 H20.length (0+1) (.int .i64 n55)).bind λH61=>(Hp.st H61 H20.length (0+1+1) (.int .i64 n56)).bind λH62=>(Hp.st H62 H20.length (0+1+1+1) (.int .i64 n57)).bind λH63=>(Hp.st H63 H20.length (0+1+1+1+1) (.int .i64 n58)).bind λH64=>(Hp.ldI H64 .i64 H20.length 1).bind λn65=>(Hp.ldI H64 .i64 H20.length 3).bind λn66=>(cv tf n65 n66 H64).bind λr67=>ba.l29 F bZ cu cv cw dW fh mg wo tf wq jE (wrap .i64 (iL+1)) r67.2) else (ba.j1 F bZ cu cv cw dW mg wo tf H20))
termination_by structural n=>n
def ba.twX (bZ:abS) (cu:ab1) (cv:abY) (cw:abS) (dW:abS) (ac:Sl) (ag:Int) (H:Hp):OA:=(Hp.new H [(.sl ac),(.int .i64 ag)]).bind λH3=>(Hp.ldSl H3 H.length 0).bind λs4=>(bZ s4 H3).bind λr5=>((r5.1).asI .i64).bind λn6=>(cu (wrap .i64 (2 * n6)) r5.2).bind λr7=>((r7.1).asSl).bind λs8=>(Hp.ldSl r7.2 H.length 0).bind λs9=>ba.l29 F bZ cu cv cw dW F H.length 0 s8 s9 (s9.n:Int) 0 r7.2
def ba.tw:=ba.twX F (cl.tw F) (bB.tw F) (bf.tw F) (ct.tw F) (da.tw F)
def ba.lh29 (bZ:abS) (cu:ab1) (cv:abY) (cw:abS) (dW:abS) (ks:abT) (n:Nat) (tm:Tm) (H:Hp):OA:=match ks,tm 1,tm 4,tm 14,tm 15,tm 16 with
 | [],(.ptr mg wo),(.sl tf),(.sl wq),(.int .i64 jE),(.int .i64 iL)=>ba.l29 F bZ cu cv cw dW n mg wo tf wq jE iL H
 | _,_,_,_,_,_=>none
def ba.lh (bZ:abS) (cu:ab1) (cv:abY) (cw:abS) (dW:abS) (p:Nat) (ks:abT) (n:Nat) (tm:Tm) (H:Hp):OA:=bif p.beq 29 then ba.lh29 F bZ cu cv cw dW ks n tm H else (none)
def ba.tb:Nat->List (List Nat):=cS [(8,[[],[],[1],[],[3],[1,2,3,4],[0,1,2],[0,1,2,3,4,5,6]])]
def ba.cs (F:Nat) (bZ:abS) (cu:ab1) (cv:abY) (cw:abS) (dW:abS):Cs:=[(128,mk3 bZ),(125,mk14 cu),(129,mk15 cv),(130,ct.mk cw),(131,mk3 dW)]
theorem ba.loops (bZ:abS) (cu:ab1) (cv:abY) (cw:abS) (dW:abS):LO (aT (ba.cs F bZ cu cv cw dW)) aC (ba.lh F bZ cu cv cw dW) F Try.f64:=
 (ae.rt (ae.rt (ae.lt (ae.rt (ae.block (ae.la (λn tm H r h=>by change ba.lh29 F bZ cu cv cw dW [] n tm H=_ at h;unfold ba.lh29 at h;split at h;have e:bF tm [(1,_),(4,_),(14,_),(15,_),(16,_)]:=⟨‹_›,‹_›,‹_›,‹_›,‹_›,trivial⟩;obtain _ | k29:=n;cases h;exact ⟨_,rfl,by rw [<- bI e];exact Eq.trans (by kernel_rfl) h⟩;cases h) λk29=>ae.no))))))
theorem ba.eqX (bZ:abS) (cu:ab1) (cv:abY) (cw:abS) (dW:abS) (ac:Sl) (ag:Int) (H:Hp):EX (aT (ba.cs F bZ cu cv cw dW)) aC (ba.lh F bZ cu cv cw dW) F Try.f64 [(.agg [(.sl ac),(.int .i64 ag)])] H=ba.twX F bZ cu cv cw dW ac ag H:=by kernel_rfl
theorem ba.k:Ok Try.prog 64 (mk4 (ba.tw F)):=by
 intro args H v H' h
 unfold mk4 at h
 split at h
 ·exact okT (TB:=ba.tb) Try.func64 (aU (cl.k F) (aU (bB.k F) (aU (bf.k F) (aU (ct.k F) (aU (da.k F) bo))))) (ba.loops F (cl.tw F) (bB.tw F) (bf.tw F) (ct.tw F) (da.tw F)) ((ba.eqX F (cl.tw F) (bB.tw F) (bf.tw F) (ct.tw F) (da.tw F) _ _ H).trans h) (by kernel_rfl)
 ·cases h
def bv.l61 (F:Nat) (bT:abQ) :Nat->Sl->Sl->Sl->Int->Int->Hp->OA
 | 0,_,_,_,_,_,_=>none
 | bY+1,jb,wt,gA,ev,iM,H23=>(bif (decide (iM<ev)) then ((Sl.idx gA iM 5).bind λp51=>(Hp.ldI H23 .i64 p51.1 p51.2).bind λn52=>(Hp.ldI H23 .i64 p51.1 (p51.2+1)).bind λn53=>(Hp.ldI H23 .i64 p51.1 (p51.2+2)).bind λn54=>(Hp.ldI H23 .i64 p51.1 (p51.2+3)).bind λn55=>(Hp.ldI H23 .i64 p51.1 (p51.2+4)).bind λn56=>(Hp.new H23 [.int .i64 0,.int .i64 0,.int .i64 0,.int .i64 0,.int .i64 0]).bind λH57=>(Hp.st H57 H23.length 0 (.int .i64 n52)).bind λH58=>(Hp.st H58 H23.length (0+1) (.int .i64 n53)).bind λH59=>(Hp.st H59 H23.length (0+1+1) (.int .i64 n54)).bind λH60=>(Hp.st H60 H23.length (0+1+1+1) (.int .i64 n55)).bind λH61=>(Hp.st H61 H23.length (0+1+1+1+1) (.int .i64 n56)).bind λH62=>(Hp.ldI H62 .i64 H23.length 0).bind λn63=>(Sl.idx jb n63 1).bind λp64=>(Hp.ldI H62 .i64 p64.1 p64.2).bind λn65=>(Hp.ldI H62 .i64 H23.length 2).bind λn66=>(Sl.idx jb n66 1).bind λp67=>(Hp.ldI H62 .i64 p67.1 p67.2).bind λn68=>(Hp.ldI H62 .i64 H23.length 1).bind λn69=>(Sl.idx jb n69 1).bind λp70=>(Hp.ldI H62 .i64 p70.1 p70.2).bind λn71=>(Hp.ldI H62 .i64 H23.length 4).bind λn72=>(Hp.ldI H62 .i64 H23.length 4).bind λn73=>(Hp.new H62 [(.int .i64 (wrap .i64 (n68+1))),(.int .i64 (wrap .i64 (n72 * (wrap .i64 (n71+1))))),(.int .i64 (wrap .i64 (0 - (wrap .i64 (n65+1))))),(.int .i64 (wrap .i64 ((wrap .i64 (0 - n73)) * (wrap .i64 (n71+1)))))]).bind λH74=>(Hp.new H74 [(.sl (⟨some (H62.length,0),4,.ex 4⟩:Sl))]).bind λH75=>(Sl.row H75 (⟨some (H74.length,0),1,.ex 1⟩:Sl) 1).bind λxs77=>(Hp.app H75 1 24 wt (⟨some (H74.length,0),1,.ex 1⟩:Sl).n xs77).bind λa76=>bv.l61 F bT bY jb a76.1 gA ev (wrap .i64 (iM+1)) a76.2) else (some ((.sl wt),H23)))
def bv.twX (bT:abQ) (ac:Sl) (ag:Int) (H:Hp):OA:=(Hp.new H [(.sl ac),(.int .i64 ag)]).bind λH3=>(Hp.ldSl H3 H.length 0).bind λs4=>(Hp.ldI H3 .i64 H.length (0+1)).bind λn5=>(bT s4 n5 H3).bind λr6=>((r6.1).asTup 2).bind λl7=>(l7[0]?).bind λv8=>((v8).asSl).bind λs9=>(l7[1]?).bind λv10=>((v10).asI .i64).bind λn11=>(Hp.ldSl r6.2 H.length 0).bind λs12=>bv.l61 F bT F s9 (⟨none,0,.ex 0⟩:Sl) s12 (s12.n:Int) 0 r6.2
def bv.tw:=bv.twX F (ba.tw F)
def bv.lh61 (bT:abQ) (ks:abT) (n:Nat) (tm:Tm) (H:Hp):OA:=match ks,tm 3,tm 5,tm 17,tm 18,tm 19 with
 | [],(.sl jb),(.sl wt),(.sl gA),(.int .i64 ev),(.int .i64 iM)=>bv.l61 F bT n jb wt gA ev iM H
 | _,_,_,_,_,_=>none
def bv.lh (bT:abQ) (p:Nat) (ks:abT) (n:Nat) (tm:Tm) (H:Hp):OA:=bif p.beq 61 then bv.lh61 F bT ks n tm H else (none)
def bv.tb:Nat->List (List Nat):=cS [(6,[[],[],[1],[0,1,2],[0,1,2,3],[0,1,2,3,4],[],[],[7],[6,7,8],[6,7,8,9],[6,7,8,9,10],[],[],[13],[12,13,14],[12,13,14,15],[12,13,14,15,16],[0,1,2,3,4,5],[0,1,2,3,4,5,6,7,8,9,10,11,18],[0,1,2,3,4,5,6,7,8,9,10,11,12,13,14,15,16,17,18,19]])]
def bv.cs (F:Nat) (bT:abQ):Cs:=[(64,mk4 bT)]
theorem bv.loops (bT:abQ):LO (aT (bv.cs F bT)) aC (bv.lh F bT) F Try.f65:=
 (ae.rt (ae.rt (ae.rt (ae.lt (ae.rt (ae.block (ae.la (λn tm H r h=>by change bv.lh61 F bT [] n tm H=_ at h;unfold bv.lh61 at h;split at h;have e:bF tm [(3,_),(5,_),(17,_),(18,_),(19,_)]:=⟨‹_›,‹_›,‹_›,‹_›,‹_›,trivial⟩;obtain _ | k61:=n;cases h;exact ⟨_,rfl,by rw [<- bI e];exact Eq.trans (by kernel_rfl) h⟩;cases h) λk61=>ae.no)))))))
theorem bv.eqX (bT:abQ) (ac:Sl) (ag:Int) (H:Hp):EX (aT (bv.cs F bT)) aC (bv.lh F bT) F Try.f65 [(.agg [(.sl ac),(.int .i64 ag)])] H=bv.twX F bT ac ag H:=by kernel_rfl
theorem bv.k:Ok Try.prog 65 (mk4 (bv.tw F)):=by
 intro args H v H' h
 unfold mk4 at h
 split at h
 ·exact okT (TB:=bv.tb) Try.func65 (aU (ba.k F) bo) (bv.loops F (ba.tw F)) ((bv.eqX F (ba.tw F) _ _ H).trans h) (by kernel_rfl)
 ·cases h
def eB.twX (F:Nat) (ac:Sl) (H:Hp):OA:=(bif (ac.a.isNone) then (some ((.sl (⟨none,0,.ex 0⟩:Sl)),H)) else ((Hp.new H []).bind λH2=>(Sl.row H2 ac 1).bind λxs4=>(Hp.app H2 1 8 (⟨some (H.length,0),0,.ex 0⟩:Sl) ac.n xs4).bind λa3=>some ((.sl a3.1),a3.2)))
def eB.tw:=eB.twX F
theorem eB.k:Ok Try.prog 115 (mk3 (eB.tw F)):=by
 intro args H v H' h
 unfold mk3 at h
 split at h
 ·exact ok0 Try.func115 (Eq.trans (by kernel_rfl) h) (by kernel_rfl) (by kernel_rfl)
 ·cases h
def aL.j1 (F:Nat) (dq:abS) (qL:Nat) (Af:Nat) (jF:Nat) (mh:Nat) (H54:Hp):OA:=(Hp.ldSl H54 qL (Af+1)).bind λs55=>(bif ((s55.n:Int)==0) then ((Hp.st H54 jF mh (.int .i64 0)).bind λH56=>(Hp.st H56 jF (mh+1) (.sl (⟨none,0,.ex 0⟩:Sl))).bind λH57=>(Hp.ldI H57 .i64 jF mh).bind λn58=>(Hp.ldSl H57 jF (mh+1)).bind λs59=>some ((.agg [(.int .i64 n58),(.sl s59)]),H57)) else ((Hp.ldI H54 .i64 qL Af).bind λn60=>(Hp.ldSl H54 qL (Af+1)).bind λs61=>(dq s61 H54).bind λr62=>((r62.1).asSl).bind λs63=>(if aV H54 r62.2 then ((Hp.st r62.2 jF mh (.int .i64 n60)).bind λH64=>(Hp.st H64 jF (mh+1) (.sl s63)).bind λH65=>(Hp.ldI H65 .i64 jF mh).bind λn66=>(Hp.ldSl H65 jF (mh+1)).bind λs67=>some ((.agg [(.int .i64 n66),(.sl s67)]),H65)) else none)))
def aL.l14 (F:Nat) (dq:abS) :Nat->Nat->Nat->Nat->Nat->Hp->OA
 | 0,_,_,_,_,_=>none
 | zZ+1,eL,jG,kX,tg,H36=>(Hp.ldSl H36 eL (jG+1)).bind λs68=>(bif (decide ((s68.n:Int)>0)) then ((Hp.ldSl H36 eL (jG+1)).bind λs69=>(Hp.ldSl H36 eL (jG+1)).bind λs70=>(Sl.idx s69 (wrap .i64 ((s70.n:Int) - 1)) 1).bind λp71=>(Hp.ldI H36 .i64 p71.1 p71.2).bind λn72=>(bif (n72==0) then ((Hp.ldSl H36 eL (jG+1)).bind λs73=>(Hp.ldSl H36 eL (jG+1)).bind λs74=>(Sl.cut s73 1 0 (wrap .i64 ((s74.n:Int) - 1))).bind λs75=>(Hp.st H36 eL (jG+1) (.sl s75)).bind λH76=>aL.l14 F dq zZ eL jG kX tg H76) else (aL.j1 F dq eL jG kX tg H36))) else (aL.j1 F dq eL jG kX tg H36))
termination_by structural n=>n
def aL.j2 (dq:abS) (wu:Nat) (To:Nat) (wv:Nat) (Tp:Nat) (H28:Hp):OA:=aL.l14 F dq F wu To wv Tp H28
def aL.l6 (F:Nat) (dq:abS) :Nat->Nat->Nat->Nat->Nat->Hp->OA
 | 0,_,_,_,_,_=>none
 | Tq+1,cK,bV,fk,th,H11=>(Hp.ldSl H11 cK (bV+1)).bind λs77=>(bif (decide ((s77.n:Int)>0)) then ((Hp.ldSl H11 cK (bV+1)).bind λs78=>(Sl.idx s78 0 1).bind λp79=>(Hp.ldI H11 .i64 p79.1 p79.2).bind λn80=>(bif (n80==0) then ((Hp.ldI H11 .i64 cK bV).bind λn81=>(Hp.st H11 cK bV (.int .i64 (wrap .i64 (n81+1)))).bind λH82=>(Hp.ldSl H82 cK (bV+1)).bind λs83=>(Sl.cut s83 1 1 (s83.n:Int)).bind λs84=>(Hp.st H82 cK (bV+1) (.sl s84)).bind λH85=>aL.l6 F dq Tq cK bV fk th H85) else (aL.j2 F dq cK bV fk th H11))) else (aL.j2 F dq cK bV fk th H11))
termination_by structural n=>n
def aL.twX (dq:abS) (ac:Int) (ag:Sl) (H:Hp):OA:=(Hp.new H [(.int .i64 ac),(.sl ag)]).bind λH3=>(Hp.new H3 [.int .i64 0,.sl ⟨none,0,.ex 0⟩]).bind λH4=>aL.l6 F dq F H.length 0 H3.length 0 H4
def aL.tw:=aL.twX F (eB.tw F)
def aL.lh6 (dq:abS) (ks:abT) (n:Nat) (tm:Tm) (H:Hp):OA:=match ks,tm 1,tm 2 with
 | [],(.ptr cK bV),(.ptr fk th)=>aL.l6 F dq n cK bV fk th H
 | _,_,_=>none
def aL.lh14 (dq:abS) (ks:abT) (n:Nat) (tm:Tm) (H:Hp):OA:=match ks,tm 1,tm 2 with
 | [],(.ptr eL jG),(.ptr kX tg)=>aL.l14 F dq n eL jG kX tg H
 | _,_,_=>none
def aL.lh (dq:abS) (p:Nat) (ks:abT) (n:Nat) (tm:Tm) (H:Hp):OA:=bif p.beq 14 then aL.lh14 F dq ks n tm H else (bif p.beq 6 then aL.lh6 F dq ks n tm H else (none))
def aL.pn:Nat->List Nat:=cS [(8,[6])]
def aL.tb:Nat->List (List Nat):=cS [(8,[[],[0],[],[2],[2,3],[0,1,2,3,4],[0,1,2,3,4,5]])]
def mk16 (g:abV) (args:ab0) (H:Hp):OA:=match args with
 | [(.agg [(.int .i64 ac),(.sl ag)])]=>g ac ag H
 | _=>none
theorem mk16_E (g:abV) (ac:Int) (ag:Sl) (H:Hp):mk16 g [(.agg [(.int .i64 ac),(.sl ag)])] H=g ac ag H:=rfl
def aL.cs (F:Nat) (dq:abS):Cs:=[(115,mk3 dq)]
theorem aL.loops (dq:abS):LO (aT (aL.cs F dq)) aL.pn (aL.lh F dq) F Try.f202:=
 (ae.rt (ae.seq (ae.block (ae.la (λn tm H r h=>by change aL.lh6 F dq [] n tm H=_ at h;unfold aL.lh6 at h;split at h;have e:bF tm [(1,_),(2,_)]:=⟨‹_›,‹_›,trivial⟩;obtain _ | k6:=n;cases h;exact ⟨_,rfl,by rw [<- bI e];exact Eq.trans (by kernel_rfl) h⟩;cases h) λk6=>ae.no)) (ae.lt (ae.block (ae.la (λn tm H r h=>by change aL.lh14 F dq [] n tm H=_ at h;unfold aL.lh14 at h;split at h;have e:bF tm [(1,_),(2,_)]:=⟨‹_›,‹_›,trivial⟩;obtain _ | k14:=n;cases h;exact ⟨_,rfl,by rw [<- bI e];exact Eq.trans (by kernel_rfl) h⟩;cases h) λk14=>ae.no)))))
theorem aL.eqX (dq:abS) (ac:Int) (ag:Sl) (H:Hp):EX (aT (aL.cs F dq)) aL.pn (aL.lh F dq) F Try.f202 [(.agg [(.int .i64 ac),(.sl ag)])] H=aL.twX F dq ac ag H:=by kernel_rfl
theorem aL.k:Ok Try.prog 202 (mk16 (aL.tw F)):=by
 intro args H v H' h
 unfold mk16 at h
 split at h
 ·exact okT (TB:=aL.tb) Try.func202 (aU (eB.k F) bo) (aL.loops F (eB.tw F)) ((aL.eqX F (eB.tw F) _ _ H).trans h) (by kernel_rfl)
 ·cases h
def db.twX (F:Nat) (iN:abV) (ac:Int) (aq:Int) (H:Hp):OA:=(Hp.new H [.int .i64 0,.sl ⟨none,0,.ex 0⟩]).bind λH3=>(Hp.new H3 [(.int .i64 ac)]).bind λH4=>(iN aq (⟨some (H3.length,0),1,.ex 1⟩:Sl) H4).bind λr5=>((r5.1).asAgg 2).bind λl6=>(l6[0]?).bind λv7=>((v7).asI .i64).bind λn8=>(l6[1]?).bind λv9=>((v9).asSl).bind λs10=>(Hp.st r5.2 H.length 0 (.int .i64 n8)).bind λH11=>(Hp.st H11 H.length (0+1) (.sl s10)).bind λH12=>(Hp.ldI H12 .i64 H.length 0).bind λn13=>(Hp.ldSl H12 H.length (0+1)).bind λs14=>some ((.agg [(.int .i64 n13),(.sl s14)]),H12)
def db.tw:=db.twX F (aL.tw F)
def mk17 (g:ab5) (args:ab0) (H:Hp):OA:=match args with
 | [(.int .i64 ac),(.int .i64 aq)]=>g ac aq H
 | _=>none
theorem mk17_E (g:ab5) (ac:Int) (aq:Int) (H:Hp):mk17 g [(.int .i64 ac),(.int .i64 aq)] H=g ac aq H:=rfl
def db.cs (F:Nat) (iN:abV):Cs:=[(202,mk16 iN)]
theorem db.eqX (iN:abV) (ac:Int) (aq:Int) (H:Hp):EX (aT (db.cs F iN)) aC lh0 F Try.f174 [(.int .i64 ac),(.int .i64 aq)] H=db.twX F iN ac aq H:=by kernel_rfl
theorem db.k:Ok Try.prog 174 (mk17 (db.tw F)):=by
 intro args H v H' h
 unfold mk17 at h
 split at h
 ·exact okT (TB:=aC) Try.func174 (aU (aL.k F) bo) ae.no ((db.eqX F (aL.tw F) _ _ H).trans h) (by kernel_rfl)
 ·cases h
def fz.twX (F:Nat) (ac:Sl) (H:Hp):OA:=some ((.int .i64 (ac.n:Int)),H)
def fz.tw:=fz.twX F
theorem fz.k:Ok Try.prog 113 (mk3 (fz.tw F)):=by
 intro args H v H' h
 unfold mk3 at h
 split at h
 ·exact ok0 Try.func113 (Eq.trans (by kernel_rfl) h) (by kernel_rfl) (by kernel_rfl)
 ·cases h
def cn.twX (F:Nat) (qM:abS) (ac:Int) (ag:Sl) (H:Hp):OA:=(Hp.new H [(.int .i64 ac),(.sl ag)]).bind λH3=>(Hp.ldI H3 .i64 H.length 0).bind λn4=>(Hp.ldSl H3 H.length 1).bind λs5=>(qM s5 H3).bind λr6=>((r6.1).asI .i64).bind λn7=>(if aV H3 r6.2 then (some ((.int .i64 (wrap .i64 ((wrap .i64 (n4+n7)) - 1))),r6.2)) else none)
def cn.tw:=cn.twX F (fz.tw F)
def cn.tb:Nat->List (List Nat):=cS [(1,[[],[0],[],[2],[2,3],[0,1,2,3,4],[0,1,2,3,4,5],[0,1,2,3,4,5,6]])]
def cn.cs (F:Nat) (qM:abS):Cs:=[(113,mk3 qM)]
theorem cn.eqX (qM:abS) (ac:Int) (ag:Sl) (H:Hp):EX (aT (cn.cs F qM)) aC lh0 F Try.f221 [(.agg [(.int .i64 ac),(.sl ag)])] H=cn.twX F qM ac ag H:=by kernel_rfl
theorem cn.k:Ok Try.prog 221 (mk16 (cn.tw F)):=by
 intro args H v H' h
 unfold mk16 at h
 split at h
 ·exact okT (TB:=cn.tb) Try.func221 (aU (fz.k F) bo) ae.no ((cn.eqX F (fz.tw F) _ _ H).trans h) (by kernel_rfl)
 ·cases h
def ef.twX (F:Nat) (e_:ab6) (ac:Int) (H:Hp):OA:=(e_ ac (-1000000000000) 1000000000000 H).bind λr2=>((r2.1).asB).bind λb3=>some ((.bool (!b3)),r2.2)
def ef.tw:=ef.twX F (de.tw F)
def ef.cs (F:Nat) (e_:ab6):Cs:=[(112,mk5 e_)]
theorem ef.eqX (e_:ab6) (ac:Int) (H:Hp):EX (aT (ef.cs F e_)) aC lh0 F Try.f245 [(.int .i64 ac)] H=ef.twX F e_ ac H:=by kernel_rfl
theorem ef.k:Ok Try.prog 245 (mk14 (ef.tw F)):=by
 intro args H v H' h
 unfold mk14 at h
 split at h
 ·exact okT (TB:=aC) Try.func245 (aU (de.k F) bo) ae.no ((ef.eqX F (de.tw F) _ H).trans h) (by kernel_rfl)
 ·cases h
def bN.l13 (F:Nat) (fK:ab1) :Nat->Sl->Int->Int->Hp->OA
 | 0,_,_,_,_=>none
 | eK+1,ib,cN,bW,H6=>(bif (decide (bW<cN)) then ((Sl.idx ib bW 1).bind λp11=>(Hp.ldI H6 .i64 p11.1 p11.2).bind λn12=>(fK n12 H6).bind λr13=>((r13.1).asB).bind λb14=>(bif b14 then (some ((.int .i64 bW),r13.2)) else (bN.l13 F fK eK ib cN (wrap .i64 (bW+1)) r13.2))) else (some ((.int .i64 (-1)),H6)))
def bN.twX (fK:ab1) (ac:Sl) (H:Hp):OA:=bN.l13 F fK F ac (ac.n:Int) 0 H
def bN.tw:=bN.twX F (ef.tw F)
def bN.lh13 (fK:ab1) (ks:abT) (n:Nat) (tm:Tm) (H:Hp):OA:=match ks,tm 0,tm 1,tm 7,tm 8 with
 | [],(.sl ib),(.fn 245 []),(.int .i64 cN),(.int .i64 bW)=>bN.l13 F fK n ib cN bW H
 | _,_,_,_,_=>none
def bN.lh (fK:ab1) (p:Nat) (ks:abT) (n:Nat) (tm:Tm) (H:Hp):OA:=bif p.beq 13 then bN.lh13 F fK ks n tm H else (none)
def mk18 (g:abS) (args:ab0) (H:Hp):OA:=match args with
 | [(.sl ac),(.fn 245 [])]=>g ac H
 | _=>none
theorem mk18_E (g:abS) (ac:Sl) (H:Hp):mk18 g [(.sl ac),(.fn 245 [])] H=g ac H:=rfl
def bN.cs (F:Nat) (fK:ab1):Cs:=[(245,mk14 fK)]
theorem bN.loops (fK:ab1):LO (aT (bN.cs F fK)) aC (bN.lh F fK) F Try.f184:=
 (ae.rt (ae.lt (ae.rt (ae.block (ae.la (λn tm H r h=>by change bN.lh13 F fK [] n tm H=_ at h;unfold bN.lh13 at h;split at h;have e:bF tm [(0,_),(1,_),(7,_),(8,_)]:=⟨‹_›,‹_›,‹_›,‹_›,trivial⟩;obtain _ | k13:=n;cases h;exact ⟨_,rfl,by rw [<- bI e];exact Eq.trans (by kernel_rfl) h⟩;cases h) λk13=>ae.no)))))
theorem bN.eqX (fK:ab1) (ac:Sl) (H:Hp):EX (aT (bN.cs F fK)) aC (bN.lh F fK) F Try.f184 [(.sl ac),(.fn 245 [])] H=bN.twX F fK ac H:=by kernel_rfl
theorem bN.k:Ok Try.prog 184 (mk18 (bN.tw F)):=by
 intro args H v H' h
 unfold mk18 at h
 split at h
 ·exact okT (TB:=aC) Try.func184 (aU (ef.k F) bo) (bN.loops F (ef.tw F)) ((bN.eqX F (ef.tw F) _ H).trans h) (by kernel_rfl)
 ·cases h
def eC.twX (F:Nat) (qN:abS) (ac:Sl) (H:Hp):OA:=(qN ac H).bind λr2=>((r2.1).asI .i64).bind λn3=>some ((.bool (decide (n3>=0))),r2.2)
def eC.tw:=eC.twX F (bN.tw F)
def eC.cs (F:Nat) (qN:abS):Cs:=[(184,mk18 qN)]
theorem eC.eqX (qN:abS) (ac:Sl) (H:Hp):EX (aT (eC.cs F qN)) aC lh0 F Try.f150 [(.sl ac),(.fn 245 [])] H=eC.twX F qN ac H:=by kernel_rfl
theorem eC.k:Ok Try.prog 150 (mk18 (eC.tw F)):=by
 intro args H v H' h
 unfold mk18 at h
 split at h
 ·exact okT (TB:=aC) Try.func150 (aU (bN.k F) bo) ae.no ((eC.eqX F (bN.tw F) _ H).trans h) (by kernel_rfl)
 ·cases h
def dD.twX (F:Nat) (cp:abV) (qO:abS) (ac:Int) (ag:Sl) (H:Hp):OA:=(Hp.new H [(.int .i64 ac),(.sl ag)]).bind λH3=>(Hp.ldSl H3 H.length 1).bind λs4=>(bif ((s4.n:Int)==0) then ((Hp.ldI H3 .i64 H.length 0).bind λn5=>some ((.bool (n5==0)),H3)) else ((bif (decide ((s4.n:Int)<=160)) then ((Hp.ldSl H3 H.length 1).bind λs6=>(Sl.idx s6 0 1).bind λp7=>(Hp.ldI H3 .i64 p7.1 p7.2).bind λn8=>(bif (n8 != 0) then ((Hp.ldSl H3 H.length 1).bind λs9=>(Sl.idx s9 (wrap .i64 ((s4.n:Int) - 1)) 1).bind λp10=>(Hp.ldI H3 .i64 p10.1 p10.2).bind λn11=>(bif (n11 != 0) then ((Hp.ldI H3 .i64 H.length 0).bind λn12=>(bif (decide (n12>=(-240))) then ((Hp.ldI H3 .i64 H.length 0).bind λn13=>(Hp.ldSl H3 H.length (0+1)).bind λs14=>(cp n13 s14 H3).bind λr15=>((r15.1).asI .i64).bind λn16=>(bif (decide (n16<=240)) then ((Hp.ldI r15.2 .i64 H.length 0).bind λn17=>(bif (decide (n17<=240)) then ((Hp.ldSl r15.2 H.length 1).bind λs18=>(qO s18 r15.2).bind λr19=>((r19.1).asB).bind λb20=>some ((.bool (!b20)),r19.2)) else (some ((.bool false),r15.2)))) else (some ((.bool false),r15.2)))) else (some ((.bool false),H3)))) else (some ((.bool false),H3)))) else (some ((.bool false),H3)))) else (some ((.bool false),H3)))))
def dD.tw:=dD.twX F (cn.tw F) (eC.tw F)
def dD.cs (F:Nat) (cp:abV) (qO:abS):Cs:=[(221,mk16 cp),(150,mk18 qO)]
theorem dD.eqX (cp:abV) (qO:abS) (ac:Int) (ag:Sl) (H:Hp):EX (aT (dD.cs F cp qO)) aC lh0 F Try.f230 [(.agg [(.int .i64 ac),(.sl ag)])] H=dD.twX F cp qO ac ag H:=by kernel_rfl
theorem dD.k:Ok Try.prog 230 (mk16 (dD.tw F)):=by
 intro args H v H' h
 unfold mk16 at h
 split at h
 ·exact okT (TB:=aC) Try.func230 (aU (cn.k F) (aU (eC.k F) bo)) ae.no ((dD.eqX F (cn.tw F) (eC.tw F) _ _ H).trans h) (by kernel_rfl)
 ·cases h
def dY.twX (F:Nat) (iO:abV) (ac:Int) (ag:Sl) (H:Hp):OA:=(Hp.new H [(.int .i64 ac),(.sl ag)]).bind λH3=>(Hp.ldI H3 .i64 H.length 0).bind λn4=>(Hp.ldSl H3 H.length (0+1)).bind λs5=>(iO n4 s5 H3).bind λr6=>((r6.1).asB).bind λb7=>some ((.bool (!b7)),r6.2)
def dY.tw:=dY.twX F (dD.tw F)
def dY.cs (F:Nat) (iO:abV):Cs:=[(230,mk16 iO)]
theorem dY.eqX (iO:abV) (ac:Int) (ag:Sl) (H:Hp):EX (aT (dY.cs F iO)) aC lh0 F Try.f229 [(.agg [(.int .i64 ac),(.sl ag)])] H=dY.twX F iO ac ag H:=by kernel_rfl
theorem dY.k:Ok Try.prog 229 (mk16 (dY.tw F)):=by
 intro args H v H' h
 unfold mk16 at h
 split at h
 ·exact okT (TB:=aC) Try.func229 (aU (dD.k F) bo) ae.no ((dY.eqX F (dD.tw F) _ _ H).trans h) (by kernel_rfl)
 ·cases h
def bK.l13 (F:Nat) (fL:abV) :Nat->Sl->Int->Int->Hp->OA
 | 0,_,_,_,_=>none
 | eK+1,ib,cN,bW,H6=>(bif (decide (bW<cN)) then ((Sl.idx ib bW 2).bind λp12=>(Hp.ldI H6 .i64 p12.1 p12.2).bind λn13=>(Hp.ldSl H6 p12.1 (p12.2+1)).bind λs14=>(fL n13 s14 H6).bind λr15=>((r15.1).asB).bind λb16=>(bif b16 then (some ((.int .i64 bW),r15.2)) else (bK.l13 F fL eK ib cN (wrap .i64 (bW+1)) r15.2))) else (some ((.int .i64 (-1)),H6)))
def bK.twX (fL:abV) (ac:Sl) (H:Hp):OA:=bK.l13 F fL F ac (ac.n:Int) 0 H
def bK.tw:=bK.twX F (dY.tw F)
def bK.lh13 (fL:abV) (ks:abT) (n:Nat) (tm:Tm) (H:Hp):OA:=match ks,tm 0,tm 1,tm 7,tm 8 with
 | [],(.sl ib),(.fn 229 []),(.int .i64 cN),(.int .i64 bW)=>bK.l13 F fL n ib cN bW H
 | _,_,_,_,_=>none
def bK.lh (fL:abV) (p:Nat) (ks:abT) (n:Nat) (tm:Tm) (H:Hp):OA:=bif p.beq 13 then bK.lh13 F fL ks n tm H else (none)
def mk19 (g:abS) (args:ab0) (H:Hp):OA:=match args with
 | [(.sl ac),(.fn 229 [])]=>g ac H
 | _=>none
theorem mk19_E (g:abS) (ac:Sl) (H:Hp):mk19 g [(.sl ac),(.fn 229 [])] H=g ac H:=rfl
def bK.cs (F:Nat) (fL:abV):Cs:=[(229,mk16 fL)]
theorem bK.loops (fL:abV):LO (aT (bK.cs F fL)) aC (bK.lh F fL) F Try.f244:=
 (ae.rt (ae.lt (ae.rt (ae.block (ae.la (λn tm H r h=>by change bK.lh13 F fL [] n tm H=_ at h;unfold bK.lh13 at h;split at h;have e:bF tm [(0,_),(1,_),(7,_),(8,_)]:=⟨‹_›,‹_›,‹_›,‹_›,trivial⟩;obtain _ | k13:=n;cases h;exact ⟨_,rfl,by rw [<- bI e];exact Eq.trans (by kernel_rfl) h⟩;cases h) λk13=>ae.no)))))
theorem bK.eqX (fL:abV) (ac:Sl) (H:Hp):EX (aT (bK.cs F fL)) aC (bK.lh F fL) F Try.f244 [(.sl ac),(.fn 229 [])] H=bK.twX F fL ac H:=by kernel_rfl
theorem bK.k:Ok Try.prog 244 (mk19 (bK.tw F)):=by
 intro args H v H' h
 unfold mk19 at h
 split at h
 ·exact okT (TB:=aC) Try.func244 (aU (dY.k F) bo) (bK.loops F (dY.tw F)) ((bK.eqX F (dY.tw F) _ H).trans h) (by kernel_rfl)
 ·cases h
def eD.twX (F:Nat) (qP:abS) (ac:Sl) (H:Hp):OA:=(qP ac H).bind λr2=>((r2.1).asI .i64).bind λn3=>some ((.bool (decide (n3>=0))),r2.2)
def eD.tw:=eD.twX F (bK.tw F)
def eD.cs (F:Nat) (qP:abS):Cs:=[(244,mk19 qP)]
theorem eD.eqX (qP:abS) (ac:Sl) (H:Hp):EX (aT (eD.cs F qP)) aC lh0 F Try.f228 [(.sl ac),(.fn 229 [])] H=eD.twX F qP ac H:=by kernel_rfl
theorem eD.k:Ok Try.prog 228 (mk19 (eD.tw F)):=by
 intro args H v H' h
 unfold mk19 at h
 split at h
 ·exact okT (TB:=aC) Try.func228 (aU (bK.k F) bo) ae.no ((eD.eqX F (bK.tw F) _ H).trans h) (by kernel_rfl)
 ·cases h
def dr.twX (F:Nat) (qQ:abS) (ac:Sl) (H:Hp):OA:=(qQ ac H).bind λr2=>((r2.1).asB).bind λb3=>some ((.bool (!b3)),r2.2)
def dr.tw:=dr.twX F (eD.tw F)
def dr.cs (F:Nat) (qQ:abS):Cs:=[(228,mk19 qQ)]
theorem dr.eqX (qQ:abS) (ac:Sl) (H:Hp):EX (aT (dr.cs F qQ)) aC lh0 F Try.f220 [(.sl ac)] H=dr.twX F qQ ac H:=by kernel_rfl
theorem dr.k:Ok Try.prog 220 (mk3 (dr.tw F)):=by
 intro args H v H' h
 unfold mk3 at h
 split at h
 ·exact okT (TB:=aC) Try.func220 (aU (eD.k F) bo) ae.no ((dr.eqX F (eD.tw F) _ H).trans h) (by kernel_rfl)
 ·cases h
def dE.twX (F:Nat) (iN:abV) (iO:abV) (ac:Int) (ag:Sl) (H:Hp):OA:=(Hp.new H [(.int .i64 ac),(.sl ag)]).bind λH3=>(Hp.new H3 [.int .i64 0,.sl ⟨none,0,.ex 0⟩]).bind λH4=>(Hp.ldI H4 .i64 H.length 0).bind λn5=>(Hp.ldSl H4 H.length (0+1)).bind λs6=>(iN n5 s6 H4).bind λr7=>((r7.1).asAgg 2).bind λl8=>(l8[0]?).bind λv9=>((v9).asI .i64).bind λn10=>(l8[1]?).bind λv11=>((v11).asSl).bind λs12=>(Hp.st r7.2 H.length 0 (.int .i64 n10)).bind λH13=>(Hp.st H13 H.length (0+1) (.sl s12)).bind λH14=>(Hp.ldI H14 .i64 H.length 0).bind λn15=>(Hp.ldSl H14 H.length (0+1)).bind λs16=>(iO n15 s16 H14).bind λr17=>((r17.1).asB).bind λb18=>(bif (!b18) then ((Hp.st r17.2 H3.length 0 (.int .i64 0)).bind λH19=>(Hp.st H19 H3.length (0+1) (.sl (⟨none,0,.ex 0⟩:Sl))).bind λH20=>(Hp.ldI H20 .i64 H3.length 0).bind λn21=>(Hp.ldSl H20 H3.length (0+1)).bind λs22=>some ((.tup [(.agg [(.int .i64 n21),(.sl s22)]),(.int .i64 3)]),H20)) else ((Hp.ldI r17.2 .i64 H.length 0).bind λn23=>(Hp.ldSl r17.2 H.length (0+1)).bind λs24=>(Hp.st r17.2 H3.length 0 (.int .i64 n23)).bind λH25=>(Hp.st H25 H3.length (0+1) (.sl s24)).bind λH26=>(Hp.ldI H26 .i64 H3.length 0).bind λn27=>(Hp.ldSl H26 H3.length (0+1)).bind λs28=>some ((.tup [(.agg [(.int .i64 n27),(.sl s28)]),(.int .i64 0)]),H26)))
def dE.tw:=dE.twX F (aL.tw F) (dD.tw F)
def dE.cs (F:Nat) (iN:abV) (iO:abV):Cs:=[(202,mk16 iN),(230,mk16 iO)]
theorem dE.eqX (iN:abV) (iO:abV) (ac:Int) (ag:Sl) (H:Hp):EX (aT (dE.cs F iN iO)) aC lh0 F Try.f222 [(.agg [(.int .i64 ac),(.sl ag)])] H=dE.twX F iN iO ac ag H:=by kernel_rfl
theorem dE.k:Ok Try.prog 222 (mk16 (dE.tw F)):=by
 intro args H v H' h
 unfold mk16 at h
 split at h
 ·exact okT (TB:=aC) Try.func222 (aU (aL.k F) (aU (dD.k F) bo)) ae.no ((dE.eqX F (aL.tw F) (dD.tw F) _ _ H).trans h) (by kernel_rfl)
 ·cases h
def aE.j3 (F:Nat) (df:abS) (cp:abV) (dg:abV) (nn:Nat) (ww:Nat) (ti:Nat) (Jn:Nat) (H176:Hp):OA:=(Hp.ldI H176 .i64 ti Jn).bind λn177=>(Hp.ldSl H176 ti (Jn+1)).bind λs178=>(dg n177 s178 H176).bind λr179=>((r179.1).asTup 2).bind λl180=>(l180[0]?).bind λv181=>((v181).asAgg 2).bind λl182=>(l182[0]?).bind λv183=>((v183).asI .i64).bind λn184=>(l182[1]?).bind λv185=>((v185).asSl).bind λs186=>(l180[1]?).bind λv187=>((v187).asI .i64).bind λn188=>(Hp.st r179.2 nn ww (.int .i64 n184)).bind λH189=>(Hp.st H189 nn (ww+1) (.sl s186)).bind λH190=>(Hp.ldI H190 .i64 nn ww).bind λn191=>(Hp.ldSl H190 nn (ww+1)).bind λs192=>some ((.tup [(.agg [(.int .i64 n191),(.sl s192)]),(.int .i64 n188)]),H190)
def aE.j4 (F:Nat) (df:abS) (cp:abV) (dg:abV) (C125_:acs) (wx:Nat) (Ts:Nat) (qR:Int) (wy:Nat) (Tt:Nat) (Tu:Sl) (qS:Int) (qT:Int) (H284:Hp):OA:=C125_ wx Ts qR wy Tt Tu qS (wrap .i64 (qT+1)) H284
def aE.j5 (df:abS) (cp:abV) (dg:abV) (C125_:acs) (wz:Nat) (Tv:Nat) (qU:Int) (wA:Nat) (Tw:Nat) (Tx:Sl) (qV:Int) (qW:Int) (H258:Hp):OA:=aE.j4 F df cp dg C125_ wz Tv qU wA Tw Tx qV qW H258
def aE.l8027 (F:Nat) (df:abS) (cp:abV) (dg:abV) (C125_:acs):Nat->Nat->Nat->Int->Nat->Nat->Sl->Int->Int->Nat->Nat->Sl->Int->Int->Hp->OA
 | 0,_,_,_,_,_,_,_,_,_,_,_,_,_,_=>none
 | Ty+1,mi,wB,gX,kY,tj,wC,jH,jI,mj,wD,wE,jJ,gp,H224=>(bif (decide (gp<jJ)) then ((Sl.idx wE gp 1).bind λp285=>(Hp.ldI H224 .i64 p285.1 p285.2).bind λn286=>(Hp.ldSl H224 kY (tj+1)).bind λs287=>(Hp.ldI H224 .i64 mj wD).bind λn288=>(Sl.idx s287 (wrap .i64 ((wrap .i64 (n288 - gX))+gp)) 1).bind λp289=>(Hp.ldI H224 .i64 p289.1 p289.2).bind λn290=>(Sl.idx s287 (wrap .i64 ((wrap .i64 (n288 - gX))+gp)) 1).bind λp291=>(Hp.st H224 p291.1 p291.2 (.int .i64 (wrap .i64 (n290+n286)))).bind λH292=>aE.l8027 F df cp dg C125_ Ty mi wB gX kY tj wC jH jI mj wD wE jJ (wrap .i64 (gp+1)) H292) else (aE.j5 F df cp dg C125_ mi wB gX kY tj wC jH jI H224))
termination_by structural n=>n
def aE.l125 (F:Nat) (df:abS) (cp:abV) (dg:abV) :Nat->Nat->Nat->Int->Nat->Nat->Sl->Int->Int->Hp->OA
 | 0,_,_,_,_,_,_,_,_,_=>none
 | ni+1,ml,wF,kZ,mm,wG,wH,jK,iQ,H56=>(bif (decide (iQ<jK)) then ((Sl.idx wH iQ 2).bind λp193=>(Hp.ldI H56 .i64 p193.1 p193.2).bind λn194=>(Hp.ldSl H56 p193.1 (p193.2+1)).bind λs195=>(Hp.new H56 [.int .i64 0,.sl ⟨none,0,.ex 0⟩]).bind λH196=>(Hp.st H196 H56.length 0 (.int .i64 n194)).bind λH197=>(Hp.st H197 H56.length (0+1) (.sl s195)).bind λH198=>(Hp.ldSl H198 H56.length 1).bind λs199=>aE.l8027 F df cp dg (aE.l125 F df cp dg ni) F ml wF kZ mm wG wH jK iQ H56.length 0 s199 (s199.n:Int) 0 H198) else (aE.j3 F df cp dg ml wF mm wG H56))
termination_by structural n=>n
def aE.twX (df:abS) (cp:abV) (dg:abV) (ac:Int) (ag:Sl) (ay:Int) (bp:Sl) (H:Hp):OA:=(Hp.new H [(.int .i64 ac),(.sl ag)]).bind λH5=>(Hp.new H5 [(.int .i64 ay),(.sl bp)]).bind λH6=>(Hp.new H6 [.int .i64 0,.sl ⟨none,0,.ex 0⟩]).bind λH7=>(Hp.ldI H7 .i64 H.length 0).bind λn8=>(Hp.ldSl H7 H.length (0+1)).bind λs9=>(Hp.ldI H7 .i64 H5.length 0).bind λn10=>(Hp.ldSl H7 H5.length (0+1)).bind λs11=>(Hp.new H7 [(.int .i64 n8),(.sl s9),(.int .i64 n10),(.sl s11)]).bind λH12=>(df (⟨some (H7.length,0),2,.ex 2⟩:Sl) H12).bind λr13=>((r13.1).asB).bind λb14=>(bif (!b14) then ((Hp.st r13.2 H6.length 0 (.int .i64 0)).bind λH15=>(Hp.st H15 H6.length (0+1) (.sl (⟨none,0,.ex 0⟩:Sl))).bind λH16=>(Hp.ldI H16 .i64 H6.length 0).bind λn17=>(Hp.ldSl H16 H6.length (0+1)).bind λs18=>some ((.tup [(.agg [(.int .i64 n17),(.sl s18)]),(.int .i64 1)]),H16)) else ((Hp.ldI r13.2 .i64 H.length 0).bind λn19=>(Hp.ldI r13.2 .i64 H5.length 0).bind λn20=>(Hp.ldI r13.2 .i64 H.length 0).bind λn21=>(Hp.ldSl r13.2 H.length (0+1)).bind λs22=>(cp n21 s22 r13.2).bind λr23=>((r23.1).asI .i64).bind λn24=>(if aV r13.2 r23.2 then ((Hp.ldI r23.2 .i64 H5.length 0).bind λn25=>(Hp.ldSl r23.2 H5.length (0+1)).bind λs26=>(cp n25 s26 r23.2).bind λr27=>((r27.1).asI .i64).bind λn28=>(if aV r23.2 r27.2 then ((Hp.mk r27.2 [.int .i64 0] 8 (wrap .i64 ((wrap .i64 ((if (if n20<n19 then n20 else n19)>(if n28>n24 then n28 else n24) then (if n20<n19 then n20 else n19) else (if n28>n24 then n28 else n24)) - (if n20<n19 then n20 else n19)))+1)) (wrap .i64 ((wrap .i64 ((if (if n20<n19 then n20 else n19)>(if n28>n24 then n28 else n24) then (if n20<n19 then n20 else n19) else (if n28>n24 then n28 else n24)) - (if n20<n19 then n20 else n19)))+1))).bind λm29=>(Hp.new m29.2 [.int .i64 0,.sl ⟨none,0,.ex 0⟩]).bind λH30=>(Hp.st H30 m29.2.length 0 (.int .i64 (if n20<n19 then n20 else n19))).bind λH31=>(Hp.st H31 m29.2.length (0+1) (.sl m29.1)).bind λH32=>(Hp.ldI H32 .i64 H.length 0).bind λn33=>(Hp.ldSl H32 H.length (0+1)).bind λs34=>(Hp.ldI H32 .i64 H5.length 0).bind λn35=>(Hp.ldSl H32 H5.length (0+1)).bind λs36=>(Hp.new H32 [(.int .i64 n33),(.sl s34),(.int .i64 n35),(.sl s36)]).bind λH37=>aE.l125 F df cp dg F H6.length 0 (if n20<n19 then n20 else n19) m29.2.length 0 (⟨some (H32.length,0),2,.ex 2⟩:Sl) ((⟨some (H32.length,0),2,.ex 2⟩:Sl).n:Int) 0 H37) else none)) else none)))
def aE.tw:=aE.twX F (dr.tw F) (cn.tw F) (dE.tw F)
def aE.lh125 (df:abS) (cp:abV) (dg:abV) (ks:abT) (n:Nat) (tm:Tm) (H:Hp):OA:=match ks,tm 4,tm 6,tm 7,tm 37,tm 38,tm 39 with
 | [],(.ptr ml wF),(.int .i64 kZ),(.ptr mm wG),(.sl wH),(.int .i64 jK),(.int .i64 iQ)=>aE.l125 F df cp dg n ml wF kZ mm wG wH jK iQ H
 | _,_,_,_,_,_,_=>none
def aE.lh8027 (df:abS) (cp:abV) (dg:abV) (ks:abT) (n:Nat) (tm:Tm) (H:Hp):OA:=match ks,tm 4,tm 6,tm 7,tm 9,tm 37,tm 38,tm 39,tm 44,tm 45,tm 46 with
 | [ni],(.ptr mi wB),(.int .i64 gX),(.ptr kY tj),(.ptr mj wD),(.sl wC),(.int .i64 jH),(.int .i64 jI),(.sl wE),(.int .i64 jJ),(.int .i64 gp)=>aE.l8027 F df cp dg (aE.l125 F df cp dg ni) n mi wB gX kY tj wC jH jI mj wD wE jJ gp H
 | _,_,_,_,_,_,_,_,_,_,_=>none
def aE.lh (df:abS) (cp:abV) (dg:abV) (p:Nat) (ks:abT) (n:Nat) (tm:Tm) (H:Hp):OA:=bif p.beq 8027 then aE.lh8027 F df cp dg ks n tm H else (bif p.beq 125 then aE.lh125 F df cp dg ks n tm H else (none))
def aE.pn:Nat->List Nat:=cS [(4,[13])]
def aE.tb:Nat->List (List Nat):=cS [(4,[[],[],[1],[],[1,2,3],[],[1,2,3,4,5],[],[1,2,3,4,5,6,7],[1,2,3,4,5,6,7,8],[1,2,3,4,5,6,7,8,9],[0,1,2,3,4,5,6,7,8,9,10],[],[0,1,2,3,4,5,6,7,8,9,10,11,12]])]
def aE.cs (F:Nat) (df:abS) (cp:abV) (dg:abV):Cs:=[(220,mk3 df),(221,mk16 cp),(222,mk16 dg)]
theorem aE.loops (df:abS) (cp:abV) (dg:abV):LO (aT (aE.cs F df cp dg)) aE.pn (aE.lh F df cp dg) F Try.f201:=
 (ae.rt (ae.rt (ae.rt (ae.rt (ae.lt (ae.rt (ae.block (ae.la (λn tm H r h=>by change aE.lh125 F df cp dg [] n tm H=_ at h;unfold aE.lh125 at h;split at h;have e:bF tm [(4,_),(6,_),(7,_),(37,_),(38,_),(39,_)]:=⟨‹_›,‹_›,‹_›,‹_›,‹_›,‹_›,trivial⟩;obtain _ | k125:=n;cases h;exact ⟨_,rfl,by rw [<- bI e];exact Eq.trans (by kernel_rfl) h⟩;cases h) λk125=>(ae.rt (ae.rt (ae.lt (ae.block (ae.rt (ae.rt (ae.block (ae.la (λn tm H r h=>by change aE.lh8027 F df cp dg [k125] n tm H=_ at h;unfold aE.lh8027 at h;split at h;have e:bF tm [(4,_),(6,_),(7,_),(9,_),(37,_),(38,_),(39,_),(44,_),(45,_),(46,_)]:=⟨‹_›,‹_›,‹_›,‹_›,‹_›,‹_›,‹_›,‹_›,‹_›,‹_›,trivial⟩;cases (show [k125]=_ from ‹_›);obtain _ | k8027:=n;cases h;exact ⟨_,rfl,by rw [<- bI e];exact Eq.trans (by kernel_rfl) h⟩;cases h) λk8027=>ae.no))))))))))))))))
theorem aE.eqX (df:abS) (cp:abV) (dg:abV) (ac:Int) (ag:Sl) (ay:Int) (bp:Sl) (H:Hp):EX (aT (aE.cs F df cp dg)) aE.pn (aE.lh F df cp dg) F Try.f201 [(.agg [(.int .i64 ac),(.sl ag)]),(.agg [(.int .i64 ay),(.sl bp)])] H=aE.twX F df cp dg ac ag ay bp H:=by kernel_rfl
theorem aE.k:Ok Try.prog 201 (mk9 (aE.tw F)):=by
 intro args H v H' h
 unfold mk9 at h
 split at h
 ·exact okT (TB:=aE.tb) Try.func201 (aU (dr.k F) (aU (cn.k F) (aU (dE.k F) bo))) (aE.loops F (dr.tw F) (cn.tw F) (dE.tw F)) ((aE.eqX F (dr.tw F) (cn.tw F) (dE.tw F) _ _ _ _ H).trans h) (by kernel_rfl)
 ·cases h
def dc.twX (F:Nat) (qX:ab3) (ac:Int) (ag:Sl) (ay:Int) (bp:Sl) (H:Hp):OA:=(Hp.new H [(.int .i64 ac),(.sl ag)]).bind λH5=>(Hp.new H5 [(.int .i64 ay),(.sl bp)]).bind λH6=>(Hp.new H6 [.int .i64 0,.sl ⟨none,0,.ex 0⟩]).bind λH7=>(Hp.ldI H7 .i64 H.length 0).bind λn8=>(Hp.ldSl H7 H.length (0+1)).bind λs9=>(Hp.ldI H7 .i64 H5.length 0).bind λn10=>(Hp.ldSl H7 H5.length (0+1)).bind λs11=>(qX n8 s9 n10 s11 H7).bind λr12=>((r12.1).asTup 2).bind λl13=>(l13[0]?).bind λv14=>((v14).asAgg 2).bind λl15=>(l15[0]?).bind λv16=>((v16).asI .i64).bind λn17=>(l15[1]?).bind λv18=>((v18).asSl).bind λs19=>(l13[1]?).bind λv20=>((v20).asI .i64).bind λn21=>(Hp.new r12.2 [.int .i64 0,.sl ⟨none,0,.ex 0⟩]).bind λH22=>(Hp.st H22 r12.2.length 0 (.int .i64 n17)).bind λH23=>(Hp.st H23 r12.2.length (0+1) (.sl s19)).bind λH24=>(Hp.ldI H24 .i64 r12.2.length 0).bind λn25=>(Hp.ldSl H24 r12.2.length (0+1)).bind λs26=>(Hp.st H24 H6.length 0 (.int .i64 n25)).bind λH27=>(Hp.st H27 H6.length (0+1) (.sl s26)).bind λH28=>(Hp.ldI H28 .i64 H6.length 0).bind λn29=>(Hp.ldSl H28 H6.length (0+1)).bind λs30=>some ((.agg [(.int .i64 n29),(.sl s30)]),H28)
def dc.tw:=dc.twX F (aE.tw F)
def dc.cs (F:Nat) (qX:ab3):Cs:=[(201,mk9 qX)]
theorem dc.eqX (qX:ab3) (ac:Int) (ag:Sl) (ay:Int) (bp:Sl) (H:Hp):EX (aT (dc.cs F qX)) aC lh0 F Try.f173 [(.agg [(.int .i64 ac),(.sl ag)]),(.agg [(.int .i64 ay),(.sl bp)])] H=dc.twX F qX ac ag ay bp H:=by kernel_rfl
theorem dc.k:Ok Try.prog 173 (mk9 (dc.tw F)):=by
 intro args H v H' h
 unfold mk9 at h
 split at h
 ·exact okT (TB:=aC) Try.func173 (aU (aE.k F) bo) ae.no ((dc.eqX F (aE.tw F) _ _ _ _ H).trans h) (by kernel_rfl)
 ·cases h
def dZ.twX (F:Nat) (ac:Int) (H:Hp):OA:=(bif (decide (ac<0)) then (some ((.int .i64 (-1)),H)) else (some ((.int .i64 1),H)))
def dZ.tw:=dZ.twX F
theorem dZ.k:Ok Try.prog 88 (mk14 (dZ.tw F)):=by
 intro args H v H' h
 unfold mk14 at h
 split at h
 ·exact ok0 Try.func88 (Eq.trans (by kernel_rfl) h) (by kernel_rfl) (by kernel_rfl)
 ·cases h
def aM.j4 (F:Nat) (dQ:ab5) (dR:ab3) (dS:ab1) (C61_:acu) (qY:Int) (wI:Nat) (Tz:Nat) (wJ:Nat) (TA:Nat) (qZ:Int) (q_:Int) (TC:Sl) (rc:Int) (rh:Int) (H139:Hp):OA:=(dS q_ H139).bind λr140=>((r140.1).asI .i64).bind λn141=>C61_ qY wI Tz wJ TA (wrap .i64 (qZ+n141)) TC rc (wrap .i64 (rh+1)) r140.2
def aM.j5 (F:Nat) (dQ:ab5) (dR:ab3) (dS:ab1) (C61_:acu) (ri:Int) (wK:Nat) (TE:Nat) (wL:Nat) (TF:Nat) (rj:Int) (rl:Int) (TG:Sl) (rm:Int) (rn:Int) (H189:Hp):OA:=(dS rl H189).bind λr190=>((r190.1).asI .i64).bind λn191=>C61_ ri wK TE wL TF (wrap .i64 (rj+n191)) TG rm (wrap .i64 (rn+1)) r190.2
def aM.j6 (dQ:ab5) (dR:ab3) (dS:ab1) (C61_:acu) (rp:Int) (wM:Nat) (TH:Nat) (wN:Nat) (TJ:Nat) (rq:Int) (ru:Int) (TK:Sl) (rv:Int) (rx:Int) (H173:Hp):OA:=aM.j5 F dQ dR dS C61_ rp wM TH wN TJ rq ru TK rv rx H173
def aM.l61 (F:Nat) (dQ:ab5) (dR:ab3) (dS:ab1) :Nat->Int->Nat->Nat->Nat->Nat->Int->Sl->Int->Int->Hp->OA
 | 0,_,_,_,_,_,_,_,_,_,_=>none
 | bY+1,gq,ft,k_,fA,gY,dp,ry,gZ,gr,H15=>(bif (decide (gr<gZ)) then ((Sl.idx ry gr 1).bind λp107=>(Hp.ldI H15 .i64 p107.1 p107.2).bind λn108=>(bif (n108==gq) then ((Hp.ldI H15 .i64 fA gY).bind λn109=>(Hp.ldSl H15 fA (gY+1)).bind λs110=>(dQ 1 dp H15).bind λr111=>((r111.1).asAgg 2).bind λl112=>(l112[0]?).bind λv113=>((v113).asI .i64).bind λn114=>(l112[1]?).bind λv115=>((v115).asSl).bind λs116=>(if aV H15 r111.2 then ((dR n109 s110 n114 s116 r111.2).bind λr117=>((r117.1).asAgg 2).bind λl118=>(l118[0]?).bind λv119=>((v119).asI .i64).bind λn120=>(l118[1]?).bind λv121=>((v121).asSl).bind λs122=>(Hp.st r117.2 fA gY (.int .i64 n120)).bind λH123=>(Hp.st H123 fA (gY+1) (.sl s122)).bind λH124=>aM.j4 F dQ dR dS (aM.l61 F dQ dR dS bY) gq ft k_ fA gY dp n108 ry gZ gr H124) else none)) else ((bif (n108==(wrap .i64 (0 - gq))) then ((Hp.ldI H15 .i64 fA gY).bind λn142=>(Hp.ldSl H15 fA (gY+1)).bind λs143=>(dQ (-1) (wrap .i64 (dp - 1)) H15).bind λr144=>((r144.1).asAgg 2).bind λl145=>(l145[0]?).bind λv146=>((v146).asI .i64).bind λn147=>(l145[1]?).bind λv148=>((v148).asSl).bind λs149=>(if aV H15 r144.2 then ((dR n142 s143 n147 s149 r144.2).bind λr150=>((r150.1).asAgg 2).bind λl151=>(l151[0]?).bind λv152=>((v152).asI .i64).bind λn153=>(l151[1]?).bind λv154=>((v154).asSl).bind λs155=>(Hp.st r150.2 fA gY (.int .i64 n153)).bind λH156=>(Hp.st H156 fA (gY+1) (.sl s155)).bind λH157=>aM.j6 F dQ dR dS (aM.l61 F dQ dR dS bY) gq ft k_ fA gY dp n108 ry gZ gr H157) else none)) else (aM.j6 F dQ dR dS (aM.l61 F dQ dR dS bY) gq ft k_ fA gY dp n108 ry gZ gr H15))))) else ((Hp.ldI H15 .i64 fA gY).bind λn192=>(Hp.ldSl H15 fA (gY+1)).bind λs193=>(Hp.st H15 ft k_ (.int .i64 n192)).bind λH194=>(Hp.st H194 ft (k_+1) (.sl s193)).bind λH195=>(Hp.ldI H195 .i64 ft k_).bind λn196=>(Hp.ldSl H195 ft (k_+1)).bind λs197=>some ((.agg [(.int .i64 n196),(.sl s197)]),H195)))
termination_by structural n=>n
def aM.twX (dQ:ab5) (dR:ab3) (dS:ab1) (ac:Sl) (aq:Int) (H:Hp):OA:=(Hp.new H [.int .i64 0,.sl ⟨none,0,.ex 0⟩]).bind λH3=>(Hp.new H3 [.int .i64 0,.sl ⟨none,0,.ex 0⟩]).bind λH4=>aM.l61 F dQ dR dS F aq H.length 0 H3.length 0 0 ac (ac.n:Int) 0 H4
def aM.tw:=aM.twX F (db.tw F) (dc.tw F) (dZ.tw F)
def aM.lh61 (dQ:ab5) (dR:ab3) (dS:ab1) (ks:abT) (n:Nat) (tm:Tm) (H:Hp):OA:=match ks,tm 1,tm 4,tm 5,tm 6,tm 9,tm 10,tm 11 with
 | [],(.int .i64 gq),(.ptr ft k_),(.ptr fA gY),(.int .i64 dp),(.sl ry),(.int .i64 gZ),(.int .i64 gr)=>aM.l61 F dQ dR dS n gq ft k_ fA gY dp ry gZ gr H
 | _,_,_,_,_,_,_,_=>none
def aM.lh (dQ:ab5) (dR:ab3) (dS:ab1) (p:Nat) (ks:abT) (n:Nat) (tm:Tm) (H:Hp):OA:=bif p.beq 61 then aM.lh61 F dQ dR dS ks n tm H else (none)
def aM.pn:Nat->List Nat:=cS [(8,[3,4]),(10,[4,5])]
def aM.tb:Nat->List (List Nat):=cS [(8,[[],[],[1],[0,1,2],[0,1,2,3]]),(10,[[],[],[1],[1,2],[0,1,2,3],[0,1,2,3,4]])]
def aM.cs (F:Nat) (dQ:ab5) (dR:ab3) (dS:ab1):Cs:=[(174,mk17 dQ),(173,mk9 dR),(88,mk14 dS)]
theorem aM.loops (dQ:ab5) (dR:ab3) (dS:ab1):LO (aT (aM.cs F dQ dR dS)) aM.pn (aM.lh F dQ dR dS) F Try.f134:=
 (ae.rt (ae.rt (ae.rt (ae.lt (ae.rt (ae.block (ae.la (λn tm H r h=>by change aM.lh61 F dQ dR dS [] n tm H=_ at h;unfold aM.lh61 at h;split at h;have e:bF tm [(1,_),(4,_),(5,_),(6,_),(9,_),(10,_),(11,_)]:=⟨‹_›,‹_›,‹_›,‹_›,‹_›,‹_›,‹_›,trivial⟩;obtain _ | k61:=n;cases h;exact ⟨_,rfl,by rw [<- bI e];exact Eq.trans (by kernel_rfl) h⟩;cases h) λk61=>ae.no)))))))
theorem aM.eqX (dQ:ab5) (dR:ab3) (dS:ab1) (ac:Sl) (aq:Int) (H:Hp):EX (aT (aM.cs F dQ dR dS)) aM.pn (aM.lh F dQ dR dS) F Try.f134 [(.sl ac),(.int .i64 aq)] H=aM.twX F dQ dR dS ac aq H:=by kernel_rfl
theorem aM.k:Ok Try.prog 134 (mk0 (aM.tw F)):=by
 intro args H v H' h
 unfold mk0 at h
 split at h
 ·exact okT (TB:=aM.tb) Try.func134 (aU (db.k F) (aU (dc.k F) (aU (dZ.k F) bo))) (aM.loops F (db.tw F) (dc.tw F) (dZ.tw F)) ((aM.eqX F (db.tw F) (dc.tw F) (dZ.tw F) _ _ H).trans h) (by kernel_rfl)
 ·cases h
def aR.j3 (F:Nat) (bT:abQ) (dG:abQ) (dH:abQ) (C61_:acv) (rz:Int) (TL:Sl) (TN:Sl) (rA:Int) (rB:Int) (H163:Hp):OA:=C61_ rz TL TN rA (wrap .i64 (rB+1)) H163
def aR.j4 (bT:abQ) (dG:abQ) (dH:abQ) (C61_:acv) (rC:Int) (TO:Sl) (TP:Sl) (TQ:Sl) (rD:Int) (rE:Int) (H143:Hp):OA:=(Hp.new H143 [(.sl TP)]).bind λH144=>(Sl.row H144 (⟨some (H143.length,0),1,.ex 1⟩:Sl) 1).bind λxs146=>(Hp.app H144 1 24 TO (⟨some (H143.length,0),1,.ex 1⟩:Sl).n xs146).bind λa145=>aR.j3 F bT dG dH C61_ rC a145.1 TQ rD rE a145.2
def aR.l15725 (F:Nat) (bT:abQ) (dG:abQ) (dH:abQ) (C61_:acv):Nat->Int->Sl->Sl->Int->Int->Sl->Sl->Int->Int->Hp->OA
 | 0,_,_,_,_,_,_,_,_,_,_=>none
 | Ab+1,jL,wO,wP,jN,jO,wQ,wR,jP,iS,H117=>(bif (decide (iS<jP)) then ((dH wQ (wrap .i64 (iS+1)) H117).bind λr164=>((r164.1).asAgg 2).bind λl165=>(l165[0]?).bind λv166=>((v166).asI .i64).bind λn167=>(l165[1]?).bind λv168=>((v168).asSl).bind λs169=>(Hp.new r164.2 [(.int .i64 n167),(.sl s169)]).bind λH170=>(Sl.row H170 (⟨some (r164.2.length,0),1,.ex 1⟩:Sl) 2).bind λxs172=>(Hp.app H170 2 32 wR (⟨some (r164.2.length,0),1,.ex 1⟩:Sl).n xs172).bind λa171=>aR.l15725 F bT dG dH C61_ Ab jL wO wP jN jO wQ a171.1 jP (wrap .i64 (iS+1)) a171.2) else (aR.j4 F bT dG dH C61_ jL wO wR wP jN jO H117))
def aR.l61 (F:Nat) (bT:abQ) (dG:abQ) (dH:abQ) :Nat->Int->Sl->Sl->Int->Int->Hp->OA
 | 0,_,_,_,_,_,_=>none
 | bY+1,jQ,kw,wT,jR,iT,H26=>(bif (decide (iT<jR)) then ((Sl.idx wT iT 1).bind λp100=>(Hp.ldSl H26 p100.1 p100.2).bind λs101=>aR.l15725 F bT dG dH (aR.l61 F bT dG dH bY) F jQ kw wT jR iT s101 (⟨none,0,.ex 0⟩:Sl) jQ 0 H26) else (some ((.sl kw),H26)))
def aR.twX (bT:abQ) (dG:abQ) (dH:abQ) (ac:Sl) (ag:Int) (H:Hp):OA:=(Hp.new H [(.sl ac),(.int .i64 ag)]).bind λH3=>(Hp.ldSl H3 H.length 0).bind λs4=>(Hp.ldI H3 .i64 H.length (0+1)).bind λn5=>(bT s4 n5 H3).bind λr6=>((r6.1).asTup 2).bind λl7=>(l7[0]?).bind λv8=>((v8).asSl).bind λs9=>(l7[1]?).bind λv10=>((v10).asI .i64).bind λn11=>(Hp.ldSl r6.2 H.length 0).bind λs12=>(Hp.ldI r6.2 .i64 H.length (0+1)).bind λn13=>(dG s12 n13 r6.2).bind λr14=>((r14.1).asSl).bind λs15=>aR.l61 F bT dG dH F n11 (⟨none,0,.ex 0⟩:Sl) s15 (s15.n:Int) 0 r14.2
def aR.tw:=aR.twX F (ba.tw F) (bv.tw F) (aM.tw F)
def aR.lh61 (bT:abQ) (dG:abQ) (dH:abQ) (ks:abT) (n:Nat) (tm:Tm) (H:Hp):OA:=match ks,tm 4,tm 5,tm 16,tm 17,tm 18 with
 | [],(.int .i64 jQ),(.sl kw),(.sl wT),(.int .i64 jR),(.int .i64 iT)=>aR.l61 F bT dG dH n jQ kw wT jR iT H
 | _,_,_,_,_,_=>none
def aR.lh15725 (bT:abQ) (dG:abQ) (dH:abQ) (ks:abT) (n:Nat) (tm:Tm) (H:Hp):OA:=match ks,tm 4,tm 5,tm 7,tm 8,tm 16,tm 17,tm 18,tm 22,tm 23 with
 | [bY],(.int .i64 jL),(.sl wO),(.sl wQ),(.sl wR),(.sl wP),(.int .i64 jN),(.int .i64 jO),(.int .i64 jP),(.int .i64 iS)=>aR.l15725 F bT dG dH (aR.l61 F bT dG dH bY) n jL wO wP jN jO wQ wR jP iS H
 | _,_,_,_,_,_,_,_,_,_=>none
def aR.lh (bT:abQ) (dG:abQ) (dH:abQ) (p:Nat) (ks:abT) (n:Nat) (tm:Tm) (H:Hp):OA:=bif p.beq 15725 then aR.lh15725 F bT dG dH ks n tm H else (bif p.beq 61 then aR.lh61 F bT dG dH ks n tm H else (none))
def aR.cs (F:Nat) (bT:abQ) (dG:abQ) (dH:abQ):Cs:=[(64,mk4 bT),(65,mk4 dG),(134,mk0 dH)]
theorem aR.loops (bT:abQ) (dG:abQ) (dH:abQ):LO (aT (aR.cs F bT dG dH)) aC (aR.lh F bT dG dH) F Try.f73:=
 (ae.rt (ae.rt (ae.rt (ae.lt (ae.rt (ae.block (ae.la (λn tm H r h=>by change aR.lh61 F bT dG dH [] n tm H=_ at h;unfold aR.lh61 at h;split at h;have e:bF tm [(4,_),(5,_),(16,_),(17,_),(18,_)]:=⟨‹_›,‹_›,‹_›,‹_›,‹_›,trivial⟩;obtain _ | k61:=n;cases h;exact ⟨_,rfl,by rw [<- bI e];exact Eq.trans (by kernel_rfl) h⟩;cases h) λk61=>(ae.rt (ae.rt (ae.lt (ae.block (ae.rt (ae.rt (ae.lt (ae.rt (ae.block (ae.la (λn tm H r h=>by change aR.lh15725 F bT dG dH [k61] n tm H=_ at h;unfold aR.lh15725 at h;split at h;have e:bF tm [(4,_),(5,_),(7,_),(8,_),(16,_),(17,_),(18,_),(22,_),(23,_)]:=⟨‹_›,‹_›,‹_›,‹_›,‹_›,‹_›,‹_›,‹_›,‹_›,trivial⟩;cases (show [k61]=_ from ‹_›);obtain _ | k15725:=n;cases h;exact ⟨_,rfl,by rw [<- bI e];exact Eq.trans (by kernel_rfl) h⟩;cases h) λk15725=>ae.no)))))))))))))))))
theorem aR.eqX (bT:abQ) (dG:abQ) (dH:abQ) (ac:Sl) (ag:Int) (H:Hp):EX (aT (aR.cs F bT dG dH)) aC (aR.lh F bT dG dH) F Try.f73 [(.agg [(.sl ac),(.int .i64 ag)])] H=aR.twX F bT dG dH ac ag H:=by kernel_rfl
theorem aR.k:Ok Try.prog 73 (mk4 (aR.tw F)):=by
 intro args H v H' h
 unfold mk4 at h
 split at h
 ·exact okT (TB:=aC) Try.func73 (aU (ba.k F) (aU (bv.k F) (aU (aM.k F) bo))) (aR.loops F (ba.tw F) (bv.tw F) (aM.tw F)) ((aR.eqX F (ba.tw F) (bv.tw F) (aM.tw F) _ _ H).trans h) (by kernel_rfl)
 ·cases h
def d_.twX (F:Nat) (rF:abQ) (rG:abQ) (ac:Sl) (ag:Int) (H:Hp):OA:=(Hp.new H [(.sl ac),(.int .i64 ag)]).bind λH3=>(Hp.ldSl H3 H.length 0).bind λs4=>(Hp.ldI H3 .i64 H.length (0+1)).bind λn5=>(rF s4 n5 H3).bind λr6=>((r6.1).asB).bind λb7=>(bif (!b7) then (some ((.tup [(.sl (⟨none,0,.ex 0⟩:Sl)),(.bool false)]),r6.2)) else ((Hp.ldSl r6.2 H.length 0).bind λs8=>(Hp.ldI r6.2 .i64 H.length (0+1)).bind λn9=>(rG s8 n9 r6.2).bind λr10=>((r10.1).asSl).bind λs11=>some ((.tup [(.sl s11),(.bool true)]),r10.2)))
def d_.tw:=d_.twX F (dX.tw F) (aR.tw F)
def d_.cs (F:Nat) (rF:abQ) (rG:abQ):Cs:=[(63,mk4 rF),(73,mk4 rG)]
theorem d_.eqX (rF:abQ) (rG:abQ) (ac:Sl) (ag:Int) (H:Hp):EX (aT (d_.cs F rF rG)) aC lh0 F Try.f21 [(.agg [(.sl ac),(.int .i64 ag)])] H=d_.twX F rF rG ac ag H:=by kernel_rfl
theorem d_.k:Ok Try.prog 21 (mk4 (d_.tw F)):=by
 intro args H v H' h
 unfold mk4 at h
 split at h
 ·exact okT (TB:=aC) Try.func21 (aU (dX.k F) (aU (aR.k F) bo)) ae.no ((d_.eqX F (dX.tw F) (aR.tw F) _ _ H).trans h) (by kernel_rfl)
 ·cases h
def bR.l29 (F:Nat) :Nat->Sl->Sl->Int->Hp->OA
 | 0,_,_,_,_=>none
 | fh+1,bh,aS,bs,H8=>(bif (decide (bs<(bh.n:Int))) then ((Sl.idx bh bs 1).bind λp13=>(Hp.ldI H8 .i64 p13.1 p13.2).bind λn14=>(Sl.idx aS bs 1).bind λp15=>(Hp.ldI H8 .i64 p15.1 p15.2).bind λn16=>(bif (n14 != n16) then (some ((.bool false),H8)) else (bR.l29 F fh bh aS (wrap .i64 (bs+1)) H8))) else (some ((.bool true),H8)))
def bR.twX (ac:Sl) (aq:Sl) (H:Hp):OA:=(bif ((ac.n:Int) != (aq.n:Int)) then (some ((.bool false),H)) else (bR.l29 F F ac aq 0 H))
def bR.tw:=bR.twX F
def bR.lh29 (ks:abT) (n:Nat) (tm:Tm) (H:Hp):OA:=match ks,tm 0,tm 1,tm 5 with
 | [],(.sl bh),(.sl aS),(.int .i64 bs)=>bR.l29 F n bh aS bs H
 | _,_,_,_=>none
def bR.lh (p:Nat) (ks:abT) (n:Nat) (tm:Tm) (H:Hp):OA:=bif p.beq 29 then bR.lh29 F ks n tm H else (none)
def bR.tb:Nat->List (List Nat):=cS [(6,[[],[],[0,1],[0,1,2],[],[],[4,5],[4,5,6],[0,1,2,3,4,5,6,7]])]
def mk20 (g:ab8) (args:ab0) (H:Hp):OA:=match args with
 | [(.sl ac),(.sl aq)]=>g ac aq H
 | _=>none
theorem mk20_E (g:ab8) (ac:Sl) (aq:Sl) (H:Hp):mk20 g [(.sl ac),(.sl aq)] H=g ac aq H:=rfl
theorem bR.loops:LO (aT []) aC (bR.lh F) F Try.f90:=
 (ae.rt (ae.rt (ae.lt (ae.rt (ae.block (ae.la (λn tm H r h=>by change bR.lh29 F [] n tm H=_ at h;unfold bR.lh29 at h;split at h;have e:bF tm [(0,_),(1,_),(5,_)]:=⟨‹_›,‹_›,‹_›,trivial⟩;obtain _ | k29:=n;cases h;exact ⟨_,rfl,by rw [<- bI e];exact Eq.trans (by kernel_rfl) h⟩;cases h) λk29=>ae.no))))))
theorem bR.k:Ok Try.prog 90 (mk20 (bR.tw F)):=by
 intro args H v H' h
 unfold mk20 at h
 split at h
 ·exact okT (PN:=aC) (LH:=(bR.lh F)) (F:=F) (TB:=bR.tb) Try.func90 bo (bR.loops F) (Eq.trans (by kernel_rfl) h) (by kernel_rfl)
 ·cases h
def eb.twX (F:Nat) (rH:ab8) (ac:Int) (ag:Sl) (ay:Int) (bp:Sl) (H:Hp):OA:=(Hp.new H [(.int .i64 ac),(.sl ag)]).bind λH5=>(Hp.new H5 [(.int .i64 ay),(.sl bp)]).bind λH6=>(Hp.ldI H6 .i64 H.length 0).bind λn7=>(Hp.ldI H6 .i64 H5.length 0).bind λn8=>(bif (n7 != n8) then (some ((.bool false),H6)) else ((Hp.ldSl H6 H.length 1).bind λs9=>(Hp.ldSl H6 H5.length 1).bind λs10=>(rH s9 s10 H6).bind λr11=>((r11.1).asB).bind λb12=>(bif (!b12) then (some ((.bool false),r11.2)) else (some ((.bool true),r11.2)))))
def eb.tw:=eb.twX F (bR.tw F)
def eb.cs (F:Nat) (rH:ab8):Cs:=[(90,mk20 rH)]
theorem eb.eqX (rH:ab8) (ac:Int) (ag:Sl) (ay:Int) (bp:Sl) (H:Hp):EX (aT (eb.cs F rH)) aC lh0 F Try.f135 [(.agg [(.int .i64 ac),(.sl ag)]),(.agg [(.int .i64 ay),(.sl bp)])] H=eb.twX F rH ac ag ay bp H:=by kernel_rfl
theorem eb.k:Ok Try.prog 135 (mk9 (eb.tw F)):=by
 intro args H v H' h
 unfold mk9 at h
 split at h
 ·exact okT (TB:=aC) Try.func135 (aU (bR.k F) bo) ae.no ((eb.eqX F (bR.tw F) _ _ _ _ H).trans h) (by kernel_rfl)
 ·cases h
def bw.l29 (F:Nat) (fM:ab3) :Nat->Sl->Sl->Int->Hp->OA
 | 0,_,_,_,_=>none
 | fh+1,bh,aS,bs,H8=>(bif (decide (bs<(bh.n:Int))) then ((Sl.idx bh bs 2).bind λp17=>(Hp.ldI H8 .i64 p17.1 p17.2).bind λn18=>(Hp.ldSl H8 p17.1 (p17.2+1)).bind λs19=>(Sl.idx aS bs 2).bind λp20=>(Hp.ldI H8 .i64 p20.1 p20.2).bind λn21=>(Hp.ldSl H8 p20.1 (p20.2+1)).bind λs22=>(fM n18 s19 n21 s22 H8).bind λr23=>((r23.1).asB).bind λb24=>(bif (!b24) then (some ((.bool false),r23.2)) else (bw.l29 F fM fh bh aS (wrap .i64 (bs+1)) r23.2))) else (some ((.bool true),H8)))
def bw.twX (fM:ab3) (ac:Sl) (aq:Sl) (H:Hp):OA:=(bif ((ac.n:Int) != (aq.n:Int)) then (some ((.bool false),H)) else (bw.l29 F fM F ac aq 0 H))
def bw.tw:=bw.twX F (eb.tw F)
def bw.lh29 (fM:ab3) (ks:abT) (n:Nat) (tm:Tm) (H:Hp):OA:=match ks,tm 0,tm 1,tm 5 with
 | [],(.sl bh),(.sl aS),(.int .i64 bs)=>bw.l29 F fM n bh aS bs H
 | _,_,_,_=>none
def bw.lh (fM:ab3) (p:Nat) (ks:abT) (n:Nat) (tm:Tm) (H:Hp):OA:=bif p.beq 29 then bw.lh29 F fM ks n tm H else (none)
def bw.pn:Nat->List Nat:=cS [(6,[8])]
def bw.tb:Nat->List (List Nat):=cS [(6,[[],[],[0,1],[0,1,2],[],[],[4,5],[4,5,6],[0,1,2,3,4,5,6,7],[0,1,2,3,4,5,6,7,8]])]
def bw.cs (F:Nat) (fM:ab3):Cs:=[(135,mk9 fM)]
theorem bw.loops (fM:ab3):LO (aT (bw.cs F fM)) bw.pn (bw.lh F fM) F Try.f74:=
 (ae.rt (ae.rt (ae.lt (ae.rt (ae.block (ae.la (λn tm H r h=>by change bw.lh29 F fM [] n tm H=_ at h;unfold bw.lh29 at h;split at h;have e:bF tm [(0,_),(1,_),(5,_)]:=⟨‹_›,‹_›,‹_›,trivial⟩;obtain _ | k29:=n;cases h;exact ⟨_,rfl,by rw [<- bI e];exact Eq.trans (by kernel_rfl) h⟩;cases h) λk29=>ae.no))))))
theorem bw.eqX (fM:ab3) (ac:Sl) (aq:Sl) (H:Hp):EX (aT (bw.cs F fM)) bw.pn (bw.lh F fM) F Try.f74 [(.sl ac),(.sl aq)] H=bw.twX F fM ac aq H:=by kernel_rfl
theorem bw.k:Ok Try.prog 74 (mk20 (bw.tw F)):=by
 intro args H v H' h
 unfold mk20 at h
 split at h
 ·exact okT (TB:=bw.tb) Try.func74 (aU (eb.k F) bo) (bw.loops F (eb.tw F)) ((bw.eqX F (eb.tw F) _ _ H).trans h) (by kernel_rfl)
 ·cases h
def bq.l29 (F:Nat) (fN:ab8) :Nat->Sl->Sl->Int->Hp->OA
 | 0,_,_,_,_=>none
 | fh+1,bh,aS,bs,H8=>(bif (decide (bs<(bh.n:Int))) then ((Sl.idx bh bs 1).bind λp15=>(Hp.ldSl H8 p15.1 p15.2).bind λs16=>(Sl.idx aS bs 1).bind λp17=>(Hp.ldSl H8 p17.1 p17.2).bind λs18=>(fN s16 s18 H8).bind λr19=>((r19.1).asB).bind λb20=>(bif (!b20) then (some ((.bool false),r19.2)) else (bq.l29 F fN fh bh aS (wrap .i64 (bs+1)) r19.2))) else (some ((.bool true),H8)))
def bq.twX (fN:ab8) (ac:Sl) (aq:Sl) (H:Hp):OA:=(bif ((ac.n:Int) != (aq.n:Int)) then (some ((.bool false),H)) else (bq.l29 F fN F ac aq 0 H))
def bq.tw:=bq.twX F (bw.tw F)
def bq.lh29 (fN:ab8) (ks:abT) (n:Nat) (tm:Tm) (H:Hp):OA:=match ks,tm 0,tm 1,tm 5 with
 | [],(.sl bh),(.sl aS),(.int .i64 bs)=>bq.l29 F fN n bh aS bs H
 | _,_,_,_=>none
def bq.lh (fN:ab8) (p:Nat) (ks:abT) (n:Nat) (tm:Tm) (H:Hp):OA:=bif p.beq 29 then bq.lh29 F fN ks n tm H else (none)
def bq.pn:Nat->List Nat:=cS [(6,[8])]
def bq.tb:Nat->List (List Nat):=cS [(6,[[],[],[0,1],[0,1,2],[],[],[4,5],[4,5,6],[0,1,2,3,4,5,6,7],[0,1,2,3,4,5,6,7,8]])]
def bq.cs (F:Nat) (fN:ab8):Cs:=[(74,mk20 fN)]
theorem bq.loops (fN:ab8):LO (aT (bq.cs F fN)) bq.pn (bq.lh F fN) F Try.f22:=
 (ae.rt (ae.rt (ae.lt (ae.rt (ae.block (ae.la (λn tm H r h=>by change bq.lh29 F fN [] n tm H=_ at h;unfold bq.lh29 at h;split at h;have e:bF tm [(0,_),(1,_),(5,_)]:=⟨‹_›,‹_›,‹_›,trivial⟩;obtain _ | k29:=n;cases h;exact ⟨_,rfl,by rw [<- bI e];exact Eq.trans (by kernel_rfl) h⟩;cases h) λk29=>ae.no))))))
theorem bq.eqX (fN:ab8) (ac:Sl) (aq:Sl) (H:Hp):EX (aT (bq.cs F fN)) bq.pn (bq.lh F fN) F Try.f22 [(.sl ac),(.sl aq)] H=bq.twX F fN ac aq H:=by kernel_rfl
theorem bq.k:Ok Try.prog 22 (mk20 (bq.tw F)):=by
 intro args H v H' h
 unfold mk20 at h
 split at h
 ·exact okT (TB:=bq.tb) Try.func22 (aU (bw.k F) bo) (bq.loops F (bw.tw F)) ((bq.eqX F (bw.tw F) _ _ H).trans h) (by kernel_rfl)
 ·cases h
def eV.twX (F:Nat) (ac:Int) (ag:Int) (bG:Int) (bH:Int) (bz:Int) (cf:Int) (jS:Int) (jT:Int) (jU:Int) (jV:Int) (H:Hp):OA:=(Hp.new H [(.int .i64 ac),(.int .i64 ag),(.int .i64 bG),(.int .i64 bH),(.int .i64 bz)]).bind λH11=>(Hp.new H11 [(.int .i64 cf),(.int .i64 jS),(.int .i64 jT),(.int .i64 jU),(.int .i64 jV)]).bind λH12=>(Hp.ldI H12 .i64 H.length 0).bind λn13=>(Hp.ldI H12 .i64 H11.length 0).bind λn14=>(bif (n13 != n14) then (some ((.bool false),H12)) else ((Hp.ldI H12 .i64 H.length 1).bind λn15=>(Hp.ldI H12 .i64 H11.length 1).bind λn16=>(bif (n15 != n16) then (some ((.bool false),H12)) else ((Hp.ldI H12 .i64 H.length 2).bind λn17=>(Hp.ldI H12 .i64 H11.length 2).bind λn18=>(bif (n17 != n18) then (some ((.bool false),H12)) else ((Hp.ldI H12 .i64 H.length 3).bind λn19=>(Hp.ldI H12 .i64 H11.length 3).bind λn20=>(bif (n19 != n20) then (some ((.bool false),H12)) else ((Hp.ldI H12 .i64 H.length 4).bind λn21=>(Hp.ldI H12 .i64 H11.length 4).bind λn22=>(bif (n21 != n22) then (some ((.bool false),H12)) else (some ((.bool true),H12)))))))))))
def eV.tw:=eV.twX F
def mk21 (g:aci) (args:ab0) (H:Hp):OA:=match args with
 | [(.agg [(.int .i64 ac),(.int .i64 ag),(.int .i64 bG),(.int .i64 bH),(.int .i64 bz)]),(.agg [(.int .i64 cf),(.int .i64 jS),(.int .i64 jT),(.int .i64 jU),(.int .i64 jV)])]=>g ac ag bG bH bz cf jS jT jU jV H
 | _=>none
theorem mk21_E (g:aci) (ac:Int) (ag:Int) (bG:Int) (bH:Int) (bz:Int) (cf:Int) (jS:Int) (jT:Int) (jU:Int) (jV:Int) (H:Hp):mk21 g [(.agg [(.int .i64 ac),(.int .i64 ag),(.int .i64 bG),(.int .i64 bH),(.int .i64 bz)]),(.agg [(.int .i64 cf),(.int .i64 jS),(.int .i64 jT),(.int .i64 jU),(.int .i64 jV)])] H=g ac ag bG bH bz cf jS jT jU jV H:=rfl
theorem eV.k:Ok Try.prog 132 (mk21 (eV.tw F)):=by
 intro args H v H' h
 unfold mk21 at h
 split at h
 ·exact ok0 Try.func132 (Eq.trans (by kernel_rfl) h) (by kernel_rfl) (by kernel_rfl)
 ·cases h
def bC.l29 (F:Nat) (fO:aci) :Nat->Sl->Sl->Int->Hp->OA
 | 0,_,_,_,_=>none
 | fh+1,bh,aS,bs,H8=>(bif (decide (bs<(bh.n:Int))) then ((Sl.idx bh bs 5).bind λp23=>(Hp.ldI H8 .i64 p23.1 p23.2).bind λn24=>(Hp.ldI H8 .i64 p23.1 (p23.2+1)).bind λn25=>(Hp.ldI H8 .i64 p23.1 (p23.2+2)).bind λn26=>(Hp.ldI H8 .i64 p23.1 (p23.2+3)).bind λn27=>(Hp.ldI H8 .i64 p23.1 (p23.2+4)).bind λn28=>(Sl.idx aS bs 5).bind λp29=>(Hp.ldI H8 .i64 p29.1 p29.2).bind λn30=>(Hp.ldI H8 .i64 p29.1 (p29.2+1)).bind λn31=>(Hp.ldI H8 .i64 p29.1 (p29.2+2)).bind λn32=>(Hp.ldI H8 .i64 p29.1 (p29.2+3)).bind λn33=>(Hp.ldI H8 .i64 p29.1 (p29.2+4)).bind λn34=>(fO n24 n25 n26 n27 n28 n30 n31 n32 n33 n34 H8).bind λr35=>((r35.1).asB).bind λb36=>(bif (!b36) then (some ((.bool false),r35.2)) else (bC.l29 F fO fh bh aS (wrap .i64 (bs+1)) r35.2))) else (some ((.bool true),H8)))
def bC.twX (fO:aci) (ac:Sl) (aq:Sl) (H:Hp):OA:=(bif ((ac.n:Int) != (aq.n:Int)) then (some ((.bool false),H)) else (bC.l29 F fO F ac aq 0 H))
def bC.tw:=bC.twX F (eV.tw F)
def bC.lh29 (fO:aci) (ks:abT) (n:Nat) (tm:Tm) (H:Hp):OA:=match ks,tm 0,tm 1,tm 5 with
 | [],(.sl bh),(.sl aS),(.int .i64 bs)=>bC.l29 F fO n bh aS bs H
 | _,_,_,_=>none
def bC.lh (fO:aci) (p:Nat) (ks:abT) (n:Nat) (tm:Tm) (H:Hp):OA:=bif p.beq 29 then bC.lh29 F fO ks n tm H else (none)
def bC.pn:Nat->List Nat:=cS [(6,[8])]
def bC.tb:Nat->List (List Nat):=cS [(6,[[],[],[0,1],[0,1,2],[],[],[4,5],[4,5,6],[0,1,2,3,4,5,6,7],[0,1,2,3,4,5,6,7,8]])]
def bC.cs (F:Nat) (fO:aci):Cs:=[(132,mk21 fO)]
theorem bC.loops (fO:aci):LO (aT (bC.cs F fO)) bC.pn (bC.lh F fO) F Try.f68:=
 (ae.rt (ae.rt (ae.lt (ae.rt (ae.block (ae.la (λn tm H r h=>by change bC.lh29 F fO [] n tm H=_ at h;unfold bC.lh29 at h;split at h;have e:bF tm [(0,_),(1,_),(5,_)]:=⟨‹_›,‹_›,‹_›,trivial⟩;obtain _ | k29:=n;cases h;exact ⟨_,rfl,by rw [<- bI e];exact Eq.trans (by kernel_rfl) h⟩;cases h) λk29=>ae.no))))))
theorem bC.eqX (fO:aci) (ac:Sl) (aq:Sl) (H:Hp):EX (aT (bC.cs F fO)) bC.pn (bC.lh F fO) F Try.f68 [(.sl ac),(.sl aq)] H=bC.twX F fO ac aq H:=by kernel_rfl
theorem bC.k:Ok Try.prog 68 (mk20 (bC.tw F)):=by
 intro args H v H' h
 unfold mk20 at h
 split at h
 ·exact okT (TB:=bC.tb) Try.func68 (aU (eV.k F) bo) (bC.loops F (eV.tw F)) ((bC.eqX F (eV.tw F) _ _ H).trans h) (by kernel_rfl)
 ·cases h
def ew.twX (F:Nat) (rI:ab8) (ac:Sl) (ag:Int) (ay:Sl) (bp:Int) (H:Hp):OA:=(Hp.new H [(.sl ac),(.int .i64 ag)]).bind λH5=>(Hp.new H5 [(.sl ay),(.int .i64 bp)]).bind λH6=>(Hp.ldSl H6 H.length 0).bind λs7=>(Hp.ldSl H6 H5.length 0).bind λs8=>(rI s7 s8 H6).bind λr9=>((r9.1).asB).bind λb10=>(bif (!b10) then (some ((.bool false),r9.2)) else ((Hp.ldI r9.2 .i64 H.length 1).bind λn11=>(Hp.ldI r9.2 .i64 H5.length 1).bind λn12=>(bif (n11 != n12) then (some ((.bool false),r9.2)) else (some ((.bool true),r9.2)))))
def ew.tw:=ew.twX F (bC.tw F)
def mk22 (g:ace) (args:ab0) (H:Hp):OA:=match args with
 | [(.agg [(.sl ac),(.int .i64 ag)]),(.agg [(.sl ay),(.int .i64 bp)])]=>g ac ag ay bp H
 | _=>none
theorem mk22_E (g:ace) (ac:Sl) (ag:Int) (ay:Sl) (bp:Int) (H:Hp):mk22 g [(.agg [(.sl ac),(.int .i64 ag)]),(.agg [(.sl ay),(.int .i64 bp)])] H=g ac ag ay bp H:=rfl
def ew.cs (F:Nat) (rI:ab8):Cs:=[(68,mk20 rI)]
theorem ew.eqX (rI:ab8) (ac:Sl) (ag:Int) (ay:Sl) (bp:Int) (H:Hp):EX (aT (ew.cs F rI)) aC lh0 F Try.f16 [(.agg [(.sl ac),(.int .i64 ag)]),(.agg [(.sl ay),(.int .i64 bp)])] H=ew.twX F rI ac ag ay bp H:=by kernel_rfl
theorem ew.k:Ok Try.prog 16 (mk22 (ew.tw F)):=by
 intro args H v H' h
 unfold mk22 at h
 split at h
 ·exact okT (TB:=aC) Try.func16 (aU (bC.k F) bo) ae.no ((ew.eqX F (bC.tw F) _ _ _ _ H).trans h) (by kernel_rfl)
 ·cases h
def bU.l13 (F:Nat) :Nat->Sl->Int->Int->Hp->OA
 | 0,_,_,_,_=>none
 | eK+1,bh,aS,aY,H7=>(bif (decide (aY<(bh.n:Int))) then ((Sl.idx bh aY 5).bind λp18=>(Hp.st H7 p18.1 p18.2 (.int .i64 aS)).bind λH19=>(Sl.idx bh aY 5).bind λp20=>(Hp.st H19 p20.1 (p20.2+1) (.int .i64 (wrap .i64 (aS+1)))).bind λH21=>(Sl.idx bh aY 5).bind λp22=>(Hp.st H21 p22.1 (p22.2+2) (.int .i64 (wrap .i64 ((wrap .i64 (aS+1))+1)))).bind λH23=>(Sl.idx bh aY 5).bind λp24=>(Hp.st H23 p24.1 (p24.2+3) (.int .i64 (wrap .i64 ((wrap .i64 ((wrap .i64 (aS+1))+1))+1)))).bind λH25=>(Sl.idx bh aY 5).bind λp26=>(Hp.st H25 p26.1 (p26.2+4) (.int .i64 (wrap .i64 ((wrap .i64 ((wrap .i64 ((wrap .i64 (aS+1))+1))+1))+1)))).bind λH27=>bU.l13 F eK bh (wrap .i64 ((wrap .i64 ((wrap .i64 ((wrap .i64 ((wrap .i64 (aS+1))+1))+1))+1))+1)) (wrap .i64 (aY+1)) H27) else (some ((.int .i64 aS),H7)))
def bU.twX (ac:Sl) (aq:Int) (H:Hp):OA:=bU.l13 F F ac aq 0 H
def bU.tw:=bU.twX F
def bU.lh13 (ks:abT) (n:Nat) (tm:Tm) (H:Hp):OA:=match ks,tm 0,tm 1,tm 5 with
 | [],(.sl bh),(.int .i64 aS),(.int .i64 aY)=>bU.l13 F n bh aS aY H
 | _,_,_,_=>none
def bU.lh (p:Nat) (ks:abT) (n:Nat) (tm:Tm) (H:Hp):OA:=bif p.beq 13 then bU.lh13 F ks n tm H else (none)
theorem bU.loops:LO (aT []) aC (bU.lh F) F Try.f69:=
 (ae.rt (ae.lt (ae.rt (ae.block (ae.la (λn tm H r h=>by change bU.lh13 F [] n tm H=_ at h;unfold bU.lh13 at h;split at h;have e:bF tm [(0,_),(1,_),(5,_)]:=⟨‹_›,‹_›,‹_›,trivial⟩;obtain _ | k13:=n;cases h;exact ⟨_,rfl,by rw [<- bI e];exact Eq.trans (by kernel_rfl) h⟩;cases h) λk13=>ae.no)))))
theorem bU.k:Ok Try.prog 69 (mk0 (bU.tw F)):=by
 intro args H v H' h
 unfold mk0 at h
 split at h
 ·exact okT (PN:=aC) (LH:=(bU.lh F)) (F:=F) (TB:=aC) Try.func69 bo (bU.loops F) (Eq.trans (by kernel_rfl) h) (by kernel_rfl)
 ·cases h
def ey.twX (F:Nat) (rJ:abQ) (ac:Sl) (ag:Int) (ay:Int) (H:Hp):OA:=(Hp.new H [(.sl ac),(.int .i64 ag)]).bind λH4=>(Hp.ldSl H4 H.length 0).bind λs5=>(rJ s5 ay H4).bind λr6=>((r6.1).asI .i64).bind λn7=>some ((.int .i64 n7),r6.2)
def ey.tw:=ey.twX F (bU.tw F)
def ey.cs (F:Nat) (rJ:abQ):Cs:=[(69,mk0 rJ)]
theorem ey.eqX (rJ:abQ) (ac:Sl) (ag:Int) (ay:Int) (H:Hp):EX (aT (ey.cs F rJ)) aC lh0 F Try.f17 [(.agg [(.sl ac),(.int .i64 ag)]),(.int .i64 ay)] H=ey.twX F rJ ac ag ay H:=by kernel_rfl
theorem ey.k:Ok Try.prog 17 (mk1 (ey.tw F)):=by
 intro args H v H' h
 unfold mk1 at h
 split at h
 ·exact okT (TB:=aC) Try.func17 (aU (bU.k F) bo) ae.no ((ey.eqX F (bU.tw F) _ _ _ H).trans h) (by kernel_rfl)
 ·cases h
def bL.l13 (F:Nat) :Nat->Sl->Int->Int->Hp->OA
 | 0,_,_,_,_=>none
 | eK+1,bh,aS,aY,H7=>(bif (decide (aY<(bh.n:Int))) then ((Sl.idx bh aY 1).bind λp10=>(Hp.st H7 p10.1 p10.2 (.int .i64 aS)).bind λH11=>bL.l13 F eK bh (wrap .i64 (aS+1)) (wrap .i64 (aY+1)) H11) else (some ((.int .i64 aS),H7)))
def bL.twX (ac:Sl) (aq:Int) (H:Hp):OA:=bL.l13 F F ac aq 0 H
def bL.tw:=bL.twX F
def bL.lh13 (ks:abT) (n:Nat) (tm:Tm) (H:Hp):OA:=match ks,tm 0,tm 1,tm 5 with
 | [],(.sl bh),(.int .i64 aS),(.int .i64 aY)=>bL.l13 F n bh aS aY H
 | _,_,_,_=>none
def bL.lh (p:Nat) (ks:abT) (n:Nat) (tm:Tm) (H:Hp):OA:=bif p.beq 13 then bL.lh13 F ks n tm H else (none)
theorem bL.loops:LO (aT []) aC (bL.lh F) F Try.f91:=
 (ae.rt (ae.lt (ae.rt (ae.block (ae.la (λn tm H r h=>by change bL.lh13 F [] n tm H=_ at h;unfold bL.lh13 at h;split at h;have e:bF tm [(0,_),(1,_),(5,_)]:=⟨‹_›,‹_›,‹_›,trivial⟩;obtain _ | k13:=n;cases h;exact ⟨_,rfl,by rw [<- bI e];exact Eq.trans (by kernel_rfl) h⟩;cases h) λk13=>ae.no)))))
theorem bL.k:Ok Try.prog 91 (mk0 (bL.tw F)):=by
 intro args H v H' h
 unfold mk0 at h
 split at h
 ·exact okT (PN:=aC) (LH:=(bL.lh F)) (F:=F) (TB:=aC) Try.func91 bo (bL.loops F) (Eq.trans (by kernel_rfl) h) (by kernel_rfl)
 ·cases h
def bX.l13 (F:Nat) (fP:abQ) :Nat->Sl->Int->Int->Hp->OA
 | 0,_,_,_,_=>none
 | eK+1,bh,aS,aY,H7=>(bif (decide (aY<(bh.n:Int))) then ((Sl.idx bh aY 2).bind λp14=>(Hp.st H7 p14.1 p14.2 (.int .i64 aS)).bind λH15=>(Sl.idx bh aY 2).bind λp16=>(Hp.ldSl H15 p16.1 (p16.2+1)).bind λs17=>(fP s17 (wrap .i64 (aS+1)) H15).bind λr18=>((r18.1).asI .i64).bind λn19=>bX.l13 F fP eK bh n19 (wrap .i64 (aY+1)) r18.2) else (some ((.int .i64 aS),H7)))
def bX.twX (fP:abQ) (ac:Sl) (aq:Int) (H:Hp):OA:=bX.l13 F fP F ac aq 0 H
def bX.tw:=bX.twX F (bL.tw F)
def bX.lh13 (fP:abQ) (ks:abT) (n:Nat) (tm:Tm) (H:Hp):OA:=match ks,tm 0,tm 1,tm 5 with
 | [],(.sl bh),(.int .i64 aS),(.int .i64 aY)=>bX.l13 F fP n bh aS aY H
 | _,_,_,_=>none
def bX.lh (fP:abQ) (p:Nat) (ks:abT) (n:Nat) (tm:Tm) (H:Hp):OA:=bif p.beq 13 then bX.lh13 F fP ks n tm H else (none)
def bX.cs (F:Nat) (fP:abQ):Cs:=[(91,mk0 fP)]
theorem bX.loops (fP:abQ):LO (aT (bX.cs F fP)) aC (bX.lh F fP) F Try.f75:=
 (ae.rt (ae.lt (ae.rt (ae.block (ae.la (λn tm H r h=>by change bX.lh13 F fP [] n tm H=_ at h;unfold bX.lh13 at h;split at h;have e:bF tm [(0,_),(1,_),(5,_)]:=⟨‹_›,‹_›,‹_›,trivial⟩;obtain _ | k13:=n;cases h;exact ⟨_,rfl,by rw [<- bI e];exact Eq.trans (by kernel_rfl) h⟩;cases h) λk13=>ae.no)))))
theorem bX.eqX (fP:abQ) (ac:Sl) (aq:Int) (H:Hp):EX (aT (bX.cs F fP)) aC (bX.lh F fP) F Try.f75 [(.sl ac),(.int .i64 aq)] H=bX.twX F fP ac aq H:=by kernel_rfl
theorem bX.k:Ok Try.prog 75 (mk0 (bX.tw F)):=by
 intro args H v H' h
 unfold mk0 at h
 split at h
 ·exact okT (TB:=aC) Try.func75 (aU (bL.k F) bo) (bX.loops F (bL.tw F)) ((bX.eqX F (bL.tw F) _ _ H).trans h) (by kernel_rfl)
 ·cases h
def ck.l13 (F:Nat) (fQ:abQ) :Nat->Sl->Int->Int->Hp->OA
 | 0,_,_,_,_=>none
 | eK+1,bh,aS,aY,H7=>(bif (decide (aY<(bh.n:Int))) then ((Sl.idx bh aY 1).bind λp12=>(Hp.ldSl H7 p12.1 p12.2).bind λs13=>(fQ s13 aS H7).bind λr14=>((r14.1).asI .i64).bind λn15=>ck.l13 F fQ eK bh n15 (wrap .i64 (aY+1)) r14.2) else (some ((.int .i64 aS),H7)))
def ck.twX (fQ:abQ) (ac:Sl) (aq:Int) (H:Hp):OA:=ck.l13 F fQ F ac aq 0 H
def ck.tw:=ck.twX F (bX.tw F)
def ck.lh13 (fQ:abQ) (ks:abT) (n:Nat) (tm:Tm) (H:Hp):OA:=match ks,tm 0,tm 1,tm 5 with
 | [],(.sl bh),(.int .i64 aS),(.int .i64 aY)=>ck.l13 F fQ n bh aS aY H
 | _,_,_,_=>none
def ck.lh (fQ:abQ) (p:Nat) (ks:abT) (n:Nat) (tm:Tm) (H:Hp):OA:=bif p.beq 13 then ck.lh13 F fQ ks n tm H else (none)
def ck.cs (F:Nat) (fQ:abQ):Cs:=[(75,mk0 fQ)]
theorem ck.loops (fQ:abQ):LO (aT (ck.cs F fQ)) aC (ck.lh F fQ) F Try.f23:=
 (ae.rt (ae.lt (ae.rt (ae.block (ae.la (λn tm H r h=>by change ck.lh13 F fQ [] n tm H=_ at h;unfold ck.lh13 at h;split at h;have e:bF tm [(0,_),(1,_),(5,_)]:=⟨‹_›,‹_›,‹_›,trivial⟩;obtain _ | k13:=n;cases h;exact ⟨_,rfl,by rw [<- bI e];exact Eq.trans (by kernel_rfl) h⟩;cases h) λk13=>ae.no)))))
theorem ck.eqX (fQ:abQ) (ac:Sl) (aq:Int) (H:Hp):EX (aT (ck.cs F fQ)) aC (ck.lh F fQ) F Try.f23 [(.sl ac),(.int .i64 aq)] H=ck.twX F fQ ac aq H:=by kernel_rfl
theorem ck.k:Ok Try.prog 23 (mk0 (ck.tw F)):=by
 intro args H v H' h
 unfold mk0 at h
 split at h
 ·exact okT (TB:=aC) Try.func23 (aU (bX.k F) bo) (ck.loops F (bX.tw F)) ((ck.eqX F (bX.tw F) _ _ H).trans h) (by kernel_rfl)
 ·cases h
def bS.l13 (F:Nat) :Nat->Sl->Int->Int->Hp->OA
 | 0,_,_,_,_=>none
 | eK+1,bh,aS,aY,H7=>(bif (decide (aY<(bh.n:Int))) then ((Sl.idx bh aY 1).bind λp10=>(Hp.ldI H7 .i64 p10.1 p10.2).bind λn11=>(bif (n11 != aS) then (some ((.int .i64 (-1)),H7)) else (bS.l13 F eK bh (wrap .i64 (aS+1)) (wrap .i64 (aY+1)) H7))) else (some ((.int .i64 aS),H7)))
def bS.twX (ac:Sl) (aq:Int) (H:Hp):OA:=bS.l13 F F ac aq 0 H
def bS.tw:=bS.twX F
def bS.lh13 (ks:abT) (n:Nat) (tm:Tm) (H:Hp):OA:=match ks,tm 0,tm 1,tm 5 with
 | [],(.sl bh),(.int .i64 aS),(.int .i64 aY)=>bS.l13 F n bh aS aY H
 | _,_,_,_=>none
def bS.lh (p:Nat) (ks:abT) (n:Nat) (tm:Tm) (H:Hp):OA:=bif p.beq 13 then bS.lh13 F ks n tm H else (none)
theorem bS.loops:LO (aT []) aC (bS.lh F) F Try.f92:=
 (ae.rt (ae.lt (ae.rt (ae.block (ae.la (λn tm H r h=>by change bS.lh13 F [] n tm H=_ at h;unfold bS.lh13 at h;split at h;have e:bF tm [(0,_),(1,_),(5,_)]:=⟨‹_›,‹_›,‹_›,trivial⟩;obtain _ | k13:=n;cases h;exact ⟨_,rfl,by rw [<- bI e];exact Eq.trans (by kernel_rfl) h⟩;cases h) λk13=>ae.no)))))
theorem bS.k:Ok Try.prog 92 (mk0 (bS.tw F)):=by
 intro args H v H' h
 unfold mk0 at h
 split at h
 ·exact okT (PN:=aC) (LH:=(bS.lh F)) (F:=F) (TB:=aC) Try.func92 bo (bS.loops F) (Eq.trans (by kernel_rfl) h) (by kernel_rfl)
 ·cases h
def bE.l13 (F:Nat) (fR:abQ) :Nat->Sl->Int->Int->Hp->OA
 | 0,_,_,_,_=>none
 | eK+1,bh,aS,aY,H7=>(bif (decide (aY<(bh.n:Int))) then ((Sl.idx bh aY 2).bind λp14=>(Hp.ldI H7 .i64 p14.1 p14.2).bind λn15=>(bif (n15 != aS) then (some ((.int .i64 (-1)),H7)) else ((Sl.idx bh aY 2).bind λp16=>(Hp.ldSl H7 p16.1 (p16.2+1)).bind λs17=>(fR s17 (wrap .i64 (aS+1)) H7).bind λr18=>((r18.1).asI .i64).bind λn19=>(bif (decide (n19<0)) then (some ((.int .i64 (-1)),r18.2)) else (bE.l13 F fR eK bh n19 (wrap .i64 (aY+1)) r18.2))))) else (some ((.int .i64 aS),H7)))
def bE.twX (fR:abQ) (ac:Sl) (aq:Int) (H:Hp):OA:=bE.l13 F fR F ac aq 0 H
def bE.tw:=bE.twX F (bS.tw F)
def bE.lh13 (fR:abQ) (ks:abT) (n:Nat) (tm:Tm) (H:Hp):OA:=match ks,tm 0,tm 1,tm 5 with
 | [],(.sl bh),(.int .i64 aS),(.int .i64 aY)=>bE.l13 F fR n bh aS aY H
 | _,_,_,_=>none
def bE.lh (fR:abQ) (p:Nat) (ks:abT) (n:Nat) (tm:Tm) (H:Hp):OA:=bif p.beq 13 then bE.lh13 F fR ks n tm H else (none)
def bE.cs (F:Nat) (fR:abQ):Cs:=[(92,mk0 fR)]
theorem bE.loops (fR:abQ):LO (aT (bE.cs F fR)) aC (bE.lh F fR) F Try.f76:=
 (ae.rt (ae.lt (ae.rt (ae.block (ae.la (λn tm H r h=>by change bE.lh13 F fR [] n tm H=_ at h;unfold bE.lh13 at h;split at h;have e:bF tm [(0,_),(1,_),(5,_)]:=⟨‹_›,‹_›,‹_›,trivial⟩;obtain _ | k13:=n;cases h;exact ⟨_,rfl,by rw [<- bI e];exact Eq.trans (by kernel_rfl) h⟩;cases h) λk13=>ae.no)))))
theorem bE.eqX (fR:abQ) (ac:Sl) (aq:Int) (H:Hp):EX (aT (bE.cs F fR)) aC (bE.lh F fR) F Try.f76 [(.sl ac),(.int .i64 aq)] H=bE.twX F fR ac aq H:=by kernel_rfl
theorem bE.k:Ok Try.prog 76 (mk0 (bE.tw F)):=by
 intro args H v H' h
 unfold mk0 at h
 split at h
 ·exact okT (TB:=aC) Try.func76 (aU (bS.k F) bo) (bE.loops F (bS.tw F)) ((bE.eqX F (bS.tw F) _ _ H).trans h) (by kernel_rfl)
 ·cases h
def bD.l13 (F:Nat) (fS:abQ) :Nat->Sl->Int->Int->Hp->OA
 | 0,_,_,_,_=>none
 | eK+1,bh,aS,aY,H7=>(bif (decide (aY<(bh.n:Int))) then ((Sl.idx bh aY 1).bind λp12=>(Hp.ldSl H7 p12.1 p12.2).bind λs13=>(fS s13 aS H7).bind λr14=>((r14.1).asI .i64).bind λn15=>(bif (decide (n15<0)) then (some ((.int .i64 (-1)),r14.2)) else (bD.l13 F fS eK bh n15 (wrap .i64 (aY+1)) r14.2))) else (some ((.int .i64 aS),H7)))
def bD.twX (fS:abQ) (ac:Sl) (aq:Int) (H:Hp):OA:=bD.l13 F fS F ac aq 0 H
def bD.tw:=bD.twX F (bE.tw F)
def bD.lh13 (fS:abQ) (ks:abT) (n:Nat) (tm:Tm) (H:Hp):OA:=match ks,tm 0,tm 1,tm 5 with
 | [],(.sl bh),(.int .i64 aS),(.int .i64 aY)=>bD.l13 F fS n bh aS aY H
 | _,_,_,_=>none
def bD.lh (fS:abQ) (p:Nat) (ks:abT) (n:Nat) (tm:Tm) (H:Hp):OA:=bif p.beq 13 then bD.lh13 F fS ks n tm H else (none)
def bD.cs (F:Nat) (fS:abQ):Cs:=[(76,mk0 fS)]
theorem bD.loops (fS:abQ):LO (aT (bD.cs F fS)) aC (bD.lh F fS) F Try.f24:=
 (ae.rt (ae.lt (ae.rt (ae.block (ae.la (λn tm H r h=>by change bD.lh13 F fS [] n tm H=_ at h;unfold bD.lh13 at h;split at h;have e:bF tm [(0,_),(1,_),(5,_)]:=⟨‹_›,‹_›,‹_›,trivial⟩;obtain _ | k13:=n;cases h;exact ⟨_,rfl,by rw [<- bI e];exact Eq.trans (by kernel_rfl) h⟩;cases h) λk13=>ae.no)))))
theorem bD.eqX (fS:abQ) (ac:Sl) (aq:Int) (H:Hp):EX (aT (bD.cs F fS)) aC (bD.lh F fS) F Try.f24 [(.sl ac),(.int .i64 aq)] H=bD.twX F fS ac aq H:=by kernel_rfl
theorem bD.k:Ok Try.prog 24 (mk0 (bD.tw F)):=by
 intro args H v H' h
 unfold mk0 at h
 split at h
 ·exact okT (TB:=aC) Try.func24 (aU (bE.k F) bo) (bD.loops F (bE.tw F)) ((bD.eqX F (bE.tw F) _ _ H).trans h) (by kernel_rfl)
 ·cases h
def dI.twX (F:Nat) (rK:abY) (lf:abQ) (rL:abQ) (np:abQ) (mn:ab8) (rM:ace) (rN:abY) (rO:abQ) (nq:abQ) (ac:Sl) (ag:Int) (H:Hp):OA:=(Hp.new H [(.sl ac),(.int .i64 ag)]).bind λH3=>(Hp.ldSl H3 H.length 0).bind λs4=>(Hp.ldI H3 .i64 H.length (0+1)).bind λn5=>(rK s4 n5 1048576 H3).bind λr6=>((r6.1).asI .i64).bind λn7=>(bif (decide (n7<0)) then (some ((.bool true),r6.2)) else ((Hp.ldSl r6.2 H.length 0).bind λs8=>(Hp.ldI r6.2 .i64 H.length (0+1)).bind λn9=>(lf s8 n9 r6.2).bind λr10=>((r10.1).asAgg 2).bind λl11=>(l11[0]?).bind λv12=>((v12).asSl).bind λs13=>(l11[1]?).bind λv14=>((v14).asI .i64).bind λn15=>(rL s13 n15 r10.2).bind λr16=>((r16.1).asTup 2).bind λl17=>(l17[0]?).bind λv18=>((v18).asSl).bind λs19=>(l17[1]?).bind λv20=>((v20).asB).bind λb21=>(Hp.ldSl r16.2 H.length 0).bind λs22=>(Hp.ldI r16.2 .i64 H.length (0+1)).bind λn23=>(lf s22 n23 r16.2).bind λr24=>((r24.1).asAgg 2).bind λl25=>(l25[0]?).bind λv26=>((v26).asSl).bind λs27=>(l25[1]?).bind λv28=>((v28).asI .i64).bind λn29=>(Hp.new r24.2 [.sl ⟨none,0,.ex 0⟩,.int .i64 0]).bind λH30=>(Hp.st H30 r24.2.length 0 (.sl s27)).bind λH31=>(Hp.st H31 r24.2.length (0+1) (.int .i64 n29)).bind λH32=>(Hp.ldSl H32 r24.2.length 0).bind λs33=>(Hp.ldI H32 .i64 r24.2.length (0+1)).bind λn34=>(np s33 n34 H32).bind λr35=>((r35.1).asTup 2).bind λl36=>(l36[0]?).bind λv37=>((v37).asSl).bind λs38=>(l36[1]?).bind λv39=>((v39).asB).bind λb40=>(mn s38 s19 r35.2).bind λr41=>((r41.1).asB).bind λb42=>(bif (!b42) then (some ((.bool false),r41.2)) else ((bif (!(b40==b21)) then (some ((.bool false),r41.2)) else ((Hp.ldSl r41.2 r24.2.length 0).bind λs43=>(Hp.ldI r41.2 .i64 r24.2.length (0+1)).bind λn44=>(Hp.ldSl r41.2 H.length 0).bind λs45=>(Hp.ldI r41.2 .i64 H.length (0+1)).bind λn46=>(lf s45 n46 r41.2).bind λr47=>((r47.1).asAgg 2).bind λl48=>(l48[0]?).bind λv49=>((v49).asSl).bind λs50=>(l48[1]?).bind λv51=>((v51).asI .i64).bind λn52=>(if aV r41.2 r47.2 then ((rM s43 n44 s50 n52 r47.2).bind λr53=>((r53.1).asB).bind λb54=>(bif (!b54) then (some ((.bool false),r53.2)) else ((Hp.ldSl r53.2 r24.2.length 0).bind λs55=>(Hp.ldI r53.2 .i64 r24.2.length (0+1)).bind λn56=>(rN s55 n56 1 r53.2).bind λr57=>((r57.1).asI .i64).bind λn58=>(bif (decide (n58<0)) then (some ((.bool false),r57.2)) else ((mn s38 s19 r57.2).bind λr59=>((r59.1).asB).bind λb60=>(bif (!b60) then (some ((.bool false),r59.2)) else ((bif (!(b40==b21)) then (some ((.bool false),r59.2)) else ((rO s38 1 r59.2).bind λr61=>((r61.1).asI .i64).bind λn62=>(nq s38 1 r61.2).bind λr63=>((r63.1).asI .i64).bind λn64=>(bif (decide (n64<0)) then (some ((.bool false),r63.2)) else ((bif (n64 != n62) then (some ((.bool false),r63.2)) else ((Hp.ldSl r63.2 H.length 0).bind λs65=>(Hp.ldI r63.2 .i64 H.length (0+1)).bind λn66=>(lf s65 n66 r63.2).bind λr67=>((r67.1).asAgg 2).bind λl68=>(l68[0]?).bind λv69=>((v69).asSl).bind λs70=>(l68[1]?).bind λv71=>((v71).asI .i64).bind λn72=>(np s70 n72 r67.2).bind λr73=>((r73.1).asTup 2).bind λl74=>(l74[0]?).bind λv75=>((v75).asSl).bind λs76=>(l74[1]?).bind λv77=>((v77).asB).bind λb78=>(mn s76 s19 r73.2).bind λr79=>((r79.1).asB).bind λb80=>(bif (!b80) then (some ((.bool false),r79.2)) else ((bif (!(b78==b21)) then (some ((.bool false),r79.2)) else ((nq s38 1 r79.2).bind λr81=>((r81.1).asI .i64).bind λn82=>(bif (decide (n82<0)) then (some ((.bool false),r81.2)) else ((bif (n82 != n62) then (some ((.bool false),r81.2)) else (some ((.bool true),r81.2)))))))))))))))))))))) else none)))))))
def dI.tw:=dI.twX F (dV.tw F) (dj.tw F) (es.tw F) (d_.tw F) (bq.tw F) (ew.tw F) (ey.tw F) (ck.tw F) (bD.tw F)
def dI.pn:Nat->List Nat:=cS [(10,[3])]
def dI.tb:Nat->List (List Nat):=cS [(10,[[],[],[1],[0,1,2],[0,1,2,3]])]
def dI.cs (F:Nat) (rK:abY) (lf:abQ) (rL:abQ) (np:abQ) (mn:ab8) (rM:ace) (rN:abY) (rO:abQ) (nq:abQ):Cs:=[(11,mk1 rK),(13,mk4 lf),(20,mk4 rL),(21,mk4 np),(22,mk20 mn),(16,mk22 rM),(17,mk1 rN),(23,mk0 rO),(24,mk0 nq)]
theorem dI.eqX (rK:abY) (lf:abQ) (rL:abQ) (np:abQ) (mn:ab8) (rM:ace) (rN:abY) (rO:abQ) (nq:abQ) (ac:Sl) (ag:Int) (H:Hp):EX (aT (dI.cs F rK lf rL np mn rM rN rO nq)) dI.pn lh0 F Try.f4 [(.agg [(.sl ac),(.int .i64 ag)])] H=dI.twX F rK lf rL np mn rM rN rO nq ac ag H:=by kernel_rfl
theorem dI.k:Ok Try.prog 4 (mk4 (dI.tw F)):=by
 intro args H v H' h
 unfold mk4 at h
 split at h
 ·exact okT (TB:=dI.tb) Try.func4 (aU (dV.k F) (aU (dj.k F) (aU (es.k F) (aU (d_.k F) (aU (bq.k F) (aU (ew.k F) (aU (ey.k F) (aU (ck.k F) (aU (bD.k F) bo))))))))) ae.no ((dI.eqX F (dV.tw F) (dj.tw F) (es.tw F) (d_.tw F) (bq.tw F) (ew.tw F) (ey.tw F) (ck.tw F) (bD.tw F) _ _ H).trans h) (by kernel_rfl)
 ·cases h
theorem dI.T {F:Nat} {ac:Sl} {ag:Int} {H:Hp} {v:AV} {H':Hp} (h:dI.tw F ac ag H=some (v,H')):Go.AE.T Try.prog 4 [(.agg [(.sl ac),(.int .i64 ag)])] H v H':=dI.k F _ _ _ _ ((mk4_E (dI.tw F) ac ag H).trans h)
end
end Go.Proofs.Ytodfdhnlhiaohaa.AE
