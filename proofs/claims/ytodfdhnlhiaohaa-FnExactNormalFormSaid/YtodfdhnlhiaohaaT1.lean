import Derived.Test.YtodfdhnlhiaohaaTab1
set_option linter.unusedVariables false
set_option linter.unusedSimpArgs false
namespace Go.Proofs.Ytodfdhnlhiaohaa.AE
open Go Go.AE Go.Proofs IntKind
variable (F:Nat)
set_option linter.unusedVariables false
set_option maxHeartbeats 4000000
set_option maxRecDepth 100000
noncomputable section
def dK.twX (F:Nat) (aa:Sl) (ag:Int) (H:Hp):OA:=(bif (decide ((wrap .i64 (ag - (aa.n:Int)))<0)) then (some ((.int .i64 (-1)),H)) else (some ((.int .i64 (wrap .i64 (ag - (aa.n:Int)))),H)))
def dK.tw:=dK.twX F
def mk0 (g:A_) (args:Bd) (H:Hp):OA:=match args with
 | [(.sl aa),(.int .i64 ag)]=>g aa ag H
 | _=>none
theorem mk0_E (g:A_) (aa:Sl) (ag:Int) (H:Hp):mk0 g [(.sl aa),(.int .i64 ag)] H=g aa ag H:=rfl
theorem dK.k:Ok Try.prog 93 (mk0 (dK.tw F)):=by
 intro args H v H' h
 unfold mk0 at h
 split at h
 ·exact ok0 Try.func93 (Eq.trans (by kernel_rfl) h) (by kernel_rfl) (by kernel_rfl)
 ·cases h
def cU.twX (F:Nat) (io:A_) (aa:Int) (aq:Sl) (ar:Int) (H:Hp):OA:=(Hp.new H [(.int .i64 aa),(.sl aq)]).bind λH4=>(Hp.ldSl H4 H.length 1).bind λs5=>(io s5 ar H4).bind λr6=>((r6.1).asI .i64).bind λn7=>(bif (decide (n7<0)) then (some ((.int .i64 (-1)),r6.2)) else (some ((.int .i64 n7),r6.2)))
def cU.tw:=cU.twX F (dK.tw F)
def mk1 (g:Bi) (args:Bd) (H:Hp):OA:=match args with
 | [(.agg [(.int .i64 aa),(.sl aq)]),(.int .i64 ar)]=>g aa aq ar H
 | _=>none
theorem mk1_E (g:Bi) (aa:Int) (aq:Sl) (ar:Int) (H:Hp):mk1 g [(.agg [(.int .i64 aa),(.sl aq)]),(.int .i64 ar)] H=g aa aq ar H:=rfl
def cU.cs (F:Nat) (io:A_):Cs:=[(93,mk0 io)]
theorem cU.eqX (io:A_) (aa:Int) (aq:Sl) (ar:Int) (H:Hp):EX (aT (cU.cs F io)) aC lh0 F Try.f32 [(.agg [(.int .i64 aa),(.sl aq)]),(.int .i64 ar)] H=cU.twX F io aa aq ar H:=by kernel_rfl
theorem cU.k:Ok Try.prog 32 (mk1 (cU.tw F)):=by
 intro args H v H' h
 unfold mk1 at h
 split at h
 ·exact okT (TB:=aC) Try.func32 (bc (dK.k F) bI) ac.no ((cU.eqX F (dK.tw F) _ _ _ H).trans h) (by kernel_rfl)
 ·cases h
def bC.l29 (F:Nat) :Nat->Sl->Sl->Int->Hp->OA
 | 0,_,_,_,_=>none
 | bX+1,aw,bG,aL,H7=>(bif (decide (aL<(aw.n:Int))) then ((Sl.idx aw aL 1).bind λp12=>(Hp.ldI H7 .i64 p12.1 p12.2).bind λn13=>(Sl.idx bG aL 1).bind λp14=>(Hp.st H7 p14.1 p14.2 (.int .i64 n13)).bind λH15=>bC.l29 F bX aw bG (wrap .i64 (aL+1)) H15) else (some ((.sl bG),H7)))
def bC.twX (aa:Sl) (H:Hp):OA:=(Hp.mk H [.int .i64 0] 8 (aa.n:Int) (aa.n:Int)).bind λm2=>bC.l29 F F aa m2.1 0 m2.2
def bC.tw:=bC.twX F
def bC.lh29 (ks:Bc) (n:Nat) (tm:Tm) (H:Hp):OA:=match ks,tm 0,tm 3,tm 4 with
 | [],(.sl aw),(.sl bG),(.int .i64 aL)=>bC.l29 F n aw bG aL H
 | _,_,_,_=>none
def bC.lh (p:Nat) (ks:Bc) (n:Nat) (tm:Tm) (H:Hp):OA:=bif p.beq 29 then bC.lh29 F ks n tm H else (none)
def mk2 (g:AY) (args:Bd) (H:Hp):OA:=match args with
 | [(.sl aa)]=>g aa H
 | _=>none
theorem mk2_E (g:AY) (aa:Sl) (H:Hp):mk2 g [(.sl aa)] H=g aa H:=rfl
theorem bC.loops:LO (aT []) aC (bC.lh F) F Try.f95:=
 (ac.rt (ac.rt (ac.lt (ac.rt (ac.block (ac.la (λn tm H r h=>by change bC.lh29 F [] n tm H=_ at h;unfold bC.lh29 at h;split at h;have e:ci tm [(0,_),(3,_),(4,_)]:=⟨‹_›,‹_›,‹_›,trivial⟩;obtain _ | k29:=n;cases h;exact ⟨_,rfl,by rw [<- cj e];exact Eq.trans (by kernel_rfl) h⟩;cases h) λk29=>ac.no))))))
theorem bC.k:Ok Try.prog 95 (mk2 (bC.tw F)):=by
 intro args H v H' h
 unfold mk2 at h
 split at h
 ·exact okT (PN:=aC) (LH:=(bC.lh F)) (F:=F) (TB:=aC) Try.func95 bI (bC.loops F) (Eq.trans (by kernel_rfl) h) (by kernel_rfl)
 ·cases h
def cv.twX (F:Nat) (ip:AY) (aa:Int) (aq:Sl) (H:Hp):OA:=(Hp.new H [(.int .i64 aa),(.sl aq)]).bind λH3=>(Hp.new H3 [.int .i64 0,.sl ⟨none,0,.ex 0⟩]).bind λH4=>(Hp.new H4 [.int .i64 0,.sl ⟨none,0,.ex 0⟩]).bind λH5=>(Hp.ldI H5 .i64 H.length 0).bind λn6=>(Hp.st H5 H4.length 0 (.int .i64 n6)).bind λH7=>(Hp.ldSl H7 H.length 1).bind λs8=>(ip s8 H7).bind λr9=>((r9.1).asSl).bind λs10=>(Hp.st r9.2 H4.length 1 (.sl s10)).bind λH11=>(Hp.ldI H11 .i64 H4.length 0).bind λn12=>(Hp.ldSl H11 H4.length (0+1)).bind λs13=>(Hp.st H11 H3.length 0 (.int .i64 n12)).bind λH14=>(Hp.st H14 H3.length (0+1) (.sl s13)).bind λH15=>(Hp.ldI H15 .i64 H3.length 0).bind λn16=>(Hp.ldSl H15 H3.length (0+1)).bind λs17=>some ((.agg [(.int .i64 n16),(.sl s17)]),H15)
def cv.tw:=cv.twX F (bC.tw F)
def mk3 (g:Bf) (args:Bd) (H:Hp):OA:=match args with
 | [(.agg [(.int .i64 aa),(.sl aq)])]=>g aa aq H
 | _=>none
theorem mk3_E (g:Bf) (aa:Int) (aq:Sl) (H:Hp):mk3 g [(.agg [(.int .i64 aa),(.sl aq)])] H=g aa aq H:=rfl
def cv.cs (F:Nat) (ip:AY):Cs:=[(95,mk2 ip)]
theorem cv.eqX (ip:AY) (aa:Int) (aq:Sl) (H:Hp):EX (aT (cv.cs F ip)) aC lh0 F Try.f34 [(.agg [(.int .i64 aa),(.sl aq)])] H=cv.twX F ip aa aq H:=by kernel_rfl
theorem cv.k:Ok Try.prog 34 (mk3 (cv.tw F)):=by
 intro args H v H' h
 unfold mk3 at h
 split at h
 ·exact okT (TB:=aC) Try.func34 (bc (bC.k F) bI) ac.no ((cv.eqX F (bC.tw F) _ _ H).trans h) (by kernel_rfl)
 ·cases h
def cB.twX (F:Nat) (aa:Int) (ag:Int) (dR:Int) (H:Hp):OA:=(bif (decide (aa>=ag)) then (some ((.bool (decide (aa<=dR))),H)) else (some ((.bool false),H)))
def cB.tw:=cB.twX F
def mk4 (g:Bg) (args:Bd) (H:Hp):OA:=match args with
 | [(.int .i64 aa),(.int .i64 ag),(.int .i64 dR)]=>g aa ag dR H
 | _=>none
theorem mk4_E (g:Bg) (aa:Int) (ag:Int) (dR:Int) (H:Hp):mk4 g [(.int .i64 aa),(.int .i64 ag),(.int .i64 dR)] H=g aa ag dR H:=rfl
theorem cB.k:Ok Try.prog 106 (mk4 (cB.tw F)):=by
 intro args H v H' h
 unfold mk4 at h
 split at h
 ·exact ok0 Try.func106 (Eq.trans (by kernel_rfl) h) (by kernel_rfl) (by kernel_rfl)
 ·cases h
def cI.twX (F:Nat) (cV:Bg) (aa:Int) (ag:Int) (H:Hp):OA:=(bif (aa != 0) then ((cV aa (wrap .i64 (1 - ag)) (wrap .i64 (ag - 1)) H).bind λr3=>((r3.1).asB).bind λb4=>some ((.bool b4),r3.2)) else (some ((.bool false),H)))
def cI.tw:=cI.twX F (cB.tw F)
def mk5 (g:Bj) (args:Bd) (H:Hp):OA:=match args with
 | [(.int .i64 aa),(.int .i64 ag)]=>g aa ag H
 | _=>none
theorem mk5_E (g:Bj) (aa:Int) (ag:Int) (H:Hp):mk5 g [(.int .i64 aa),(.int .i64 ag)] H=g aa ag H:=rfl
def cI.cs (F:Nat) (cV:Bg):Cs:=[(106,mk4 cV)]
theorem cI.eqX (cV:Bg) (aa:Int) (ag:Int) (H:Hp):EX (aT (cI.cs F cV)) aC lh0 F Try.f111 [(.int .i64 aa),(.int .i64 ag)] H=cI.twX F cV aa ag H:=by kernel_rfl
theorem cI.k:Ok Try.prog 111 (mk5 (cI.tw F)):=by
 intro args H v H' h
 unfold mk5 at h
 split at h
 ·exact okT (TB:=aC) Try.func111 (bc (cB.k F) bI) ac.no ((cI.eqX F (cB.tw F) _ _ H).trans h) (by kernel_rfl)
 ·cases h
def aY.l29 (F:Nat) (cV:Bg) (dS:Bj) :Nat->Nat->Nat->Int->Hp->OA
 | 0,_,_,_,_=>none
 | bX+1,du,iq,dL,H15=>(Hp.ldSl H15 du (iq+1)).bind λs23=>(bif (decide (dL<(s23.n:Int))) then ((Hp.ldSl H15 du (iq+1)).bind λs24=>(Sl.idx s24 dL 1).bind λp25=>(Hp.ldI H15 .i64 p25.1 p25.2).bind λn26=>(Hp.ldI H15 .i64 du iq).bind λn27=>(dS n26 n27 H15).bind λr28=>((r28.1).asB).bind λb29=>(bif (!b29) then (some ((.bool false),r28.2)) else (aY.l29 F cV dS bX du iq (wrap .i64 (dL+1)) r28.2))) else (some ((.bool true),H15)))
termination_by structural n=>n
def aY.twX (cV:Bg) (dS:Bj) (aa:Int) (aq:Sl) (H:Hp):OA:=(Hp.new H [(.int .i64 aa),(.sl aq)]).bind λH3=>(Hp.ldI H3 .i64 H.length 0).bind λn4=>(cV n4 1 6 H3).bind λr5=>((r5.1).asB).bind λb6=>(bif (!b6) then (some ((.bool false),r5.2)) else ((Hp.ldSl r5.2 H.length 1).bind λs7=>(bif (decide ((s7.n:Int)>24)) then (some ((.bool false),r5.2)) else (aY.l29 F cV dS F H.length 0 0 r5.2))))
def aY.tw:=aY.twX F (cB.tw F) (cI.tw F)
def aY.lh29 (cV:Bg) (dS:Bj) (ks:Bc) (n:Nat) (tm:Tm) (H:Hp):OA:=match ks,tm 1,tm 3 with
 | [],(.ptr du iq),(.int .i64 dL)=>aY.l29 F cV dS n du iq dL H
 | _,_,_=>none
def aY.lh (cV:Bg) (dS:Bj) (p:Nat) (ks:Bc) (n:Nat) (tm:Tm) (H:Hp):OA:=bif p.beq 29 then aY.lh29 F cV dS ks n tm H else (none)
def aY.pn:Nat->List Nat:=dt [(6,[7])]
def aY.tb:Nat->List (List Nat):=dt [(6,[[],[0],[],[0,1,2],[0,1,2,3],[],[5],[0,1,2,3,4,5,6],[0,1,2,3,4,5,6,7]])]
def aY.cs (F:Nat) (cV:Bg) (dS:Bj):Cs:=[(106,mk4 cV),(111,mk5 dS)]
theorem aY.loops (cV:Bg) (dS:Bj):LO (aT (aY.cs F cV dS)) aY.pn (aY.lh F cV dS) F Try.f49:=
 (ac.rt (ac.rt (ac.lt (ac.rt (ac.block (ac.la (λn tm H r h=>by change aY.lh29 F cV dS [] n tm H=_ at h;unfold aY.lh29 at h;split at h;have e:ci tm [(1,_),(3,_)]:=⟨‹_›,‹_›,trivial⟩;obtain _ | k29:=n;cases h;exact ⟨_,rfl,by rw [<- cj e];exact Eq.trans (by kernel_rfl) h⟩;cases h) λk29=>ac.no))))))
theorem aY.eqX (cV:Bg) (dS:Bj) (aa:Int) (aq:Sl) (H:Hp):EX (aT (aY.cs F cV dS)) aY.pn (aY.lh F cV dS) F Try.f49 [(.agg [(.int .i64 aa),(.sl aq)])] H=aY.twX F cV dS aa aq H:=by kernel_rfl
theorem aY.k:Ok Try.prog 49 (mk3 (aY.tw F)):=by
 intro args H v H' h
 unfold mk3 at h
 split at h
 ·exact okT (TB:=aY.tb) Try.func49 (bc (cB.k F) (bc (cI.k F) bI)) (aY.loops F (cB.tw F) (cI.tw F)) ((aY.eqX F (cB.tw F) (cI.tw F) _ _ H).trans h) (by kernel_rfl)
 ·cases h
def aW.l29 (F:Nat) :Nat->Int->Sl->Int->Hp->OA
 | 0,_,_,_,_=>none
 | bX+1,aw,bG,aL,H7=>(bif (decide (aL<aw)) then ((Hp.new H7 [(.int .i64 aL)]).bind λH11=>(Sl.row H11 (⟨some (H7.length,0),1,.ex 1⟩:Sl) 1).bind λxs13=>(Hp.app H11 1 8 bG (⟨some (H7.length,0),1,.ex 1⟩:Sl).n xs13).bind λa12=>aW.l29 F bX aw a12.1 (wrap .i64 (aL+1)) a12.2) else (some ((.sl bG),H7)))
def aW.twX (aa:Int) (H:Hp):OA:=(Hp.new H []).bind λH2=>aW.l29 F F aa (⟨some (H.length,0),0,.ex 0⟩:Sl) 0 H2
def aW.tw:=aW.twX F
def aW.lh29 (ks:Bc) (n:Nat) (tm:Tm) (H:Hp):OA:=match ks,tm 0,tm 3,tm 4 with
 | [],(.int .i64 aw),(.sl bG),(.int .i64 aL)=>aW.l29 F n aw bG aL H
 | _,_,_,_=>none
def aW.lh (p:Nat) (ks:Bc) (n:Nat) (tm:Tm) (H:Hp):OA:=bif p.beq 29 then aW.lh29 F ks n tm H else (none)
def mk6 (g:AX) (args:Bd) (H:Hp):OA:=match args with
 | [(.int .i64 aa)]=>g aa H
 | _=>none
theorem mk6_E (g:AX) (aa:Int) (H:Hp):mk6 g [(.int .i64 aa)] H=g aa H:=rfl
theorem aW.loops:LO (aT []) aC (aW.lh F) F Try.f145:=
 (ac.rt (ac.rt (ac.lt (ac.rt (ac.block (ac.la (λn tm H r h=>by change aW.lh29 F [] n tm H=_ at h;unfold aW.lh29 at h;split at h;have e:ci tm [(0,_),(3,_),(4,_)]:=⟨‹_›,‹_›,‹_›,trivial⟩;obtain _ | k29:=n;cases h;exact ⟨_,rfl,by rw [<- cj e];exact Eq.trans (by kernel_rfl) h⟩;cases h) λk29=>ac.no))))))
theorem aW.k:Ok Try.prog 145 (mk6 (aW.tw F)):=by
 intro args H v H' h
 unfold mk6 at h
 split at h
 ·exact okT (PN:=aC) (LH:=(aW.lh F)) (F:=F) (TB:=aC) Try.func145 bI (aW.loops F) (Eq.trans (by kernel_rfl) h) (by kernel_rfl)
 ·cases h
def ap.j4 (F:Nat) (C29_:Bp) (uH:Sl) (ir:Int) (uI:Sl) (iu:Int) (H65:Hp):OA:=C29_ uH ir uI (wrap .i64 (iu+1)) H65
def ap.j5 (F:Nat) (C29_:Bp) (uJ:Sl) (iw:Int) (uK:Sl) (iy:Int) (H88:Hp):OA:=C29_ uJ iw uK (wrap .i64 (iy+1)) H88
def ap.j6 (C29_:Bp) (uL:Sl) (iz:Int) (uM:Sl) (iA:Int) (H78:Hp):OA:=ap.j5 F C29_ uL iz uM iA H78
def ap.l29 (F:Nat) :Nat->Sl->Int->Sl->Int->Hp->OA
 | 0,_,_,_,_,_=>none
 | bX+1,dU,cW,aM,dM,H9=>(bif (decide (dM<(dU.n:Int))) then ((Sl.idx dU dM 1).bind λp52=>(Hp.ldI H9 .i64 p52.1 p52.2).bind λn53=>(bif (n53==(wrap .i64 (cW - 1))) then ((Hp.new H9 [(.int .i64 cW)]).bind λH54=>(Sl.row H54 (⟨some (H9.length,0),1,.ex 1⟩:Sl) 1).bind λxs56=>(Hp.app H54 1 8 aM (⟨some (H9.length,0),1,.ex 1⟩:Sl).n xs56).bind λa55=>ap.j4 F (ap.l29 F bX) dU cW a55.1 dM a55.2) else ((bif (n53==cW) then ((Hp.new H9 [(.int .i64 (wrap .i64 (cW - 1)))]).bind λH66=>(Sl.row H66 (⟨some (H9.length,0),1,.ex 1⟩:Sl) 1).bind λxs68=>(Hp.app H66 1 8 aM (⟨some (H9.length,0),1,.ex 1⟩:Sl).n xs68).bind λa67=>ap.j6 F (ap.l29 F bX) dU cW a67.1 dM a67.2) else ((Sl.idx dU dM 1).bind λp89=>(Hp.ldI H9 .i64 p89.1 p89.2).bind λn90=>(Hp.new H9 [(.int .i64 n90)]).bind λH91=>(Sl.row H91 (⟨some (H9.length,0),1,.ex 1⟩:Sl) 1).bind λxs93=>(Hp.app H91 1 8 aM (⟨some (H9.length,0),1,.ex 1⟩:Sl).n xs93).bind λa92=>ap.j6 F (ap.l29 F bX) dU cW a92.1 dM a92.2))))) else (some ((.sl aM),H9)))
def ap.twX (aa:Sl) (ag:Int) (H:Hp):OA:=(Hp.new H []).bind λH3=>ap.l29 F F aa ag (⟨some (H.length,0),0,.ex 0⟩:Sl) 0 H3
def ap.tw:=ap.twX F
def ap.lh29 (ks:Bc) (n:Nat) (tm:Tm) (H:Hp):OA:=match ks,tm 0,tm 1,tm 5,tm 6 with
 | [],(.sl dU),(.int .i64 cW),(.sl aM),(.int .i64 dM)=>ap.l29 F n dU cW aM dM H
 | _,_,_,_,_=>none
def ap.lh (p:Nat) (ks:Bc) (n:Nat) (tm:Tm) (H:Hp):OA:=bif p.beq 29 then ap.lh29 F ks n tm H else (none)
theorem ap.loops:LO (aT []) aC (ap.lh F) F Try.f144:=
 (ac.rt (ac.rt (ac.lt (ac.rt (ac.block (ac.la (λn tm H r h=>by change ap.lh29 F [] n tm H=_ at h;unfold ap.lh29 at h;split at h;have e:ci tm [(0,_),(1,_),(5,_),(6,_)]:=⟨‹_›,‹_›,‹_›,‹_›,trivial⟩;obtain _ | k29:=n;cases h;exact ⟨_,rfl,by rw [<- cj e];exact Eq.trans (by kernel_rfl) h⟩;cases h) λk29=>ac.no))))))
theorem ap.k:Ok Try.prog 144 (mk0 (ap.tw F)):=by
 intro args H v H' h
 unfold mk0 at h
 split at h
 ·exact okT (PN:=aC) (LH:=(ap.lh F)) (F:=F) (TB:=aC) Try.func144 bI (ap.loops F) (Eq.trans (by kernel_rfl) h) (by kernel_rfl)
 ·cases h
def aZ.l61 (F:Nat) :Nat->Sl->Int->Sl->Int->Hp->OA
 | 0,_,_,_,_,_=>none
 | ng+1,aw,bG,aL,aM,H8=>(bif (decide (aM<bG)) then ((Sl.idx aw (wrap .i64 ((wrap .i64 (bG - 1)) - aM)) 1).bind λp14=>(Hp.ldI H8 .i64 p14.1 p14.2).bind λn15=>(Hp.new H8 [(.int .i64 (wrap .i64 ((wrap .i64 (bG - 1)) - n15)))]).bind λH16=>(Sl.row H16 (⟨some (H8.length,0),1,.ex 1⟩:Sl) 1).bind λxs18=>(Hp.app H16 1 8 aL (⟨some (H8.length,0),1,.ex 1⟩:Sl).n xs18).bind λa17=>aZ.l61 F ng aw bG a17.1 (wrap .i64 (aM+1)) a17.2) else (some ((.sl aL),H8)))
def aZ.twX (aa:Sl) (H:Hp):OA:=(Hp.new H []).bind λH2=>aZ.l61 F F aa (aa.n:Int) (⟨some (H.length,0),0,.ex 0⟩:Sl) 0 H2
def aZ.tw:=aZ.twX F
def aZ.lh61 (ks:Bc) (n:Nat) (tm:Tm) (H:Hp):OA:=match ks,tm 0,tm 3,tm 4,tm 5 with
 | [],(.sl aw),(.int .i64 bG),(.sl aL),(.int .i64 aM)=>aZ.l61 F n aw bG aL aM H
 | _,_,_,_,_=>none
def aZ.lh (p:Nat) (ks:Bc) (n:Nat) (tm:Tm) (H:Hp):OA:=bif p.beq 61 then aZ.lh61 F ks n tm H else (none)
theorem aZ.loops:LO (aT []) aC (aZ.lh F) F Try.f146:=
 (ac.rt (ac.rt (ac.rt (ac.lt (ac.rt (ac.block (ac.la (λn tm H r h=>by change aZ.lh61 F [] n tm H=_ at h;unfold aZ.lh61 at h;split at h;have e:ci tm [(0,_),(3,_),(4,_),(5,_)]:=⟨‹_›,‹_›,‹_›,‹_›,trivial⟩;obtain _ | k61:=n;cases h;exact ⟨_,rfl,by rw [<- cj e];exact Eq.trans (by kernel_rfl) h⟩;cases h) λk61=>ac.no)))))))
theorem aZ.k:Ok Try.prog 146 (mk2 (aZ.tw F)):=by
 intro args H v H' h
 unfold mk2 at h
 split at h
 ·exact okT (PN:=aC) (LH:=(aZ.lh F)) (F:=F) (TB:=aC) Try.func146 bI (aZ.loops F) (Eq.trans (by kernel_rfl) h) (by kernel_rfl)
 ·cases h
def aX.l29 (F:Nat) :Nat->Int->Sl->Int->Hp->OA
 | 0,_,_,_,_=>none
 | bX+1,aw,bG,aL,H7=>(bif (decide (aL<aw)) then ((Hp.new H7 [(.int .i64 (wrap .i64 ((wrap .i64 (aw - 1)) - aL)))]).bind λH11=>(Sl.row H11 (⟨some (H7.length,0),1,.ex 1⟩:Sl) 1).bind λxs13=>(Hp.app H11 1 8 bG (⟨some (H7.length,0),1,.ex 1⟩:Sl).n xs13).bind λa12=>aX.l29 F bX aw a12.1 (wrap .i64 (aL+1)) a12.2) else (some ((.sl bG),H7)))
def aX.twX (aa:Int) (H:Hp):OA:=(Hp.new H []).bind λH2=>aX.l29 F F aa (⟨some (H.length,0),0,.ex 0⟩:Sl) 0 H2
def aX.tw:=aX.twX F
def aX.lh29 (ks:Bc) (n:Nat) (tm:Tm) (H:Hp):OA:=match ks,tm 0,tm 3,tm 4 with
 | [],(.int .i64 aw),(.sl bG),(.int .i64 aL)=>aX.l29 F n aw bG aL H
 | _,_,_,_=>none
def aX.lh (p:Nat) (ks:Bc) (n:Nat) (tm:Tm) (H:Hp):OA:=bif p.beq 29 then aX.lh29 F ks n tm H else (none)
theorem aX.loops:LO (aT []) aC (aX.lh F) F Try.f147:=
 (ac.rt (ac.rt (ac.lt (ac.rt (ac.block (ac.la (λn tm H r h=>by change aX.lh29 F [] n tm H=_ at h;unfold aX.lh29 at h;split at h;have e:ci tm [(0,_),(3,_),(4,_)]:=⟨‹_›,‹_›,‹_›,trivial⟩;obtain _ | k29:=n;cases h;exact ⟨_,rfl,by rw [<- cj e];exact Eq.trans (by kernel_rfl) h⟩;cases h) λk29=>ac.no))))))
theorem aX.k:Ok Try.prog 147 (mk6 (aX.tw F)):=by
 intro args H v H' h
 unfold mk6 at h
 split at h
 ·exact okT (PN:=aC) (LH:=(aX.lh F)) (F:=F) (TB:=aC) Try.func147 bI (aX.loops F) (Eq.trans (by kernel_rfl) h) (by kernel_rfl)
 ·cases h
def bk.l29 (F:Nat) :Nat->Sl->Sl->Int->Hp->OA
 | 0,_,_,_,_=>none
 | bX+1,aw,bG,aL,H7=>(bif (decide (aL<(aw.n:Int))) then ((Sl.idx aw aL 1).bind λp12=>(Hp.ldI H7 .i64 p12.1 p12.2).bind λn13=>(Sl.idx bG n13 1).bind λp14=>(Hp.st H7 p14.1 p14.2 (.int .i64 aL)).bind λH15=>bk.l29 F bX aw bG (wrap .i64 (aL+1)) H15) else (some ((.sl bG),H7)))
def bk.twX (aa:Sl) (H:Hp):OA:=(Hp.mk H [.int .i64 0] 8 (aa.n:Int) (aa.n:Int)).bind λm2=>bk.l29 F F aa m2.1 0 m2.2
def bk.tw:=bk.twX F
def bk.lh29 (ks:Bc) (n:Nat) (tm:Tm) (H:Hp):OA:=match ks,tm 0,tm 3,tm 4 with
 | [],(.sl aw),(.sl bG),(.int .i64 aL)=>bk.l29 F n aw bG aL H
 | _,_,_,_=>none
def bk.lh (p:Nat) (ks:Bc) (n:Nat) (tm:Tm) (H:Hp):OA:=bif p.beq 29 then bk.lh29 F ks n tm H else (none)
theorem bk.loops:LO (aT []) aC (bk.lh F) F Try.f208:=
 (ac.rt (ac.rt (ac.lt (ac.rt (ac.block (ac.la (λn tm H r h=>by change bk.lh29 F [] n tm H=_ at h;unfold bk.lh29 at h;split at h;have e:ci tm [(0,_),(3,_),(4,_)]:=⟨‹_›,‹_›,‹_›,trivial⟩;obtain _ | k29:=n;cases h;exact ⟨_,rfl,by rw [<- cj e];exact Eq.trans (by kernel_rfl) h⟩;cases h) λk29=>ac.no))))))
theorem bk.k:Ok Try.prog 208 (mk2 (bk.tw F)):=by
 intro args H v H' h
 unfold mk2 at h
 split at h
 ·exact okT (PN:=aC) (LH:=(bk.lh F)) (F:=F) (TB:=aC) Try.func208 bI (bk.loops F) (Eq.trans (by kernel_rfl) h) (by kernel_rfl)
 ·cases h
def dr.twX (F:Nat) (aa:Sl) (ag:Int) (H:Hp):OA:=(Hp.new H []).bind λH3=>(Sl.row H3 aa 1).bind λxs5=>(Hp.app H3 1 8 (⟨some (H.length,0),0,.ex 0⟩:Sl) aa.n xs5).bind λa4=>(Sl.idx aa ag 1).bind λp6=>(Hp.ldI a4.2 .i64 p6.1 p6.2).bind λn7=>(Sl.idx a4.1 (wrap .i64 (ag - 1)) 1).bind λp8=>(Hp.st a4.2 p8.1 p8.2 (.int .i64 n7)).bind λH9=>(Sl.idx aa (wrap .i64 (ag - 1)) 1).bind λp10=>(Hp.ldI H9 .i64 p10.1 p10.2).bind λn11=>(Sl.idx a4.1 ag 1).bind λp12=>(Hp.st H9 p12.1 p12.2 (.int .i64 n11)).bind λH13=>some ((.sl a4.1),H13)
def dr.tw:=dr.twX F
theorem dr.k:Ok Try.prog 209 (mk0 (dr.tw F)):=by
 intro args H v H' h
 unfold mk0 at h
 split at h
 ·exact ok0 Try.func209 (Eq.trans (by kernel_rfl) h) (by kernel_rfl) (by kernel_rfl)
 ·cases h
def aF.j1 (F:Nat) (dz:AY) (aG:A_) (dA:A_) (iB:Sl) (nh:Sl) (H33:Hp):OA:=some ((.tup [(.sl iB),(.sl nh),(.bool false)]),H33)
def aF.l29 (F:Nat) (dz:AY) (aG:A_) (dA:A_) :Nat->Sl->Sl->Sl->Int->Hp->OA
 | 0,_,_,_,_,_=>none
 | bX+1,fc,gv,iC,cX,H12=>(bif (decide (cX<(fc.n:Int))) then ((Sl.idx gv (wrap .i64 (cX - 1)) 1).bind λp34=>(Hp.ldI H12 .i64 p34.1 p34.2).bind λn35=>(Sl.idx gv cX 1).bind λp36=>(Hp.ldI H12 .i64 p36.1 p36.2).bind λn37=>(bif (decide (n35>n37)) then ((Sl.idx iC (wrap .i64 (cX - 1)) 1).bind λp38=>(Hp.ldI H12 .i64 p38.1 p38.2).bind λn39=>(Sl.idx iC cX 1).bind λp40=>(Hp.ldI H12 .i64 p40.1 p40.2).bind λn41=>(bif (decide (n39<n41)) then ((aG fc cX H12).bind λr42=>((r42.1).asSl).bind λs43=>(dA gv cX r42.2).bind λr44=>((r44.1).asSl).bind λs45=>some ((.tup [(.sl s43),(.sl s45),(.bool true)]),r44.2)) else (aF.l29 F dz aG dA bX fc gv iC (wrap .i64 (cX+1)) H12))) else (aF.l29 F dz aG dA bX fc gv iC (wrap .i64 (cX+1)) H12))) else (aF.j1 F dz aG dA fc gv H12))
def aF.twX (dz:AY) (aG:A_) (dA:A_) (aa:Sl) (ag:Sl) (H:Hp):OA:=(dz aa H).bind λr3=>((r3.1).asSl).bind λs4=>aF.l29 F dz aG dA F aa ag s4 1 r3.2
def aF.tw:=aF.twX F (bk.tw F) (ap.tw F) (dr.tw F)
def aF.lh29 (dz:AY) (aG:A_) (dA:A_) (ks:Bc) (n:Nat) (tm:Tm) (H:Hp):OA:=match ks,tm 0,tm 1,tm 7,tm 8 with
 | [],(.sl fc),(.sl gv),(.sl iC),(.int .i64 cX)=>aF.l29 F dz aG dA n fc gv iC cX H
 | _,_,_,_,_=>none
def aF.lh (dz:AY) (aG:A_) (dA:A_) (p:Nat) (ks:Bc) (n:Nat) (tm:Tm) (H:Hp):OA:=bif p.beq 29 then aF.lh29 F dz aG dA ks n tm H else (none)
def aF.tb:Nat->List (List Nat):=dt [(5,[[],[],[1],[0,1,2],[0,1,2,3],[],[],[5,6],[5,6,7],[0,1,2,3,4,5,6,7,8],[0,1,2,3,4,5,6,7,8,9],[0,1,2,3,4,5,6,7,8,9,10],[0,1,2,3,4,5,6,7,8,9,10],[0,1,2,3,4,5,6,7,8,9,10,12],[0,1,2,3,4,5,6,7,8,9,10,11,12,13],[0,1,2,3,4,5,6,7,8,9,10,11,12,13,14],[0,1,2,3,4,5,6,7,8,9,10],[0,1,2,3,4,5,6,7,8,9,10],[0,1,2,3,4,5,6,7,8,9,10,16,17],[0,1,2,3,4,5,6,7,8,9,10,16,17,18],[0,1,2,3,4,5,6,7,8,9,10,11,12,13,14,15,16,17,18,19],[0,1,2,3,4,5,6,7,8,9,10,11,12,13,14,15,16,17,18,19,20]])]
def mk7 (g:Bb) (args:Bd) (H:Hp):OA:=match args with
 | [(.sl aa),(.sl ag)]=>g aa ag H
 | _=>none
theorem mk7_E (g:Bb) (aa:Sl) (ag:Sl) (H:Hp):mk7 g [(.sl aa),(.sl ag)] H=g aa ag H:=rfl
def aF.cs (F:Nat) (dz:AY) (aG:A_) (dA:A_):Cs:=[(208,mk2 dz),(144,mk0 aG),(209,mk0 dA)]
theorem aF.loops (dz:AY) (aG:A_) (dA:A_):LO (aT (aF.cs F dz aG dA)) aC (aF.lh F dz aG dA) F Try.f183:=
 (ac.rt (ac.rt (ac.lt (ac.rt (ac.block (ac.la (λn tm H r h=>by change aF.lh29 F dz aG dA [] n tm H=_ at h;unfold aF.lh29 at h;split at h;have e:ci tm [(0,_),(1,_),(7,_),(8,_)]:=⟨‹_›,‹_›,‹_›,‹_›,trivial⟩;obtain _ | k29:=n;cases h;exact ⟨_,rfl,by rw [<- cj e];exact Eq.trans (by kernel_rfl) h⟩;cases h) λk29=>ac.no))))))
theorem aF.eqX (dz:AY) (aG:A_) (dA:A_) (aa:Sl) (ag:Sl) (H:Hp):EX (aT (aF.cs F dz aG dA)) aC (aF.lh F dz aG dA) F Try.f183 [(.sl aa),(.sl ag)] H=aF.twX F dz aG dA aa ag H:=by kernel_rfl
theorem aF.k:Ok Try.prog 183 (mk7 (aF.tw F)):=by
 intro args H v H' h
 unfold mk7 at h
 split at h
 ·exact okT (TB:=aF.tb) Try.func183 (bc (bk.k F) (bc (ap.k F) (bc (dr.k F) bI))) (aF.loops F (bk.tw F) (ap.tw F) (dr.tw F)) ((aF.eqX F (bk.tw F) (ap.tw F) (dr.tw F) _ _ H).trans h) (by kernel_rfl)
 ·cases h
def aB.j2 (F:Nat) (dv:Bb) (C29_:A_) (uN:Sl) (iD:Int) (H61:Hp):OA:=C29_ uN (wrap .i64 (iD+1)) H61
def aB.l29 (F:Nat) (dv:Bb) :Nat->Sl->Int->Hp->OA
 | 0,_,_,_=>none
 | bX+1,di,cY,H9=>(bif (decide ((wrap .i64 (cY+1))<(di.n:Int))) then ((Sl.idx di cY 1).bind λp36=>(Hp.ldSl H9 p36.1 p36.2).bind λs37=>(Sl.idx di (wrap .i64 (cY+1)) 1).bind λp38=>(Hp.ldSl H9 p38.1 p38.2).bind λs39=>(dv s37 s39 H9).bind λr40=>((r40.1).asTup 3).bind λl41=>(l41[0]?).bind λv42=>((v42).asSl).bind λs43=>(l41[1]?).bind λv44=>((v44).asSl).bind λs45=>(l41[2]?).bind λv46=>((v46).asB).bind λb47=>(bif b47 then ((Sl.idx di cY 1).bind λp48=>(Hp.st r40.2 p48.1 p48.2 (.sl s43)).bind λH49=>(Sl.idx di (wrap .i64 (cY+1)) 1).bind λp50=>(Hp.st H49 p50.1 p50.2 (.sl s45)).bind λH51=>aB.j2 F dv (aB.l29 F dv bX) di (-1) H51) else (aB.j2 F dv (aB.l29 F dv bX) di cY r40.2))) else (some ((.sl di),H9)))
def aB.twX (dv:Bb) (aa:Sl) (H:Hp):OA:=(Hp.new H []).bind λH2=>(Sl.row H2 aa 1).bind λxs4=>(Hp.app H2 1 24 (⟨some (H.length,0),0,.ex 0⟩:Sl) aa.n xs4).bind λa3=>aB.l29 F dv F a3.1 0 a3.2
def aB.tw:=aB.twX F (aF.tw F)
def aB.lh29 (dv:Bb) (ks:Bc) (n:Nat) (tm:Tm) (H:Hp):OA:=match ks,tm 3,tm 4 with
 | [],(.sl di),(.int .i64 cY)=>aB.l29 F dv n di cY H
 | _,_,_=>none
def aB.lh (dv:Bb) (p:Nat) (ks:Bc) (n:Nat) (tm:Tm) (H:Hp):OA:=bif p.beq 29 then aB.lh29 F dv ks n tm H else (none)
def aB.pn:Nat->List Nat:=dt [(5,[9])]
def aB.tb:Nat->List (List Nat):=dt [(5,[[],[],[0,1],[0,1,2],[],[],[5],[4,5,6],[4,5,6,7],[0,1,2,3,4,5,6,7,8],[0,1,2,3,4,5,6,7,8,9],[0,1,2,3,4,5,6,7,8,9,10],[0,1,2,3,4,5,6,7,8,9,10],[0,1,2,3,4,5,6,7,8,9,10],[0,1,2,3,4,5,6,7,8,9,10,11],[0,1,2,3,4,5,6,7,8,9,10,11,12,14],[0,1,2,3,4,5,6,7,8,9,10,11,12,13,14,15]])]
def aB.cs (F:Nat) (dv:Bb):Cs:=[(183,mk7 dv)]
theorem aB.loops (dv:Bb):LO (aT (aB.cs F dv)) aB.pn (aB.lh F dv) F Try.f148:=
 (ac.rt (ac.rt (ac.lt (ac.rt (ac.block (ac.la (λn tm H r h=>by change aB.lh29 F dv [] n tm H=_ at h;unfold aB.lh29 at h;split at h;have e:ci tm [(3,_),(4,_)]:=⟨‹_›,‹_›,trivial⟩;obtain _ | k29:=n;cases h;exact ⟨_,rfl,by rw [<- cj e];exact Eq.trans (by kernel_rfl) h⟩;cases h) λk29=>ac.no))))))
theorem aB.eqX (dv:Bb) (aa:Sl) (H:Hp):EX (aT (aB.cs F dv)) aB.pn (aB.lh F dv) F Try.f148 [(.sl aa)] H=aB.twX F dv aa H:=by kernel_rfl
theorem aB.k:Ok Try.prog 148 (mk2 (aB.tw F)):=by
 intro args H v H' h
 unfold mk2 at h
 split at h
 ·exact okT (TB:=aB.tb) Try.func148 (bc (aF.k F) bI) (aB.loops F (aF.tw F)) ((aB.eqX F (aF.tw F) _ H).trans h) (by kernel_rfl)
 ·cases h
def aS.l29 (F:Nat) :Nat->Sl->Sl->Int->Hp->OA
 | 0,_,_,_,_=>none
 | bX+1,aw,aN,aM,H8=>(bif (decide (aM<(aw.n:Int))) then ((Sl.idx aw aM 1).bind λp13=>(Hp.ldI H8 .i64 p13.1 p13.2).bind λn14=>(Sl.idx aN aM 1).bind λp15=>(Hp.ldI H8 .i64 p15.1 p15.2).bind λn16=>(bif (n14 != n16) then (some ((.bool false),H8)) else (aS.l29 F bX aw aN (wrap .i64 (aM+1)) H8))) else (some ((.bool true),H8)))
def aS.twX (aa:Sl) (ag:Sl) (H:Hp):OA:=(bif ((aa.n:Int) != (ag.n:Int)) then (some ((.bool false),H)) else (aS.l29 F F aa ag 0 H))
def aS.tw:=aS.twX F
def aS.lh29 (ks:Bc) (n:Nat) (tm:Tm) (H:Hp):OA:=match ks,tm 0,tm 1,tm 5 with
 | [],(.sl aw),(.sl aN),(.int .i64 aM)=>aS.l29 F n aw aN aM H
 | _,_,_,_=>none
def aS.lh (p:Nat) (ks:Bc) (n:Nat) (tm:Tm) (H:Hp):OA:=bif p.beq 29 then aS.lh29 F ks n tm H else (none)
def aS.tb:Nat->List (List Nat):=dt [(6,[[],[],[0,1],[0,1,2],[],[],[4,5],[4,5,6],[0,1,2,3,4,5,6,7]])]
theorem aS.loops:LO (aT []) aC (aS.lh F) F Try.f149:=
 (ac.rt (ac.rt (ac.lt (ac.rt (ac.block (ac.la (λn tm H r h=>by change aS.lh29 F [] n tm H=_ at h;unfold aS.lh29 at h;split at h;have e:ci tm [(0,_),(1,_),(5,_)]:=⟨‹_›,‹_›,‹_›,trivial⟩;obtain _ | k29:=n;cases h;exact ⟨_,rfl,by rw [<- cj e];exact Eq.trans (by kernel_rfl) h⟩;cases h) λk29=>ac.no))))))
theorem aS.k:Ok Try.prog 149 (mk7 (aS.tw F)):=by
 intro args H v H' h
 unfold mk7 at h
 split at h
 ·exact okT (PN:=aC) (LH:=(aS.lh F)) (F:=F) (TB:=aS.tb) Try.func149 bI (aS.loops F) (Eq.trans (by kernel_rfl) h) (by kernel_rfl)
 ·cases h
def af.j7 (F:Nat) (bl:AX) (aG:A_) (bp:AY) (bm:AX) (bq:AY) (bo:Bb) (C1021_:Bu) (lj:Nat) (uO:Nat) (iE:Int) (uP:Sl) (ll:Nat) (uQ:Nat) (iF:Int) (H243:Hp):OA:=C1021_ lj uO iE uP ll uQ (wrap .i64 (iF+1)) H243
def af.j8 (F:Nat) (bl:AX) (aG:A_) (bp:AY) (bm:AX) (bq:AY) (bo:Bb) (C1021_:Bu) (lm:Nat) (uR:Nat) (iG:Int) (uS:Sl) (ln:Nat) (uT:Nat) (iH:Int) (H287:Hp):OA:=C1021_ lm uR iG uS ln uT (wrap .i64 (iH+1)) H287
def af.j9 (bl:AX) (aG:A_) (bp:AY) (bm:AX) (bq:AY) (bo:Bb) (C1021_:Bu) (lq:Nat) (uU:Nat) (iI:Int) (uV:Sl) (lr:Nat) (uW:Nat) (iJ:Int) (H269:Hp):OA:=af.j8 F bl aG bp bm bq bo C1021_ lq uU iI uV lr uW iJ H269
def af.l1021 (F:Nat) (bl:AX) (aG:A_) (bp:AY) (bm:AX) (bq:AY) (bo:Bb) :Nat->Nat->Nat->Int->Sl->Nat->Nat->Int->Hp->OA
 | 0,_,_,_,_,_,_,_,_=>none
 | ni+1,eO,fV,d_,fW,en,fo,dB,H140=>(bif (decide (dB<(fW.n:Int))) then ((Sl.idx fW dB 1).bind λp221=>(Hp.ldSl H140 p221.1 p221.2).bind λs222=>(bl d_ H140).bind λr223=>((r223.1).asSl).bind λs224=>(if av H140 r223.2 then ((bo s222 s224 r223.2).bind λr225=>((r225.1).asB).bind λb226=>(bif b226 then (af.j7 F bl aG bp bm bq bo (af.l1021 F bl aG bp bm bq bo ni) eO fV d_ fW en fo dB r225.2) else ((Sl.idx fW dB 1).bind λp244=>(Hp.ldSl r225.2 p244.1 p244.2).bind λs245=>(bm d_ r225.2).bind λr246=>((r246.1).asSl).bind λs247=>(if av r225.2 r246.2 then ((bo s245 s247 r246.2).bind λr248=>((r248.1).asB).bind λb249=>(bif b249 then ((Hp.ldI r248.2 .i64 en fo).bind λn250=>(Hp.st r248.2 en fo (.int .i64 (wrap .i64 (n250+1)))).bind λH251=>af.j9 F bl aG bp bm bq bo (af.l1021 F bl aG bp bm bq bo ni) eO fV d_ fW en fo dB H251) else ((Hp.ldSl r248.2 en (fo+1)).bind λs288=>(Sl.idx fW dB 1).bind λp289=>(Hp.ldSl r248.2 p289.1 p289.2).bind λs290=>(Hp.new r248.2 [(.sl s290)]).bind λH291=>(Sl.row H291 (⟨some (r248.2.length,0),1,.ex 1⟩:Sl) 1).bind λxs293=>(Hp.app H291 1 24 s288 (⟨some (r248.2.length,0),1,.ex 1⟩:Sl).n xs293).bind λa292=>(Hp.st a292.2 en (fo+1) (.sl a292.1)).bind λH294=>af.j9 F bl aG bp bm bq bo (af.l1021 F bl aG bp bm bq bo ni) eO fV d_ fW en fo dB H294))) else none)))) else none)) else ((Hp.ldI H140 .i64 en fo).bind λn295=>(Hp.ldSl H140 en (fo+1)).bind λs296=>(Hp.st H140 eO fV (.int .i64 n295)).bind λH297=>(Hp.st H297 eO (fV+1) (.sl s296)).bind λH298=>(Hp.ldI H298 .i64 eO fV).bind λn299=>(Hp.ldSl H298 eO (fV+1)).bind λs300=>some ((.agg [(.int .i64 n299),(.sl s300)]),H298)))
termination_by structural n=>n
def af.j10 (bl:AX) (aG:A_) (bp:AY) (bm:AX) (bq:AY) (bo:Bb) (lu:Nat) (uX:Nat) (iK:Int) (iL:Int) (uY:Sl) (H120:Hp):OA:=(bq uY H120).bind λr121=>((r121.1).asSl).bind λs122=>(Hp.new r121.2 [.int .i64 0,.sl ⟨none,0,.ex 0⟩]).bind λH123=>(Hp.st H123 r121.2.length 0 (.int .i64 iL)).bind λH124=>(Hp.st H124 r121.2.length (0+1) (.sl (⟨none,0,.ex 0⟩:Sl))).bind λH125=>af.l1021 F bl aG bp bm bq bo F lu uX iK s122 r121.2.length 0 0 H125
def af.j11 (F:Nat) (bl:AX) (aG:A_) (bp:AY) (bm:AX) (bq:AY) (bo:Bb) (C125_:Bl) (lx:Nat) (uZ:Nat) (ly:Nat) (u_:Nat) (iM:Int) (iN:Int) (va:Sl) (iO:Int) (H325:Hp):OA:=C125_ lx uZ ly u_ iM iN va (wrap .i64 (iO+1)) H325
def af.j12 (F:Nat) (bl:AX) (aG:A_) (bp:AY) (bm:AX) (bq:AY) (bo:Bb) (C125_:Bl) (lz:Nat) (vc:Nat) (lA:Nat) (vd:Nat) (iP:Int) (iQ:Int) (ve:Sl) (iR:Int) (H385:Hp):OA:=C125_ lz vc lA vd iP iQ ve (wrap .i64 (iR+1)) H385
def af.j13 (bl:AX) (aG:A_) (bp:AY) (bm:AX) (bq:AY) (bo:Bb) (C125_:Bl) (lC:Nat) (vf:Nat) (lD:Nat) (vg:Nat) (gw:Int) (iS:Int) (vh:Sl) (iT:Int) (iU:Int) (H362:Hp):OA:=(bm gw H362).bind λr363=>((r363.1).asSl).bind λs364=>(aG s364 (wrap .i64 (0 - iU)) r363.2).bind λr365=>((r365.1).asSl).bind λs366=>(Hp.new r365.2 [(.sl s366)]).bind λH367=>(Sl.row H367 (⟨some (r365.2.length,0),1,.ex 1⟩:Sl) 1).bind λxs369=>(Hp.app H367 1 24 vh (⟨some (r365.2.length,0),1,.ex 1⟩:Sl).n xs369).bind λa368=>af.j12 F bl aG bp bm bq bo C125_ lC vf lD vg gw iS a368.1 iT a368.2
def af.l32093 (F:Nat) (bl:AX) (aG:A_) (bp:AY) (bm:AX) (bq:AY) (bo:Bb) (C125_:Bl):Nat->Nat->Nat->Nat->Nat->Int->Int->Sl->Int->Int->Int->Hp->OA
 | 0,_,_,_,_,_,_,_,_,_,_,_=>none
 | vi+1,gy,lE,gz,lF,fp,fq,gX,ft,fv,eo,H340=>(bif (decide (eo<(gX.n:Int))) then ((Sl.idx gX eo 1).bind λp386=>(Hp.ldSl H340 p386.1 p386.2).bind λs387=>(bp s387 H340).bind λr388=>((r388.1).asSl).bind λs389=>(Sl.idx gX eo 1).bind λp390=>(Hp.st r388.2 p390.1 p390.2 (.sl s389)).bind λH391=>af.l32093 F bl aG bp bm bq bo C125_ vi gy lE gz lF fp fq gX ft fv (wrap .i64 (eo+1)) H391) else (af.j13 F bl aG bp bm bq bo C125_ gy lE gz lF fp fq gX ft fv H340))
termination_by structural n=>n
def af.l125 (F:Nat) (bl:AX) (aG:A_) (bp:AY) (bm:AX) (bq:AY) (bo:Bb) :Nat->Nat->Nat->Nat->Nat->Int->Int->Sl->Int->Hp->OA
 | 0,_,_,_,_,_,_,_,_,_=>none
 | gA+1,fO,du,fX,eP,er,eQ,jU,es,H17=>(Hp.ldSl H17 fO (du+1)).bind λs301=>(bif (decide (es<(s301.n:Int))) then ((Hp.ldSl H17 fO (du+1)).bind λs302=>(Sl.idx s302 es 1).bind λp303=>(Hp.ldI H17 .i64 p303.1 p303.2).bind λn304=>(bif (decide (n304>0)) then ((bl er H17).bind λr305=>((r305.1).asSl).bind λs306=>(aG s306 n304 r305.2).bind λr307=>((r307.1).asSl).bind λs308=>(Hp.new r307.2 [(.sl s308)]).bind λH309=>(Sl.row H309 (⟨some (r307.2.length,0),1,.ex 1⟩:Sl) 1).bind λxs311=>(Hp.app H309 1 24 jU (⟨some (r307.2.length,0),1,.ex 1⟩:Sl).n xs311).bind λa310=>af.j11 F bl aG bp bm bq bo (af.l125 F bl aG bp bm bq bo gA) fO du fX eP er eQ a310.1 es a310.2) else (af.l32093 F bl aG bp bm bq bo (af.l125 F bl aG bp bm bq bo gA) F fO du fX eP er (wrap .i64 (eQ - 1)) jU es n304 0 H17))) else (af.j10 F bl aG bp bm bq bo fX eP er eQ jU H17))
termination_by structural n=>n
def af.twX (bl:AX) (aG:A_) (bp:AY) (bm:AX) (bq:AY) (bo:Bb) (aa:Int) (aq:Sl) (H:Hp):OA:=(Hp.new H [(.int .i64 aa),(.sl aq)]).bind λH3=>(Hp.new H3 [.int .i64 0,.sl ⟨none,0,.ex 0⟩]).bind λH4=>(Hp.ldI H4 .i64 H.length 0).bind λn5=>(Hp.new H4 []).bind λH6=>af.l125 F bl aG bp bm bq bo F H.length 0 H3.length 0 n5 0 (⟨some (H4.length,0),0,.ex 0⟩:Sl) 0 H6
def af.tw:=af.twX F (aW.tw F) (ap.tw F) (aZ.tw F) (aX.tw F) (aB.tw F) (aS.tw F)
def af.lh125 (bl:AX) (aG:A_) (bp:AY) (bm:AX) (bq:AY) (bo:Bb) (ks:Bc) (n:Nat) (tm:Tm) (H:Hp):OA:=match ks,tm 1,tm 2,tm 3,tm 4,tm 5,tm 6 with
 | [],(.ptr fO du),(.ptr fX eP),(.int .i64 er),(.int .i64 eQ),(.sl jU),(.int .i64 es)=>af.l125 F bl aG bp bm bq bo n fO du fX eP er eQ jU es H
 | _,_,_,_,_,_,_=>none
def af.lh1021 (bl:AX) (aG:A_) (bp:AY) (bm:AX) (bq:AY) (bo:Bb) (ks:Bc) (n:Nat) (tm:Tm) (H:Hp):OA:=match ks,tm 2,tm 3,tm 5,tm 9,tm 10 with
 | [],(.ptr eO fV),(.int .i64 d_),(.sl fW),(.ptr en fo),(.int .i64 dB)=>af.l1021 F bl aG bp bm bq bo n eO fV d_ fW en fo dB H
 | _,_,_,_,_,_=>none
def af.lh32093 (bl:AX) (aG:A_) (bp:AY) (bm:AX) (bq:AY) (bo:Bb) (ks:Bc) (n:Nat) (tm:Tm) (H:Hp):OA:=match ks,tm 1,tm 2,tm 3,tm 4,tm 5,tm 6,tm 7,tm 8 with
 | [gA],(.ptr gy lE),(.ptr gz lF),(.int .i64 fp),(.int .i64 fq),(.sl gX),(.int .i64 ft),(.int .i64 fv),(.int .i64 eo)=>af.l32093 F bl aG bp bm bq bo (af.l125 F bl aG bp bm bq bo gA) n gy lE gz lF fp fq gX ft fv eo H
 | _,_,_,_,_,_,_,_,_=>none
def af.lh (bl:AX) (aG:A_) (bp:AY) (bm:AX) (bq:AY) (bo:Bb) (p:Nat) (ks:Bc) (n:Nat) (tm:Tm) (H:Hp):OA:=bif p.beq 32093 then af.lh32093 F bl aG bp bm bq bo ks n tm H else (bif p.beq 1021 then af.lh1021 F bl aG bp bm bq bo ks n tm H else (bif p.beq 125 then af.lh125 F bl aG bp bm bq bo ks n tm H else (none)))
def af.pn:Nat->List Nat:=dt [(21,[7,9]),(22,[6]),(23,[6])]
def af.tb:Nat->List (List Nat):=dt [(21,[[],[0],[],[],[2,3],[2,3,4],[2,3,4,5],[0,1,2,3,4,5,6],[0,1,2,3,4,5,6,7],[0,1,2,3,4,5,6,7,8]]),(22,[[],[],[0,1],[0,1,2],[],[4],[0,1,2,3,4,5],[0,1,2,3,4,5,6]]),(23,[[],[],[0,1],[0,1,2],[],[4],[0,1,2,3,4,5],[0,1,2,3,4,5,6]])]
def af.cs (F:Nat) (bl:AX) (aG:A_) (bp:AY) (bm:AX) (bq:AY) (bo:Bb):Cs:=[(145,mk6 bl),(144,mk0 aG),(146,mk2 bp),(147,mk6 bm),(148,mk2 bq),(149,mk7 bo)]
theorem af.loops (bl:AX) (aG:A_) (bp:AY) (bm:AX) (bq:AY) (bo:Bb):LO (aT (af.cs F bl aG bp bm bq bo)) af.pn (af.lh F bl aG bp bm bq bo) F Try.f94:=
 (ac.rt (ac.rt (ac.rt (ac.rt (ac.seq (ac.rt (ac.block (ac.la (λn tm H r h=>by change af.lh125 F bl aG bp bm bq bo [] n tm H=_ at h;unfold af.lh125 at h;split at h;have e:ci tm [(1,_),(2,_),(3,_),(4,_),(5,_),(6,_)]:=⟨‹_›,‹_›,‹_›,‹_›,‹_›,‹_›,trivial⟩;obtain _ | k125:=n;cases h;exact ⟨_,rfl,by rw [<- cj e];exact Eq.trans (by kernel_rfl) h⟩;cases h) λk125=>(ac.rt (ac.lt (ac.block (ac.rt (ac.rt (ac.rt (ac.lt (ac.rt (ac.block (ac.la (λn tm H r h=>by change af.lh32093 F bl aG bp bm bq bo [k125] n tm H=_ at h;unfold af.lh32093 at h;split at h;have e:ci tm [(1,_),(2,_),(3,_),(4,_),(5,_),(6,_),(7,_),(8,_)]:=⟨‹_›,‹_›,‹_›,‹_›,‹_›,‹_›,‹_›,‹_›,trivial⟩;cases (show [k125]=_ from ‹_›);obtain _ | k32093:=n;cases h;exact ⟨_,rfl,by rw [<- cj e];exact Eq.trans (by kernel_rfl) h⟩;cases h) λk32093=>ac.no))))))))))))) (ac.rt (ac.rt (ac.lt (ac.rt (ac.block (ac.la (λn tm H r h=>by change af.lh1021 F bl aG bp bm bq bo [] n tm H=_ at h;unfold af.lh1021 at h;split at h;have e:ci tm [(2,_),(3,_),(5,_),(9,_),(10,_)]:=⟨‹_›,‹_›,‹_›,‹_›,‹_›,trivial⟩;obtain _ | k1021:=n;cases h;exact ⟨_,rfl,by rw [<- cj e];exact Eq.trans (by kernel_rfl) h⟩;cases h) λk1021=>ac.no)))))))))))
theorem af.eqX (bl:AX) (aG:A_) (bp:AY) (bm:AX) (bq:AY) (bo:Bb) (aa:Int) (aq:Sl) (H:Hp):EX (aT (af.cs F bl aG bp bm bq bo)) af.pn (af.lh F bl aG bp bm bq bo) F Try.f94 [(.agg [(.int .i64 aa),(.sl aq)])] H=af.twX F bl aG bp bm bq bo aa aq H:=by kernel_rfl
theorem af.k:Ok Try.prog 94 (mk3 (af.tw F)):=by
 intro args H v H' h
 unfold mk3 at h
 split at h
 ·exact okT (TB:=af.tb) Try.func94 (bc (aW.k F) (bc (ap.k F) (bc (aZ.k F) (bc (aX.k F) (bc (aB.k F) (bc (aS.k F) bI)))))) (af.loops F (aW.tw F) (ap.tw F) (aZ.tw F) (aX.tw F) (aB.tw F) (aS.tw F)) ((af.eqX F (aW.tw F) (ap.tw F) (aZ.tw F) (aX.tw F) (aB.tw F) (aS.tw F) _ _ H).trans h) (by kernel_rfl)
 ·cases h
def cZ.twX (F:Nat) (iV:Bf) (iW:Bf) (aa:Int) (aq:Sl) (H:Hp):OA:=(Hp.new H [(.int .i64 aa),(.sl aq)]).bind λH3=>(Hp.new H3 [.int .i64 0,.sl ⟨none,0,.ex 0⟩]).bind λH4=>(Hp.ldI H4 .i64 H.length 0).bind λn5=>(Hp.ldSl H4 H.length (0+1)).bind λs6=>(iV n5 s6 H4).bind λr7=>((r7.1).asB).bind λb8=>(bif (!b8) then ((Hp.st r7.2 H3.length 0 (.int .i64 0)).bind λH9=>(Hp.st H9 H3.length (0+1) (.sl (⟨none,0,.ex 0⟩:Sl))).bind λH10=>(Hp.ldI H10 .i64 H3.length 0).bind λn11=>(Hp.ldSl H10 H3.length (0+1)).bind λs12=>some ((.tup [(.agg [(.int .i64 n11),(.sl s12)]),(.int .i64 1)]),H10)) else ((Hp.ldI r7.2 .i64 H.length 0).bind λn13=>(Hp.ldSl r7.2 H.length (0+1)).bind λs14=>(iW n13 s14 r7.2).bind λr15=>((r15.1).asAgg 2).bind λl16=>(l16[0]?).bind λv17=>((v17).asI .i64).bind λn18=>(l16[1]?).bind λv19=>((v19).asSl).bind λs20=>(Hp.st r15.2 H3.length 0 (.int .i64 n18)).bind λH21=>(Hp.st H21 H3.length (0+1) (.sl s20)).bind λH22=>(Hp.ldI H22 .i64 H3.length 0).bind λn23=>(Hp.ldSl H22 H3.length (0+1)).bind λs24=>some ((.tup [(.agg [(.int .i64 n23),(.sl s24)]),(.int .i64 0)]),H22)))
def cZ.tw:=cZ.twX F (aY.tw F) (af.tw F)
def cZ.cs (F:Nat) (iV:Bf) (iW:Bf):Cs:=[(49,mk3 iV),(94,mk3 iW)]
theorem cZ.eqX (iV:Bf) (iW:Bf) (aa:Int) (aq:Sl) (H:Hp):EX (aT (cZ.cs F iV iW)) aC lh0 F Try.f33 [(.agg [(.int .i64 aa),(.sl aq)])] H=cZ.twX F iV iW aa aq H:=by kernel_rfl
theorem cZ.k:Ok Try.prog 33 (mk3 (cZ.tw F)):=by
 intro args H v H' h
 unfold mk3 at h
 split at h
 ·exact okT (TB:=aC) Try.func33 (bc (aY.k F) (bc (af.k F) bI)) ac.no ((cZ.eqX F (aY.tw F) (af.tw F) _ _ H).trans h) (by kernel_rfl)
 ·cases h
def cJ.twX (F:Nat) (aa:Int) (ag:Int) (dR:Int) (H:Hp):OA:=(bif (decide (ag<=aa)) then (some ((.bool (decide (aa<=dR))),H)) else (some ((.bool false),H)))
def cJ.tw:=cJ.twX F
theorem cJ.k:Ok Try.prog 112 (mk4 (cJ.tw F)):=by
 intro args H v H' h
 unfold mk4 at h
 split at h
 ·exact ok0 Try.func112 (Eq.trans (by kernel_rfl) h) (by kernel_rfl) (by kernel_rfl)
 ·cases h
def c_.twX (F:Nat) (eR:Bg) (aa:Int) (ag:Int) (H:Hp):OA:=(bif (ag != 0) then ((eR ag (wrap .i64 (1 - aa)) (wrap .i64 (aa - 1)) H).bind λr3=>((r3.1).asB).bind λb4=>some ((.bool b4),r3.2)) else (some ((.bool false),H)))
def c_.tw:=c_.twX F (cJ.tw F)
def c_.cs (F:Nat) (eR:Bg):Cs:=[(112,mk4 eR)]
theorem c_.eqX (eR:Bg) (aa:Int) (ag:Int) (H:Hp):EX (aT (c_.cs F eR)) aC lh0 F Try.f152 [(.int .i64 aa),(.int .i64 ag)] H=c_.twX F eR aa ag H:=by kernel_rfl
theorem c_.k:Ok Try.prog 152 (mk5 (c_.tw F)):=by
 intro args H v H' h
 unfold mk5 at h
 split at h
 ·exact okT (TB:=aC) Try.func152 (bc (cJ.k F) bI) ac.no ((c_.eqX F (cJ.tw F) _ _ H).trans h) (by kernel_rfl)
 ·cases h
def cS.twX (F:Nat) (iX:Bj) (aa:Int) (ag:Nat) (ar:Nat) (H:Hp):OA:=(Hp.ldI H .i64 ag ar).bind λn4=>(iX n4 aa H).bind λr5=>((r5.1).asB).bind λb6=>some ((.bool (!b6)),r5.2)
def cS.tw:=cS.twX F (c_.tw F)
def mk8 (g:Bm) (args:Bd) (H:Hp):OA:=match args with
 | [(.int .i64 aa),(.ptr ag ar)]=>g aa ag ar H
 | _=>none
theorem mk8_E (g:Bm) (aa:Int) (ag:Nat) (ar:Nat) (H:Hp):mk8 g [(.int .i64 aa),(.ptr ag ar)] H=g aa ag ar H:=rfl
def cS.cs (F:Nat) (iX:Bj):Cs:=[(152,mk5 iX)]
theorem cS.eqX (iX:Bj) (aa:Int) (ag:Nat) (ar:Nat) (H:Hp):EX (aT (cS.cs F iX)) aC lh0 F Try.f151 [(.int .i64 aa),(.ptr ag ar)] H=cS.twX F iX aa ag ar H:=by kernel_rfl
theorem cS.k:Ok Try.prog 151 (mk8 (cS.tw F)):=by
 intro args H v H' h
 unfold mk8 at h
 split at h
 ·exact okT (TB:=aC) Try.func151 (bc (c_.k F) bI) ac.no ((cS.eqX F (c_.tw F) _ _ _ H).trans h) (by kernel_rfl)
 ·cases h
def bi.l13 (F:Nat) (dV:Bm) :Nat->Sl->Nat->Nat->Int->Int->Hp->OA
 | 0,_,_,_,_,_,_=>none
 | eS+1,dU,ag,ar,fw,et,H8=>(bif (decide (et<fw)) then ((Sl.idx dU et 1).bind λp13=>(Hp.ldI H8 .i64 p13.1 p13.2).bind λn14=>(dV n14 ag ar H8).bind λr15=>((r15.1).asB).bind λb16=>(bif b16 then (some ((.int .i64 et),r15.2)) else (bi.l13 F dV eS dU ag ar fw (wrap .i64 (et+1)) r15.2))) else (some ((.int .i64 (-1)),H8)))
termination_by structural n=>n
def bi.twX (dV:Bm) (aa:Sl) (ag:Nat) (ar:Nat) (H:Hp):OA:=bi.l13 F dV F aa ag ar (aa.n:Int) 0 H
def bi.tw:=bi.twX F (cS.tw F)
def bi.lh13 (dV:Bm) (ks:Bc) (n:Nat) (tm:Tm) (H:Hp):OA:=match ks,tm 0,tm 1,tm 7,tm 8 with
 | [],(.sl dU),(.fn 151 [(.ptr ag ar)]),(.int .i64 fw),(.int .i64 et)=>bi.l13 F dV n dU ag ar fw et H
 | _,_,_,_,_=>none
def bi.lh (dV:Bm) (p:Nat) (ks:Bc) (n:Nat) (tm:Tm) (H:Hp):OA:=bif p.beq 13 then bi.lh13 F dV ks n tm H else (none)
def mk9 (g:Bq) (args:Bd) (H:Hp):OA:=match args with
 | [(.sl aa),(.fn 151 [(.ptr ag ar)])]=>g aa ag ar H
 | _=>none
theorem mk9_E (g:Bq) (aa:Sl) (ag:Nat) (ar:Nat) (H:Hp):mk9 g [(.sl aa),(.fn 151 [(.ptr ag ar)])] H=g aa ag ar H:=rfl
def bi.cs (F:Nat) (dV:Bm):Cs:=[(151,mk8 dV)]
theorem bi.loops (dV:Bm):LO (aT (bi.cs F dV)) aC (bi.lh F dV) F Try.f184:=
 (ac.rt (ac.lt (ac.rt (ac.block (ac.la (λn tm H r h=>by change bi.lh13 F dV [] n tm H=_ at h;unfold bi.lh13 at h;split at h;have e:ci tm [(0,_),(1,_),(7,_),(8,_)]:=⟨‹_›,‹_›,‹_›,‹_›,trivial⟩;obtain _ | k13:=n;cases h;exact ⟨_,rfl,by rw [<- cj e];exact Eq.trans (by kernel_rfl) h⟩;cases h) λk13=>ac.no)))))
theorem bi.eqX (dV:Bm) (aa:Sl) (ag:Nat) (ar:Nat) (H:Hp):EX (aT (bi.cs F dV)) aC (bi.lh F dV) F Try.f184 [(.sl aa),(.fn 151 [(.ptr ag ar)])] H=bi.twX F dV aa ag ar H:=by kernel_rfl
theorem bi.k:Ok Try.prog 184 (mk9 (bi.tw F)):=by
 intro args H v H' h
 unfold mk9 at h
 split at h
 ·exact okT (TB:=aC) Try.func184 (bc (cS.k F) bI) (bi.loops F (cS.tw F)) ((bi.eqX F (cS.tw F) _ _ _ H).trans h) (by kernel_rfl)
 ·cases h
def dj.twX (F:Nat) (iY:Bq) (aa:Sl) (ag:Nat) (ar:Nat) (H:Hp):OA:=(iY aa ag ar H).bind λr4=>((r4.1).asI .i64).bind λn5=>some ((.bool (decide (n5>=0))),r4.2)
def dj.tw:=dj.twX F (bi.tw F)
def dj.cs (F:Nat) (iY:Bq):Cs:=[(184,mk9 iY)]
theorem dj.eqX (iY:Bq) (aa:Sl) (ag:Nat) (ar:Nat) (H:Hp):EX (aT (dj.cs F iY)) aC lh0 F Try.f150 [(.sl aa),(.fn 151 [(.ptr ag ar)])] H=dj.twX F iY aa ag ar H:=by kernel_rfl
theorem dj.k:Ok Try.prog 150 (mk9 (dj.tw F)):=by
 intro args H v H' h
 unfold mk9 at h
 split at h
 ·exact okT (TB:=aC) Try.func150 (bc (bi.k F) bI) ac.no ((dj.eqX F (bi.tw F) _ _ _ H).trans h) (by kernel_rfl)
 ·cases h
def da.twX (F:Nat) (eR:Bg) (iZ:Bq) (aa:Int) (aq:Sl) (H:Hp):OA:=(Hp.new H [(.int .i64 aa),(.sl aq)]).bind λH3=>(Hp.ldI H3 .i64 H.length 0).bind λn4=>(eR n4 1 6 H3).bind λr5=>((r5.1).asB).bind λb6=>(bif b6 then ((Hp.ldSl r5.2 H.length 1).bind λs7=>(bif (decide ((s7.n:Int)<=24)) then ((Hp.ldSl r5.2 H.length 1).bind λs8=>(iZ s8 H.length 0 r5.2).bind λr9=>((r9.1).asB).bind λb10=>some ((.bool (!b10)),r9.2)) else (some ((.bool false),r5.2)))) else (some ((.bool false),r5.2)))
def da.tw:=da.twX F (cJ.tw F) (dj.tw F)
def da.cs (F:Nat) (eR:Bg) (iZ:Bq):Cs:=[(112,mk4 eR),(150,mk9 iZ)]
theorem da.eqX (eR:Bg) (iZ:Bq) (aa:Int) (aq:Sl) (H:Hp):EX (aT (da.cs F eR iZ)) aC lh0 F Try.f96 [(.agg [(.int .i64 aa),(.sl aq)])] H=da.twX F eR iZ aa aq H:=by kernel_rfl
theorem da.k:Ok Try.prog 96 (mk3 (da.tw F)):=by
 intro args H v H' h
 unfold mk3 at h
 split at h
 ·exact okT (TB:=aC) Try.func96 (bc (cJ.k F) (bc (dj.k F) bI)) ac.no ((da.eqX F (cJ.tw F) (dj.tw F) _ _ H).trans h) (by kernel_rfl)
 ·cases h
def aK.l29 (F:Nat) :Nat->Sl->Int->Int->Hp->OA
 | 0,_,_,_,_=>none
 | bX+1,dG,fx,eu,H7=>(bif (decide (eu<fx)) then ((Hp.new H7 [(.int .i64 eu)]).bind λH11=>(Sl.row H11 (⟨some (H7.length,0),1,.ex 1⟩:Sl) 1).bind λxs13=>(Hp.app H11 1 8 dG (⟨some (H7.length,0),1,.ex 1⟩:Sl).n xs13).bind λa12=>aK.l29 F bX a12.1 fx (wrap .i64 (eu+1)) a12.2) else (some ((.sl dG),H7)))
def aK.twX (aa:Int) (H:Hp):OA:=aK.l29 F F (⟨none,0,.ex 0⟩:Sl) aa 0 H
def aK.tw:=aK.twX F
def aK.lh29 (ks:Bc) (n:Nat) (tm:Tm) (H:Hp):OA:=match ks,tm 3,tm 5,tm 6 with
 | [],(.sl dG),(.int .i64 fx),(.int .i64 eu)=>aK.l29 F n dG fx eu H
 | _,_,_,_=>none
def aK.lh (p:Nat) (ks:Bc) (n:Nat) (tm:Tm) (H:Hp):OA:=bif p.beq 29 then aK.lh29 F ks n tm H else (none)
theorem aK.loops:LO (aT []) aC (aK.lh F) F Try.f125:=
 (ac.rt (ac.rt (ac.lt (ac.rt (ac.block (ac.la (λn tm H r h=>by change aK.lh29 F [] n tm H=_ at h;unfold aK.lh29 at h;split at h;have e:ci tm [(3,_),(5,_),(6,_)]:=⟨‹_›,‹_›,‹_›,trivial⟩;obtain _ | k29:=n;cases h;exact ⟨_,rfl,by rw [<- cj e];exact Eq.trans (by kernel_rfl) h⟩;cases h) λk29=>ac.no))))))
theorem aK.k:Ok Try.prog 125 (mk6 (aK.tw F)):=by
 intro args H v H' h
 unfold mk6 at h
 split at h
 ·exact okT (PN:=aC) (LH:=(aK.lh F)) (F:=F) (TB:=aC) Try.func125 bI (aK.loops F) (Eq.trans (by kernel_rfl) h) (by kernel_rfl)
 ·cases h
def cg.twX (F:Nat) (aa:Sl) (H:Hp):OA:=some ((.int .i64 (aa.n:Int)),H)
def cg.tw:=cg.twX F
theorem cg.k:Ok Try.prog 113 (mk2 (cg.tw F)):=by
 intro args H v H' h
 unfold mk2 at h
 split at h
 ·exact ok0 Try.func113 (Eq.trans (by kernel_rfl) h) (by kernel_rfl) (by kernel_rfl)
 ·cases h
def aO.l61 (F:Nat) (bj:AY) :Nat->Int->Sl->Sl->Int->Int->Hp->OA
 | 0,_,_,_,_,_,_=>none
 | ng+1,di,cY,lG,fy,ev,H12=>(bif (decide (ev<fy)) then ((Sl.idx lG ev 1).bind λp17=>(Hp.ldI H12 .i64 p17.1 p17.2).bind λn18=>(Sl.idx cY (wrap .i64 (di - ev)) 1).bind λp19=>(Hp.st H12 p19.1 p19.2 (.int .i64 (wrap .i64 (di - n18)))).bind λH20=>aO.l61 F bj ng di cY lG fy (wrap .i64 (ev+1)) H20) else (some ((.sl cY),H12)))
def aO.twX (bj:AY) (aa:Sl) (H:Hp):OA:=(bj aa H).bind λr2=>((r2.1).asI .i64).bind λn3=>(Hp.mk r2.2 [.int .i64 0] 8 (aa.n:Int) (aa.n:Int)).bind λm4=>aO.l61 F bj F (wrap .i64 (n3 - 1)) m4.1 aa (aa.n:Int) 0 m4.2
def aO.tw:=aO.twX F (cg.tw F)
def aO.lh61 (bj:AY) (ks:Bc) (n:Nat) (tm:Tm) (H:Hp):OA:=match ks,tm 3,tm 4,tm 13,tm 14,tm 15 with
 | [],(.int .i64 di),(.sl cY),(.sl lG),(.int .i64 fy),(.int .i64 ev)=>aO.l61 F bj n di cY lG fy ev H
 | _,_,_,_,_,_=>none
def aO.lh (bj:AY) (p:Nat) (ks:Bc) (n:Nat) (tm:Tm) (H:Hp):OA:=bif p.beq 61 then aO.lh61 F bj ks n tm H else (none)
def aO.cs (F:Nat) (bj:AY):Cs:=[(113,mk2 bj)]
theorem aO.loops (bj:AY):LO (aT (aO.cs F bj)) aC (aO.lh F bj) F Try.f185:=
 (ac.rt (ac.rt (ac.rt (ac.lt (ac.rt (ac.block (ac.la (λn tm H r h=>by change aO.lh61 F bj [] n tm H=_ at h;unfold aO.lh61 at h;split at h;have e:ci tm [(3,_),(4,_),(13,_),(14,_),(15,_)]:=⟨‹_›,‹_›,‹_›,‹_›,‹_›,trivial⟩;obtain _ | k61:=n;cases h;exact ⟨_,rfl,by rw [<- cj e];exact Eq.trans (by kernel_rfl) h⟩;cases h) λk61=>ac.no)))))))
theorem aO.eqX (bj:AY) (aa:Sl) (H:Hp):EX (aT (aO.cs F bj)) aC (aO.lh F bj) F Try.f185 [(.sl aa)] H=aO.twX F bj aa H:=by kernel_rfl
theorem aO.k:Ok Try.prog 185 (mk2 (aO.tw F)):=by
 intro args H v H' h
 unfold mk2 at h
 split at h
 ·exact okT (TB:=aC) Try.func185 (bc (cg.k F) bI) (aO.loops F (cg.tw F)) ((aO.eqX F (cg.tw F) _ H).trans h) (by kernel_rfl)
 ·cases h
def bv.l3 (F:Nat) :Nat->Sl->Int->Int->Hp->OA
 | 0,_,_,_,_=>none
 | vj+1,gY,ew,dG,H5=>(bif (decide (ew<dG)) then ((Sl.idx gY dG 1).bind λp14=>(Hp.ldI H5 .i64 p14.1 p14.2).bind λn15=>(Sl.idx gY ew 1).bind λp16=>(Hp.ldI H5 .i64 p16.1 p16.2).bind λn17=>(Sl.idx gY ew 1).bind λp18=>(Hp.st H5 p18.1 p18.2 (.int .i64 n15)).bind λH19=>(Sl.idx gY dG 1).bind λp20=>(Hp.st H19 p20.1 p20.2 (.int .i64 n17)).bind λH21=>bv.l3 F vj gY (wrap .i64 (ew+1)) (wrap .i64 (dG - 1)) H21) else (some ((.tup []),H5)))
def bv.twX (aa:Sl) (H:Hp):OA:=bv.l3 F F aa 0 (wrap .i64 ((aa.n:Int) - 1)) H
def bv.tw:=bv.twX F
def bv.lh3 (ks:Bc) (n:Nat) (tm:Tm) (H:Hp):OA:=match ks,tm 0,tm 2,tm 3 with
 | [],(.sl gY),(.int .i64 ew),(.int .i64 dG)=>bv.l3 F n gY ew dG H
 | _,_,_,_=>none
def bv.lh (p:Nat) (ks:Bc) (n:Nat) (tm:Tm) (H:Hp):OA:=bif p.beq 3 then bv.lh3 F ks n tm H else (none)
def bv.pn:Nat->List Nat:=dt [(3,[13,15])]
def bv.tb:Nat->List (List Nat):=dt [(3,[[],[],[],[],[],[],[4,5],[4,5,6],[],[],[8,9],[8,9,10],[0,1,4,5,6,7,8,9,10,11],[0,1,4,5,6,7,8,9,10,11,12],[0,1,2,3,4,5,6,7,8,9,10,11,12,13],[0,1,2,3,4,5,6,7,8,9,10,11,12,13,14]])]
theorem bv.loops:LO (aT []) bv.pn (bv.lh F) F Try.f210:=
 (ac.rt (ac.block (ac.la (λn tm H r h=>by change bv.lh3 F [] n tm H=_ at h;unfold bv.lh3 at h;split at h;have e:ci tm [(0,_),(2,_),(3,_)]:=⟨‹_›,‹_›,‹_›,trivial⟩;obtain _ | k3:=n;cases h;exact ⟨_,rfl,by rw [<- cj e];exact Eq.trans (by kernel_rfl) h⟩;cases h) λk3=>ac.no)))
theorem bv.k:Ok Try.prog 210 (mk2 (bv.tw F)):=by
 intro args H v H' h
 unfold mk2 at h
 split at h
 ·exact okT (PN:=bv.pn) (LH:=(bv.lh F)) (F:=F) (TB:=bv.tb) Try.func210 bI (bv.loops F) (Eq.trans (by kernel_rfl) h) (by kernel_rfl)
 ·cases h
def bM.twX (F:Nat) (aD:AX) (i_:AY) (aa:Int) (H:Hp):OA:=(aD aa H).bind λr2=>((r2.1).asSl).bind λs3=>(i_ s3 r2.2).bind λr4=>some ((.sl s3),r4.2)
def bM.tw:=bM.twX F (aK.tw F) (bv.tw F)
def bM.cs (F:Nat) (aD:AX) (i_:AY):Cs:=[(125,mk6 aD),(210,mk2 i_)]
theorem bM.eqX (aD:AX) (i_:AY) (aa:Int) (H:Hp):EX (aT (bM.cs F aD i_)) aC lh0 F Try.f186 [(.int .i64 aa)] H=bM.twX F aD i_ aa H:=by kernel_rfl
theorem bM.k:Ok Try.prog 186 (mk6 (bM.tw F)):=by
 intro args H v H' h
 unfold mk6 at h
 split at h
 ·exact okT (TB:=aC) Try.func186 (bc (aK.k F) (bc (bv.k F) bI)) ac.no ((bM.eqX F (aK.tw F) (bv.tw F) _ H).trans h) (by kernel_rfl)
 ·cases h
def aJ.l29 (F:Nat) :Nat->Sl->Sl->Int->Int->Hp->OA
 | 0,_,_,_,_,_=>none
 | bX+1,bG,lH,fz,ey,H9=>(bif (decide (ey<fz)) then ((Sl.idx lH ey 1).bind λp14=>(Hp.ldI H9 .i64 p14.1 p14.2).bind λn15=>(Sl.idx bG n15 1).bind λp16=>(Hp.st H9 p16.1 p16.2 (.int .i64 ey)).bind λH17=>aJ.l29 F bX bG lH fz (wrap .i64 (ey+1)) H17) else (some ((.sl bG),H9)))
def aJ.twX (aa:Sl) (H:Hp):OA:=(Hp.mk H [.int .i64 0] 8 (aa.n:Int) (aa.n:Int)).bind λm2=>aJ.l29 F F m2.1 aa (aa.n:Int) 0 m2.2
def aJ.tw:=aJ.twX F
def aJ.lh29 (ks:Bc) (n:Nat) (tm:Tm) (H:Hp):OA:=match ks,tm 3,tm 9,tm 10,tm 11 with
 | [],(.sl bG),(.sl lH),(.int .i64 fz),(.int .i64 ey)=>aJ.l29 F n bG lH fz ey H
 | _,_,_,_,_=>none
def aJ.lh (p:Nat) (ks:Bc) (n:Nat) (tm:Tm) (H:Hp):OA:=bif p.beq 29 then aJ.lh29 F ks n tm H else (none)
theorem aJ.loops:LO (aT []) aC (aJ.lh F) F Try.f126:=
 (ac.rt (ac.rt (ac.lt (ac.rt (ac.block (ac.la (λn tm H r h=>by change aJ.lh29 F [] n tm H=_ at h;unfold aJ.lh29 at h;split at h;have e:ci tm [(3,_),(9,_),(10,_),(11,_)]:=⟨‹_›,‹_›,‹_›,‹_›,trivial⟩;obtain _ | k29:=n;cases h;exact ⟨_,rfl,by rw [<- cj e];exact Eq.trans (by kernel_rfl) h⟩;cases h) λk29=>ac.no))))))
theorem aJ.k:Ok Try.prog 126 (mk2 (aJ.tw F)):=by
 intro args H v H' h
 unfold mk2 at h
 split at h
 ·exact okT (PN:=aC) (LH:=(aJ.lh F)) (F:=F) (TB:=aC) Try.func126 bI (aJ.loops F) (Eq.trans (by kernel_rfl) h) (by kernel_rfl)
 ·cases h
def cw.twX (F:Nat) (aa:Int) (H:Hp):OA:=(bif (decide (aa<0)) then (some ((.int .i64 (wrap .i64 (0 - aa))),H)) else (some ((.int .i64 aa),H)))
def cw.tw:=cw.twX F
theorem cw.k:Ok Try.prog 87 (mk6 (cw.tw F)):=by
 intro args H v H' h
 unfold mk6 at h
 split at h
 ·exact ok0 Try.func87 (Eq.trans (by kernel_rfl) h) (by kernel_rfl) (by kernel_rfl)
 ·cases h
def bD.twX (F:Nat) (aa:Sl) (ag:Int) (H:Hp):OA:=(Sl.idx aa ag 1).bind λp3=>(Hp.ldI H .i64 p3.1 p3.2).bind λn4=>(Sl.idx aa (wrap .i64 (ag - 1)) 1).bind λp5=>(Hp.ldI H .i64 p5.1 p5.2).bind λn6=>(Sl.idx aa (wrap .i64 (ag - 1)) 1).bind λp7=>(Hp.st H p7.1 p7.2 (.int .i64 n4)).bind λH8=>(Sl.idx aa ag 1).bind λp9=>(Hp.st H8 p9.1 p9.2 (.int .i64 n6)).bind λH10=>some ((.tup []),H10)
def bD.tw:=bD.twX F
def bD.pn:Nat->List Nat:=dt [(0,[15,17])]
def bD.tb:Nat->List (List Nat):=dt [(0,[[],[],[1],[],[],[],[],[5,6],[5,6,7],[],[],[10],[9,10,11],[9,10,11,12],[0,1,2,5,6,7,8,9,10,11,12,13],[0,1,2,5,6,7,8,9,10,11,12,13,14],[0,1,2,3,4,5,6,7,8,9,10,11,12,13,14,15],[0,1,2,3,4,5,6,7,8,9,10,11,12,13,14,15,16]])]
theorem bD.k:Ok Try.prog 117 (mk0 (bD.tw F)):=by
 intro args H v H' h
 unfold mk0 at h
 split at h
 ·exact okT (PN:=bD.pn) (LH:=lh0) (F:=F) (TB:=bD.tb) Try.func117 bI ac.no (Eq.trans (by kernel_rfl) h) (by kernel_rfl)
 ·cases h
def bH.j1 (F:Nat) (aD:AX) (dk:AY) (aH:AX) (aP:AY) (db:AX) (aV:A_) (qw:Nat) (qx:Nat) (vk:Int) (vl:Sl) (H50:Hp):OA:=(aP vl H50).bind λr51=>((r51.1).asSl).bind λs52=>(db vk r51.2).bind λr53=>((r53.1).asI .i64).bind λn54=>(aV s52 n54 r53.2).bind λr55=>(Hp.ldSl r55.2 qw (qx+2)).bind λs56=>(aP s52 r55.2).bind λr57=>((r57.1).asSl).bind λs58=>(if av r55.2 r57.2 then ((Hp.new r57.2 [(.sl s58)]).bind λH59=>(Sl.row H59 (⟨some (r57.2.length,0),1,.ex 1⟩:Sl) 1).bind λxs61=>(Hp.app H59 1 24 s56 (⟨some (r57.2.length,0),1,.ex 1⟩:Sl).n xs61).bind λa60=>(Hp.st a60.2 qw (qx+2) (.sl a60.1)).bind λH62=>some ((.tup []),H62)) else none)
def bH.j2 (aD:AX) (dk:AY) (aH:AX) (aP:AY) (db:AX) (aV:A_) (lJ:Nat) (iB:Nat) (nh:Int) (H33:Hp):OA:=(Hp.ldI H33 .i64 lJ (iB+1)).bind λn34=>(Hp.st H33 lJ (iB+1) (.int .i64 (wrap .i64 (n34 - 1)))).bind λH35=>(Hp.ldI H35 .i64 lJ iB).bind λn36=>(aH n36 H35).bind λr37=>((r37.1).asSl).bind λs38=>(aP s38 r37.2).bind λr39=>((r39.1).asSl).bind λs40=>bH.j1 F aD dk aH aP db aV lJ iB nh s40 r39.2
def bH.l105 (F:Nat) (aD:AX) (dk:AY) (aH:AX) (aP:AY) (db:AX) (aV:A_) :Nat->Nat->Nat->Int->Sl->Int->Int->Hp->OA
 | 0,_,_,_,_,_,_,_=>none
 | vm+1,jV,jW,du,lK,lL,ja,H16=>(bif (decide (ja<lL)) then ((Sl.idx lK ja 1).bind λp63=>(Hp.ldSl H16 p63.1 p63.2).bind λs64=>(Hp.ldSl H16 jV (jW+2)).bind λs65=>(dk s64 H16).bind λr66=>((r66.1).asSl).bind λs67=>(if av H16 r66.2 then ((Sl.idx s65 ja 1).bind λp68=>(Hp.st r66.2 p68.1 p68.2 (.sl s67)).bind λH69=>bH.l105 F aD dk aH aP db aV vm jV jW du lK lL (wrap .i64 (ja+1)) H69) else none)) else (bH.j2 F aD dk aH aP db aV jV jW du H16))
termination_by structural n=>n
def bH.j3 (F:Nat) (aD:AX) (dk:AY) (aH:AX) (aP:AY) (db:AX) (aV:A_) (qy:Nat) (qz:Nat) (vn:Int) (vo:Sl) (H75:Hp):OA:=(aP vo H75).bind λr76=>((r76.1).asSl).bind λs77=>(db vn r76.2).bind λr78=>((r78.1).asI .i64).bind λn79=>(aV s77 n79 r78.2).bind λr80=>(Hp.ldSl r80.2 qy (qz+2)).bind λs81=>(aP s77 r80.2).bind λr82=>((r82.1).asSl).bind λs83=>(if av r80.2 r82.2 then ((Hp.new r82.2 [(.sl s83)]).bind λH84=>(Sl.row H84 (⟨some (r82.2.length,0),1,.ex 1⟩:Sl) 1).bind λxs86=>(Hp.app H84 1 24 s81 (⟨some (r82.2.length,0),1,.ex 1⟩:Sl).n xs86).bind λa85=>(Hp.st a85.2 qy (qz+2) (.sl a85.1)).bind λH87=>some ((.tup []),H87)) else none)
def bH.twX (aD:AX) (dk:AY) (aH:AX) (aP:AY) (db:AX) (aV:A_) (aa:Nat) (aq:Nat) (ar:Int) (H:Hp):OA:=(Hp.ldI H .i64 aa aq).bind λn4=>(aD n4 H).bind λr5=>((r5.1).asSl).bind λs6=>(bif (decide (ar<0)) then ((Hp.ldSl r5.2 aa (aq+2)).bind λs7=>bH.l105 F aD dk aH aP db aV F aa aq ar s7 (s7.n:Int) 0 r5.2) else (bH.j3 F aD dk aH aP db aV aa aq ar s6 r5.2))
def bH.tw:=bH.twX F (aK.tw F) (aO.tw F) (bM.tw F) (aJ.tw F) (cw.tw F) (bD.tw F)
def bH.lh105 (aD:AX) (dk:AY) (aH:AX) (aP:AY) (db:AX) (aV:A_) (ks:Bc) (n:Nat) (tm:Tm) (H:Hp):OA:=match ks,tm 0,tm 1,tm 18,tm 19,tm 20 with
 | [],(.ptr jV jW),(.int .i64 du),(.sl lK),(.int .i64 lL),(.int .i64 ja)=>bH.l105 F aD dk aH aP db aV n jV jW du lK lL ja H
 | _,_,_,_,_,_=>none
def bH.lh (aD:AX) (dk:AY) (aH:AX) (aP:AY) (db:AX) (aV:A_) (p:Nat) (ks:Bc) (n:Nat) (tm:Tm) (H:Hp):OA:=bif p.beq 105 then bH.lh105 F aD dk aH aP db aV ks n tm H else (none)
def bH.pn:Nat->List Nat:=dt [(5,[8]),(11,[8,11])]
def bH.tb:Nat->List (List Nat):=dt [(5,[[],[0],[0,1],[0,1,2],[],[],[5],[0,1,2,3,4,5,6],[0,1,2,3,4,5,6,7]]),(11,[[],[],[1],[1,2],[1,2,3],[],[5],[5,6],[1,2,3,4,5,6,7],[0,1,2,3,4,5,6,7,8],[0,1,2,3,4,5,6,7,8,9],[0,1,2,3,4,5,6,7,8,9,10]])]
def mk10 (g:Bk) (args:Bd) (H:Hp):OA:=match args with
 | [(.ptr aa aq),(.int .i64 ar)]=>g aa aq ar H
 | _=>none
theorem mk10_E (g:Bk) (aa:Nat) (aq:Nat) (ar:Int) (H:Hp):mk10 g [(.ptr aa aq),(.int .i64 ar)] H=g aa aq ar H:=rfl
def bH.cs (F:Nat) (aD:AX) (dk:AY) (aH:AX) (aP:AY) (db:AX) (aV:A_):Cs:=[(125,mk6 aD),(185,mk2 dk),(186,mk6 aH),(126,mk2 aP),(87,mk6 db),(117,mk0 aV)]
theorem bH.loops (aD:AX) (dk:AY) (aH:AX) (aP:AY) (db:AX) (aV:A_):LO (aT (bH.cs F aD dk aH aP db aV)) bH.pn (bH.lh F aD dk aH aP db aV) F Try.f153:=
 (ac.rt (ac.lt (ac.rt (ac.cond (ac.lt (ac.rt (ac.block (ac.la (λn tm H r h=>by change bH.lh105 F aD dk aH aP db aV [] n tm H=_ at h;unfold bH.lh105 at h;split at h;have e:ci tm [(0,_),(1,_),(18,_),(19,_),(20,_)]:=⟨‹_›,‹_›,‹_›,‹_›,‹_›,trivial⟩;obtain _ | k105:=n;cases h;exact ⟨_,rfl,by rw [<- cj e];exact Eq.trans (by kernel_rfl) h⟩;cases h) λk105=>ac.no)))) ac.no))))
theorem bH.eqX (aD:AX) (dk:AY) (aH:AX) (aP:AY) (db:AX) (aV:A_) (aa:Nat) (aq:Nat) (ar:Int) (H:Hp):EX (aT (bH.cs F aD dk aH aP db aV)) bH.pn (bH.lh F aD dk aH aP db aV) F Try.f153 [(.ptr aa aq),(.int .i64 ar)] H=bH.twX F aD dk aH aP db aV aa aq ar H:=by kernel_rfl
theorem bH.k:Ok Try.prog 153 (mk10 (bH.tw F)):=by
 intro args H v H' h
 unfold mk10 at h
 split at h
 ·exact okT (TB:=bH.tb) Try.func153 (bc (aK.k F) (bc (aO.k F) (bc (bM.k F) (bc (aJ.k F) (bc (cw.k F) (bc (bD.k F) bI)))))) (bH.loops F (aK.tw F) (aO.tw F) (bM.tw F) (aJ.tw F) (cw.tw F) (bD.tw F)) ((bH.eqX F (aK.tw F) (aO.tw F) (bM.tw F) (aJ.tw F) (cw.tw F) (bD.tw F) _ _ _ H).trans h) (by kernel_rfl)
 ·cases h
def aj.j6 (F:Nat) (aP:AY) (bj:AY) (aV:A_) (C29_:Bv) (vp:Sl) (vq:Sl) (jb:Bool) (jc:Bool) (H148:Hp):OA:=C29_ vp vq jb jc H148
def aj.j7 (aP:AY) (bj:AY) (aV:A_) (C29_:Bv) (vr:Sl) (vt:Sl) (jd:Bool) (je:Bool) (H138:Hp):OA:=aj.j6 F aP bj aV C29_ vr vt jd je H138
def aj.j8 (F:Nat) (aP:AY) (bj:AY) (aV:A_) (C943_:BE) (vu:Sl) (vv:Sl) (jf:Bool) (jg:Bool) (nj:Sl) (jh:Int) (H174:Hp):OA:=C943_ vu vv jf jg nj (wrap .i64 (jh+1)) H174
def aj.l943 (F:Nat) (aP:AY) (bj:AY) (aV:A_) (C29_:Bv):Nat->Sl->Sl->Bool->Bool->Sl->Int->Hp->OA
 | 0,_,_,_,_,_,_,_=>none
 | nk+1,gB,fY,eT,eU,fZ,cK,H102=>(bj gB H102).bind λr149=>((r149.1).asI .i64).bind λn150=>(bif (decide (cK<n150)) then ((Sl.idx fY (wrap .i64 (cK - 1)) 1).bind λp151=>(Hp.ldI r149.2 .i64 p151.1 p151.2).bind λn152=>(Sl.idx fY cK 1).bind λp153=>(Hp.ldI r149.2 .i64 p153.1 p153.2).bind λn154=>(bif (decide (n152>n154)) then ((Sl.idx fZ (wrap .i64 (cK - 1)) 1).bind λp155=>(Hp.ldI r149.2 .i64 p155.1 p155.2).bind λn156=>(Sl.idx fZ cK 1).bind λp157=>(Hp.ldI r149.2 .i64 p157.1 p157.2).bind λn158=>(bif (decide (n156<n158)) then ((aV fY cK r149.2).bind λr159=>(aV fZ cK r159.2).bind λr160=>(aP fZ r160.2).bind λr161=>((r161.1).asSl).bind λs162=>(Hp.cpy r161.2 1 gB s162).bind λc163=>aj.j8 F aP bj aV (aj.l943 F aP bj aV C29_ nk) gB fY true true fZ cK c163.2) else (aj.j8 F aP bj aV (aj.l943 F aP bj aV C29_ nk) gB fY eT eU fZ cK r149.2))) else (aj.l943 F aP bj aV C29_ nk gB fY eT eU fZ (wrap .i64 (cK+1)) r149.2))) else (aj.j7 F aP bj aV C29_ gB fY eT eU r149.2))
def aj.l29 (F:Nat) (aP:AY) (bj:AY) (aV:A_) :Nat->Sl->Sl->Bool->Bool->Hp->OA
 | 0,_,_,_,_,_=>none
 | bX+1,aw,aN,bg,f_,H8=>(bif f_ then ((aP aw H8).bind λr92=>((r92.1).asSl).bind λs93=>aj.l943 F aP bj aV (aj.l29 F aP bj aV bX) F aw aN bg false s93 1 r92.2) else (some ((.bool bg),H8)))
def aj.twX (aP:AY) (bj:AY) (aV:A_) (aa:Sl) (ag:Sl) (H:Hp):OA:=aj.l29 F aP bj aV F aa ag false true H
def aj.tw:=aj.twX F (aJ.tw F) (cg.tw F) (bD.tw F)
def aj.lh29 (aP:AY) (bj:AY) (aV:A_) (ks:Bc) (n:Nat) (tm:Tm) (H:Hp):OA:=match ks,tm 0,tm 1,tm 5,tm 6 with
 | [],(.sl aw),(.sl aN),(.bool bg),(.bool f_)=>aj.l29 F aP bj aV n aw aN bg f_ H
 | _,_,_,_,_=>none
def aj.lh943 (aP:AY) (bj:AY) (aV:A_) (ks:Bc) (n:Nat) (tm:Tm) (H:Hp):OA:=match ks,tm 0,tm 1,tm 5,tm 6,tm 7,tm 8 with
 | [bX],(.sl gB),(.sl fY),(.bool eT),(.bool eU),(.sl fZ),(.int .i64 cK)=>aj.l943 F aP bj aV (aj.l29 F aP bj aV bX) n gB fY eT eU fZ cK H
 | _,_,_,_,_,_,_=>none
def aj.lh (aP:AY) (bj:AY) (aV:A_) (p:Nat) (ks:Bc) (n:Nat) (tm:Tm) (H:Hp):OA:=bif p.beq 943 then aj.lh943 F aP bj aV ks n tm H else (bif p.beq 29 then aj.lh29 F aP bj aV ks n tm H else (none))
def aj.tb:Nat->List (List Nat):=dt [(9,[[],[],[1],[0,1,2],[0,1,2,3],[],[],[5,6],[5,6,7],[0,1,2,3,4,5,6,7,8],[0,1,2,3,4,5,6,7,8,9],[0,1,2,3,4,5,6,7,8,9,10],[0,1,2,3,4,5,6,7,8,9,10],[0,1,2,3,4,5,6,7,8,9,10,12],[0,1,2,3,4,5,6,7,8,9,10,11,12,13],[0,1,2,3,4,5,6,7,8,9,10,11,12,13,14],[0,1,2,3,4,5,6,7,8,9,10],[0,1,2,3,4,5,6,7,8,9,10],[0,1,2,3,4,5,6,7,8,9,10,16,17],[0,1,2,3,4,5,6,7,8,9,10,16,17,18],[0,1,2,3,4,5,6,7,8,9,10,11,12,13,14,15,16,17,18,19],[0,1,2,3,4,5,6,7,8,9,10,11,12,13,14,15,16,17,18,19,20]])]
def aj.cs (F:Nat) (aP:AY) (bj:AY) (aV:A_):Cs:=[(126,mk2 aP),(113,mk2 bj),(117,mk0 aV)]
theorem aj.loops (aP:AY) (bj:AY) (aV:A_):LO (aT (aj.cs F aP bj aV)) aC (aj.lh F aP bj aV) F Try.f187:=
 (ac.rt (ac.rt (ac.lt (ac.rt (ac.block (ac.la (λn tm H r h=>by change aj.lh29 F aP bj aV [] n tm H=_ at h;unfold aj.lh29 at h;split at h;have e:ci tm [(0,_),(1,_),(5,_),(6,_)]:=⟨‹_›,‹_›,‹_›,‹_›,trivial⟩;obtain _ | k29:=n;cases h;exact ⟨_,rfl,by rw [<- cj e];exact Eq.trans (by kernel_rfl) h⟩;cases h) λk29=>(ac.rt (ac.block (ac.rt (ac.rt (ac.rt (ac.block (ac.la (λn tm H r h=>by change aj.lh943 F aP bj aV [k29] n tm H=_ at h;unfold aj.lh943 at h;split at h;have e:ci tm [(0,_),(1,_),(5,_),(6,_),(7,_),(8,_)]:=⟨‹_›,‹_›,‹_›,‹_›,‹_›,‹_›,trivial⟩;cases (show [k29]=_ from ‹_›);obtain _ | k943:=n;cases h;exact ⟨_,rfl,by rw [<- cj e];exact Eq.trans (by kernel_rfl) h⟩;cases h) λk943=>ac.no)))))))))))))
theorem aj.eqX (aP:AY) (bj:AY) (aV:A_) (aa:Sl) (ag:Sl) (H:Hp):EX (aT (aj.cs F aP bj aV)) aC (aj.lh F aP bj aV) F Try.f187 [(.sl aa),(.sl ag)] H=aj.twX F aP bj aV aa ag H:=by kernel_rfl
theorem aj.k:Ok Try.prog 187 (mk7 (aj.tw F)):=by
 intro args H v H' h
 unfold mk7 at h
 split at h
 ·exact okT (TB:=aj.tb) Try.func187 (bc (aJ.k F) (bc (cg.k F) (bc (bD.k F) bI))) (aj.loops F (aJ.tw F) (cg.tw F) (bD.tw F)) ((aj.eqX F (aJ.tw F) (cg.tw F) (bD.tw F) _ _ H).trans h) (by kernel_rfl)
 ·cases h
def a_.l29 (F:Nat) :Nat->Sl->Sl->Int->Int->Hp->OA
 | 0,_,_,_,_,_=>none
 | bX+1,aw,aN,fA,ez,H9=>(bif (decide (ez<fA)) then ((Sl.idx aw ez 1).bind λp14=>(Hp.ldI H9 .i64 p14.1 p14.2).bind λn15=>(Sl.idx aN ez 1).bind λp16=>(Hp.ldI H9 .i64 p16.1 p16.2).bind λn17=>(bif (n15 != n17) then (some ((.bool false),H9)) else (a_.l29 F bX aw aN fA (wrap .i64 (ez+1)) H9))) else (some ((.bool true),H9)))
def a_.twX (aa:Sl) (ag:Sl) (H:Hp):OA:=(bif ((aa.n:Int) != (ag.n:Int)) then (some ((.bool false),H)) else (a_.l29 F F aa ag (aa.n:Int) 0 H))
def a_.tw:=a_.twX F
def a_.lh29 (ks:Bc) (n:Nat) (tm:Tm) (H:Hp):OA:=match ks,tm 0,tm 1,tm 12,tm 13 with
 | [],(.sl aw),(.sl aN),(.int .i64 fA),(.int .i64 ez)=>a_.l29 F n aw aN fA ez H
 | _,_,_,_,_=>none
def a_.lh (p:Nat) (ks:Bc) (n:Nat) (tm:Tm) (H:Hp):OA:=bif p.beq 29 then a_.lh29 F ks n tm H else (none)
def a_.tb:Nat->List (List Nat):=dt [(6,[[],[],[0,1],[0,1,2],[],[],[4,5],[4,5,6],[0,1,2,3,4,5,6,7]])]
theorem a_.loops:LO (aT []) aC (a_.lh F) F Try.f100:=
 (ac.rt (ac.rt (ac.lt (ac.rt (ac.block (ac.la (λn tm H r h=>by change a_.lh29 F [] n tm H=_ at h;unfold a_.lh29 at h;split at h;have e:ci tm [(0,_),(1,_),(12,_),(13,_)]:=⟨‹_›,‹_›,‹_›,‹_›,trivial⟩;obtain _ | k29:=n;cases h;exact ⟨_,rfl,by rw [<- cj e];exact Eq.trans (by kernel_rfl) h⟩;cases h) λk29=>ac.no))))))
theorem a_.k:Ok Try.prog 100 (mk7 (a_.tw F)):=by
 intro args H v H' h
 unfold mk7 at h
 split at h
 ·exact okT (PN:=aC) (LH:=(a_.lh F)) (F:=F) (TB:=a_.tb) Try.func100 bI (a_.loops F) (Eq.trans (by kernel_rfl) h) (by kernel_rfl)
 ·cases h
def aI.j6 (F:Nat) (bz:Bb) (aD:AX) (aH:AX) (bw:Bb) (C125_:BF) (vw:Nat) (vx:Nat) (vy:Sl) (vz:Sl) (nj:Nat) (vA:Nat) (vB:Sl) (vC:Int) (vD:Int) (H178:Hp):OA:=C125_ vw vx vy vz nj vA vB vC (wrap .i64 (vD+1)) H178
def aI.j7 (F:Nat) (bz:Bb) (aD:AX) (aH:AX) (bw:Bb) (C125_:BF) (vE:Nat) (vF:Nat) (vG:Sl) (vH:Sl) (vI:Nat) (vJ:Nat) (vK:Sl) (vL:Int) (vM:Int) (H218:Hp):OA:=C125_ vE vF vG vH vI vJ vK vL (wrap .i64 (vM+1)) H218
def aI.j8 (bz:Bb) (aD:AX) (aH:AX) (bw:Bb) (C125_:BF) (vN:Nat) (vO:Nat) (vP:Sl) (vQ:Sl) (vR:Nat) (vS:Nat) (vT:Sl) (vU:Int) (vV:Int) (H200:Hp):OA:=aI.j7 F bz aD aH bw C125_ vN vO vP vQ vR vS vT vU vV H200
def aI.l125 (F:Nat) (bz:Bb) (aD:AX) (aH:AX) (bw:Bb) :Nat->Nat->Nat->Sl->Sl->Nat->Nat->Sl->Int->Int->Hp->OA
 | 0,_,_,_,_,_,_,_,_,_,_=>none
 | gA+1,ga,gb,ji,jj,fB,fC,jk,jl,gZ,H85=>(bif (decide (gZ<jl)) then ((Sl.idx jk gZ 1).bind λp158=>(Hp.ldSl H85 p158.1 p158.2).bind λs159=>(bw s159 ji H85).bind λr160=>((r160.1).asB).bind λb161=>(bif b161 then (aI.j6 F bz aD aH bw (aI.l125 F bz aD aH bw gA) ga gb ji jj fB fC jk jl gZ r160.2) else ((bw s159 jj r160.2).bind λr179=>((r179.1).asB).bind λb180=>(bif b180 then ((Hp.ldI r179.2 .i64 fB fC).bind λn181=>(Hp.st r179.2 fB fC (.int .i64 (wrap .i64 (n181+1)))).bind λH182=>aI.j8 F bz aD aH bw (aI.l125 F bz aD aH bw gA) ga gb ji jj fB fC jk jl gZ H182) else ((Hp.ldSl r179.2 fB (fC+1)).bind λs219=>(Hp.new r179.2 [(.sl s159)]).bind λH220=>(Sl.row H220 (⟨some (r179.2.length,0),1,.ex 1⟩:Sl) 1).bind λxs222=>(Hp.app H220 1 24 s219 (⟨some (r179.2.length,0),1,.ex 1⟩:Sl).n xs222).bind λa221=>(Hp.st a221.2 fB (fC+1) (.sl a221.1)).bind λH223=>aI.j8 F bz aD aH bw (aI.l125 F bz aD aH bw gA) ga gb ji jj fB fC jk jl gZ H223))))) else ((Hp.ldI H85 .i64 fB fC).bind λn224=>(Hp.ldSl H85 fB (fC+1)).bind λs225=>(Hp.st H85 ga gb (.int .i64 n224)).bind λH226=>(Hp.st H226 ga (gb+1) (.sl s225)).bind λH227=>(Hp.ldI H227 .i64 ga gb).bind λn228=>(Hp.ldSl H227 ga (gb+1)).bind λs229=>some ((.agg [(.int .i64 n228),(.sl s229)]),H227)))
termination_by structural n=>n
def aI.j9 (bz:Bb) (aD:AX) (aH:AX) (bw:Bb) (lM:Nat) (lN:Nat) (vW:Nat) (vX:Nat) (H60:Hp):OA:=(Hp.ldI H60 .i64 lM lN).bind λn61=>(aD n61 H60).bind λr62=>((r62.1).asSl).bind λs63=>(if av H60 r62.2 then ((Hp.ldI r62.2 .i64 lM lN).bind λn64=>(aH n64 r62.2).bind λr65=>((r65.1).asSl).bind λs66=>(Hp.ldI r65.2 .i64 lM (lN+1)).bind λn67=>(Hp.new r65.2 [.int .i64 0,.sl ⟨none,0,.ex 0⟩]).bind λH68=>(Hp.st H68 r65.2.length 0 (.int .i64 n67)).bind λH69=>(Hp.st H69 r65.2.length (0+1) (.sl (⟨none,0,.ex 0⟩:Sl))).bind λH70=>(Hp.ldSl H70 lM (lN+2)).bind λs71=>aI.l125 F bz aD aH bw F vW vX s63 s66 r65.2.length 0 s71 (s71.n:Int) 0 H70) else none)
def aI.j10 (F:Nat) (bz:Bb) (aD:AX) (aH:AX) (bw:Bb) (C13_:BG) (vY:Nat) (vZ:Nat) (v_:Nat) (wa:Nat) (wb:Bool) (H264:Hp):OA:=C13_ vY vZ v_ wa wb H264
def aI.j11 (bz:Bb) (aD:AX) (aH:AX) (bw:Bb) (C13_:BG) (wc:Nat) (wd:Nat) (wg:Nat) (wh:Nat) (wi:Bool) (H255:Hp):OA:=aI.j10 F bz aD aH bw C13_ wc wd wg wh wi H255
def aI.l215 (F:Nat) (bz:Bb) (aD:AX) (aH:AX) (bw:Bb) (C13_:BG):Nat->Nat->Nat->Nat->Nat->Bool->Int->Hp->OA
 | 0,_,_,_,_,_,_,_=>none
 | qA+1,gC,gD,jX,jY,lO,g_,H237=>(Hp.ldSl H237 gC (gD+2)).bind λs265=>(bif (decide (g_<(s265.n:Int))) then ((Hp.ldSl H237 gC (gD+2)).bind λs266=>(Sl.idx s266 (wrap .i64 (g_ - 1)) 1).bind λp267=>(Hp.ldSl H237 p267.1 p267.2).bind λs268=>(Hp.ldSl H237 gC (gD+2)).bind λs269=>(Sl.idx s269 g_ 1).bind λp270=>(Hp.ldSl H237 p270.1 p270.2).bind λs271=>(bz s268 s271 H237).bind λr272=>((r272.1).asB).bind λb273=>(bif b273 then (aI.l215 F bz aD aH bw C13_ qA gC gD jX jY true (wrap .i64 (g_+1)) r272.2) else (aI.l215 F bz aD aH bw C13_ qA gC gD jX jY lO (wrap .i64 (g_+1)) r272.2))) else (aI.j11 F bz aD aH bw C13_ gC gD jX jY lO H237))
termination_by structural n=>n
def aI.l13 (F:Nat) (bz:Bb) (aD:AX) (aH:AX) (bw:Bb) :Nat->Nat->Nat->Nat->Nat->Bool->Hp->OA
 | 0,_,_,_,_,_,_=>none
 | eS+1,dU,fc,lP,lQ,nl,H9=>(bif nl then (aI.l215 F bz aD aH bw (aI.l13 F bz aD aH bw eS) F dU fc lP lQ false 1 H9) else (aI.j9 F bz aD aH bw dU fc lP lQ H9))
termination_by structural n=>n
def aI.twX (bz:Bb) (aD:AX) (aH:AX) (bw:Bb) (aa:Nat) (aq:Nat) (H:Hp):OA:=(Hp.new H [.int .i64 0,.sl ⟨none,0,.ex 0⟩]).bind λH3=>aI.l13 F bz aD aH bw F aa aq H.length 0 true H3
def aI.tw:=aI.twX F (aj.tw F) (aK.tw F) (bM.tw F) (a_.tw F)
def aI.lh13 (bz:Bb) (aD:AX) (aH:AX) (bw:Bb) (ks:Bc) (n:Nat) (tm:Tm) (H:Hp):OA:=match ks,tm 0,tm 2,tm 3 with
 | [],(.ptr dU fc),(.ptr lP lQ),(.bool nl)=>aI.l13 F bz aD aH bw n dU fc lP lQ nl H
 | _,_,_,_=>none
def aI.lh125 (bz:Bb) (aD:AX) (aH:AX) (bw:Bb) (ks:Bc) (n:Nat) (tm:Tm) (H:Hp):OA:=match ks,tm 2,tm 5,tm 6,tm 7,tm 57,tm 58,tm 59 with
 | [],(.ptr ga gb),(.sl ji),(.sl jj),(.ptr fB fC),(.sl jk),(.int .i64 jl),(.int .i64 gZ)=>aI.l125 F bz aD aH bw n ga gb ji jj fB fC jk jl gZ H
 | _,_,_,_,_,_,_,_=>none
def aI.lh215 (bz:Bb) (aD:AX) (aH:AX) (bw:Bb) (ks:Bc) (n:Nat) (tm:Tm) (H:Hp):OA:=match ks,tm 0,tm 2,tm 3,tm 4 with
 | [eS],(.ptr gC gD),(.ptr jX jY),(.bool lO),(.int .i64 g_)=>aI.l215 F bz aD aH bw (aI.l13 F bz aD aH bw eS) n gC gD jX jY lO g_ H
 | _,_,_,_,_=>none
def aI.lh (bz:Bb) (aD:AX) (aH:AX) (bw:Bb) (p:Nat) (ks:Bc) (n:Nat) (tm:Tm) (H:Hp):OA:=bif p.beq 215 then aI.lh215 F bz aD aH bw ks n tm H else (bif p.beq 125 then aI.lh125 F bz aD aH bw ks n tm H else (bif p.beq 13 then aI.lh13 F bz aD aH bw ks n tm H else (none)))
def aI.pn:Nat->List Nat:=dt [(7,[15]),(8,[9])]
def aI.tb:Nat->List (List Nat):=dt [(7,[[],[0],[0,1],[0,1,2],[],[4],[0,1,2,3,4,5],[0,1,2,3,4,5,6],[],[8],[8,9],[8,9,10],[],[8,9,10,11,12],[8,9,10,11,12,13],[0,1,2,3,4,5,6,7,8,9,10,11,12,13,14],[0,1,2,3,4,5,6,7,8,9,10,11,12,13,14,15],[0,1,2,3,4,5,6,7,8,9,10,11,12,13,14,15,16],[0,1,2,3,4,5,6,7,8,9,10,11,12,13,14,15,16,17],[0,1,2,3,4,5,6,7,8,9,10,11,12,13,14,15,16,17,18]]),(8,[[],[0],[0,1],[0,1,2],[0,1,2,3],[],[5],[5,6],[5,6,7],[0,1,2,3,4,5,6,7,8],[0,1,2,3,4,5,6,7,8,9],[0,1,2,3,4,5,6,7,8,9,10]])]
def mk11 (g:Bn) (args:Bd) (H:Hp):OA:=match args with
 | [(.ptr aa aq)]=>g aa aq H
 | _=>none
theorem mk11_E (g:Bn) (aa:Nat) (aq:Nat) (H:Hp):mk11 g [(.ptr aa aq)] H=g aa aq H:=rfl
def aI.cs (F:Nat) (bz:Bb) (aD:AX) (aH:AX) (bw:Bb):Cs:=[(187,mk7 bz),(125,mk6 aD),(186,mk6 aH),(100,mk7 bw)]
theorem aI.loops (bz:Bb) (aD:AX) (aH:AX) (bw:Bb):LO (aT (aI.cs F bz aD aH bw)) aI.pn (aI.lh F bz aD aH bw) F Try.f154:=
 (ac.rt (ac.seq (ac.rt (ac.block (ac.la (λn tm H r h=>by change aI.lh13 F bz aD aH bw [] n tm H=_ at h;unfold aI.lh13 at h;split at h;have e:ci tm [(0,_),(2,_),(3,_)]:=⟨‹_›,‹_›,‹_›,trivial⟩;obtain _ | k13:=n;cases h;exact ⟨_,rfl,by rw [<- cj e];exact Eq.trans (by kernel_rfl) h⟩;cases h) λk13=>(ac.rt (ac.block (ac.rt (ac.rt (ac.block (ac.la (λn tm H r h=>by change aI.lh215 F bz aD aH bw [k13] n tm H=_ at h;unfold aI.lh215 at h;split at h;have e:ci tm [(0,_),(2,_),(3,_),(4,_)]:=⟨‹_›,‹_›,‹_›,‹_›,trivial⟩;cases (show [k13]=_ from ‹_›);obtain _ | k215:=n;cases h;exact ⟨_,rfl,by rw [<- cj e];exact Eq.trans (by kernel_rfl) h⟩;cases h) λk215=>ac.no))))))))) (ac.rt (ac.rt (ac.lt (ac.rt (ac.block (ac.la (λn tm H r h=>by change aI.lh125 F bz aD aH bw [] n tm H=_ at h;unfold aI.lh125 at h;split at h;have e:ci tm [(2,_),(5,_),(6,_),(7,_),(57,_),(58,_),(59,_)]:=⟨‹_›,‹_›,‹_›,‹_›,‹_›,‹_›,‹_›,trivial⟩;obtain _ | k125:=n;cases h;exact ⟨_,rfl,by rw [<- cj e];exact Eq.trans (by kernel_rfl) h⟩;cases h) λk125=>ac.no))))))))
theorem aI.eqX (bz:Bb) (aD:AX) (aH:AX) (bw:Bb) (aa:Nat) (aq:Nat) (H:Hp):EX (aT (aI.cs F bz aD aH bw)) aI.pn (aI.lh F bz aD aH bw) F Try.f154 [(.ptr aa aq)] H=aI.twX F bz aD aH bw aa aq H:=by kernel_rfl
theorem aI.k:Ok Try.prog 154 (mk11 (aI.tw F)):=by
 intro args H v H' h
 unfold mk11 at h
 split at h
 ·exact okT (TB:=aI.tb) Try.func154 (bc (aj.k F) (bc (aK.k F) (bc (bM.k F) (bc (a_.k F) bI)))) (aI.loops F (aj.tw F) (aK.tw F) (bM.tw F) (a_.tw F)) ((aI.eqX F (aj.tw F) (aK.tw F) (bM.tw F) (a_.tw F) _ _ H).trans h) (by kernel_rfl)
 ·cases h
def bS.l29 (F:Nat) (dW:Bk) (dX:Bn) :Nat->Nat->Nat->Nat->Nat->Sl->Int->Int->Hp->OA
 | 0,_,_,_,_,_,_,_,_=>none
 | bX+1,eP,hG,dL,jZ,lR,lT,j_,H19=>(bif (decide (j_<lT)) then ((Sl.idx lR j_ 1).bind λp33=>(Hp.ldI H19 .i64 p33.1 p33.2).bind λn34=>(dW dL jZ n34 H19).bind λr35=>bS.l29 F dW dX bX eP hG dL jZ lR lT (wrap .i64 (j_+1)) r35.2) else ((dX dL jZ H19).bind λr36=>((r36.1).asAgg 2).bind λl37=>(l37[0]?).bind λv38=>((v38).asI .i64).bind λn39=>(l37[1]?).bind λv40=>((v40).asSl).bind λs41=>(Hp.st r36.2 eP hG (.int .i64 n39)).bind λH42=>(Hp.st H42 eP (hG+1) (.sl s41)).bind λH43=>(Hp.ldI H43 .i64 eP hG).bind λn44=>(Hp.ldSl H43 eP (hG+1)).bind λs45=>some ((.agg [(.int .i64 n44),(.sl s45)]),H43)))
termination_by structural n=>n
def bS.twX (dW:Bk) (dX:Bn) (aa:Int) (aq:Sl) (H:Hp):OA:=(Hp.new H [(.int .i64 aa),(.sl aq)]).bind λH3=>(Hp.new H3 [.int .i64 0,.sl ⟨none,0,.ex 0⟩]).bind λH4=>(Hp.ldI H4 .i64 H.length 0).bind λn5=>(Hp.new H4 [(.int .i64 n5),(.int .i64 0),(.sl (⟨none,0,.ex 0⟩:Sl))]).bind λH6=>(Hp.ldSl H6 H.length 1).bind λs7=>bS.l29 F dW dX F H3.length 0 H4.length 0 s7 (s7.n:Int) 0 H6
def bS.tw:=bS.twX F (bH.tw F) (aI.tw F)
def bS.lh29 (dW:Bk) (dX:Bn) (ks:Bc) (n:Nat) (tm:Tm) (H:Hp):OA:=match ks,tm 2,tm 3,tm 11,tm 12,tm 13 with
 | [],(.ptr eP hG),(.ptr dL jZ),(.sl lR),(.int .i64 lT),(.int .i64 j_)=>bS.l29 F dW dX n eP hG dL jZ lR lT j_ H
 | _,_,_,_,_,_=>none
def bS.lh (dW:Bk) (dX:Bn) (p:Nat) (ks:Bc) (n:Nat) (tm:Tm) (H:Hp):OA:=bif p.beq 29 then bS.lh29 F dW dX ks n tm H else (none)
def bS.cs (F:Nat) (dW:Bk) (dX:Bn):Cs:=[(153,mk10 dW),(154,mk11 dX)]
theorem bS.loops (dW:Bk) (dX:Bn):LO (aT (bS.cs F dW dX)) aC (bS.lh F dW dX) F Try.f97:=
 (ac.rt (ac.rt (ac.lt (ac.rt (ac.block (ac.la (λn tm H r h=>by change bS.lh29 F dW dX [] n tm H=_ at h;unfold bS.lh29 at h;split at h;have e:ci tm [(2,_),(3,_),(11,_),(12,_),(13,_)]:=⟨‹_›,‹_›,‹_›,‹_›,‹_›,trivial⟩;obtain _ | k29:=n;cases h;exact ⟨_,rfl,by rw [<- cj e];exact Eq.trans (by kernel_rfl) h⟩;cases h) λk29=>ac.no))))))
theorem bS.eqX (dW:Bk) (dX:Bn) (aa:Int) (aq:Sl) (H:Hp):EX (aT (bS.cs F dW dX)) aC (bS.lh F dW dX) F Try.f97 [(.agg [(.int .i64 aa),(.sl aq)])] H=bS.twX F dW dX aa aq H:=by kernel_rfl
theorem bS.k:Ok Try.prog 97 (mk3 (bS.tw F)):=by
 intro args H v H' h
 unfold mk3 at h
 split at h
 ·exact okT (TB:=aC) Try.func97 (bc (bH.k F) (bc (aI.k F) bI)) (bS.loops F (bH.tw F) (aI.tw F)) ((bS.eqX F (bH.tw F) (aI.tw F) _ _ H).trans h) (by kernel_rfl)
 ·cases h
def cN.twX (F:Nat) (jm:Bf) (jn:Bf) (aa:Int) (aq:Sl) (H:Hp):OA:=(Hp.new H [(.int .i64 aa),(.sl aq)]).bind λH3=>(Hp.new H3 [.int .i64 0,.sl ⟨none,0,.ex 0⟩]).bind λH4=>(Hp.ldI H4 .i64 H.length 0).bind λn5=>(Hp.ldSl H4 H.length (0+1)).bind λs6=>(jm n5 s6 H4).bind λr7=>((r7.1).asB).bind λb8=>(bif (!b8) then ((Hp.st r7.2 H3.length 0 (.int .i64 0)).bind λH9=>(Hp.st H9 H3.length (0+1) (.sl (⟨none,0,.ex 0⟩:Sl))).bind λH10=>(Hp.ldI H10 .i64 H3.length 0).bind λn11=>(Hp.ldSl H10 H3.length (0+1)).bind λs12=>some ((.tup [(.agg [(.int .i64 n11),(.sl s12)]),(.int .i64 1)]),H10)) else ((Hp.ldI r7.2 .i64 H.length 0).bind λn13=>(Hp.ldSl r7.2 H.length (0+1)).bind λs14=>(jn n13 s14 r7.2).bind λr15=>((r15.1).asAgg 2).bind λl16=>(l16[0]?).bind λv17=>((v17).asI .i64).bind λn18=>(l16[1]?).bind λv19=>((v19).asSl).bind λs20=>(Hp.st r15.2 H3.length 0 (.int .i64 n18)).bind λH21=>(Hp.st H21 H3.length (0+1) (.sl s20)).bind λH22=>(Hp.ldI H22 .i64 H3.length 0).bind λn23=>(Hp.ldSl H22 H3.length (0+1)).bind λs24=>some ((.tup [(.agg [(.int .i64 n23),(.sl s24)]),(.int .i64 0)]),H22)))
def cN.tw:=cN.twX F (da.tw F) (bS.tw F)
def cN.cs (F:Nat) (jm:Bf) (jn:Bf):Cs:=[(96,mk3 jm),(97,mk3 jn)]
theorem cN.eqX (jm:Bf) (jn:Bf) (aa:Int) (aq:Sl) (H:Hp):EX (aT (cN.cs F jm jn)) aC lh0 F Try.f35 [(.agg [(.int .i64 aa),(.sl aq)])] H=cN.twX F jm jn aa aq H:=by kernel_rfl
theorem cN.k:Ok Try.prog 35 (mk3 (cN.tw F)):=by
 intro args H v H' h
 unfold mk3 at h
 split at h
 ·exact okT (TB:=aC) Try.func35 (bc (da.k F) (bc (bS.k F) bI)) ac.no ((cN.eqX F (da.tw F) (bS.tw F) _ _ H).trans h) (by kernel_rfl)
 ·cases h
def aU.l29 (F:Nat) :Nat->Sl->Sl->Int->Hp->OA
 | 0,_,_,_,_=>none
 | bX+1,aw,aN,aM,H8=>(bif (decide (aM<(aw.n:Int))) then ((Sl.idx aw aM 1).bind λp13=>(Hp.ldI H8 .i64 p13.1 p13.2).bind λn14=>(Sl.idx aN aM 1).bind λp15=>(Hp.ldI H8 .i64 p15.1 p15.2).bind λn16=>(bif (n14 != n16) then (some ((.bool false),H8)) else (aU.l29 F bX aw aN (wrap .i64 (aM+1)) H8))) else (some ((.bool true),H8)))
def aU.twX (aa:Sl) (ag:Sl) (H:Hp):OA:=(bif ((aa.n:Int) != (ag.n:Int)) then (some ((.bool false),H)) else (aU.l29 F F aa ag 0 H))
def aU.tw:=aU.twX F
def aU.lh29 (ks:Bc) (n:Nat) (tm:Tm) (H:Hp):OA:=match ks,tm 0,tm 1,tm 5 with
 | [],(.sl aw),(.sl aN),(.int .i64 aM)=>aU.l29 F n aw aN aM H
 | _,_,_,_=>none
def aU.lh (p:Nat) (ks:Bc) (n:Nat) (tm:Tm) (H:Hp):OA:=bif p.beq 29 then aU.lh29 F ks n tm H else (none)
def aU.tb:Nat->List (List Nat):=dt [(6,[[],[],[0,1],[0,1,2],[],[],[4,5],[4,5,6],[0,1,2,3,4,5,6,7]])]
theorem aU.loops:LO (aT []) aC (aU.lh F) F Try.f90:=
 (ac.rt (ac.rt (ac.lt (ac.rt (ac.block (ac.la (λn tm H r h=>by change aU.lh29 F [] n tm H=_ at h;unfold aU.lh29 at h;split at h;have e:ci tm [(0,_),(1,_),(5,_)]:=⟨‹_›,‹_›,‹_›,trivial⟩;obtain _ | k29:=n;cases h;exact ⟨_,rfl,by rw [<- cj e];exact Eq.trans (by kernel_rfl) h⟩;cases h) λk29=>ac.no))))))
theorem aU.k:Ok Try.prog 90 (mk7 (aU.tw F)):=by
 intro args H v H' h
 unfold mk7 at h
 split at h
 ·exact okT (PN:=aC) (LH:=(aU.lh F)) (F:=F) (TB:=aU.tb) Try.func90 bI (aU.loops F) (Eq.trans (by kernel_rfl) h) (by kernel_rfl)
 ·cases h
def ba.l29 (F:Nat) (dc:Bb) :Nat->Sl->Sl->Int->Hp->OA
 | 0,_,_,_,_=>none
 | bX+1,aw,aN,aM,H8=>(bif (decide (aM<(aw.n:Int))) then ((Sl.idx aw aM 1).bind λp15=>(Hp.ldSl H8 p15.1 p15.2).bind λs16=>(Sl.idx aN aM 1).bind λp17=>(Hp.ldSl H8 p17.1 p17.2).bind λs18=>(dc s16 s18 H8).bind λr19=>((r19.1).asB).bind λb20=>(bif (!b20) then (some ((.bool false),r19.2)) else (ba.l29 F dc bX aw aN (wrap .i64 (aM+1)) r19.2))) else (some ((.bool true),H8)))
def ba.twX (dc:Bb) (aa:Sl) (ag:Sl) (H:Hp):OA:=(bif ((aa.n:Int) != (ag.n:Int)) then (some ((.bool false),H)) else (ba.l29 F dc F aa ag 0 H))
def ba.tw:=ba.twX F (aU.tw F)
def ba.lh29 (dc:Bb) (ks:Bc) (n:Nat) (tm:Tm) (H:Hp):OA:=match ks,tm 0,tm 1,tm 5 with
 | [],(.sl aw),(.sl aN),(.int .i64 aM)=>ba.l29 F dc n aw aN aM H
 | _,_,_,_=>none
def ba.lh (dc:Bb) (p:Nat) (ks:Bc) (n:Nat) (tm:Tm) (H:Hp):OA:=bif p.beq 29 then ba.lh29 F dc ks n tm H else (none)
def ba.pn:Nat->List Nat:=dt [(6,[8])]
def ba.tb:Nat->List (List Nat):=dt [(6,[[],[],[0,1],[0,1,2],[],[],[4,5],[4,5,6],[0,1,2,3,4,5,6,7],[0,1,2,3,4,5,6,7,8]])]
def ba.cs (F:Nat) (dc:Bb):Cs:=[(90,mk7 dc)]
theorem ba.loops (dc:Bb):LO (aT (ba.cs F dc)) ba.pn (ba.lh F dc) F Try.f67:=
 (ac.rt (ac.rt (ac.lt (ac.rt (ac.block (ac.la (λn tm H r h=>by change ba.lh29 F dc [] n tm H=_ at h;unfold ba.lh29 at h;split at h;have e:ci tm [(0,_),(1,_),(5,_)]:=⟨‹_›,‹_›,‹_›,trivial⟩;obtain _ | k29:=n;cases h;exact ⟨_,rfl,by rw [<- cj e];exact Eq.trans (by kernel_rfl) h⟩;cases h) λk29=>ac.no))))))
theorem ba.eqX (dc:Bb) (aa:Sl) (ag:Sl) (H:Hp):EX (aT (ba.cs F dc)) ba.pn (ba.lh F dc) F Try.f67 [(.sl aa),(.sl ag)] H=ba.twX F dc aa ag H:=by kernel_rfl
theorem ba.k:Ok Try.prog 67 (mk7 (ba.tw F)):=by
 intro args H v H' h
 unfold mk7 at h
 split at h
 ·exact okT (TB:=ba.tb) Try.func67 (bc (aU.k F) bI) (ba.loops F (aU.tw F)) ((ba.eqX F (aU.tw F) _ _ H).trans h) (by kernel_rfl)
 ·cases h
def cC.twX (F:Nat) (jo:Bb) (aa:Int) (aq:Sl) (ar:Int) (eG:Sl) (H:Hp):OA:=(Hp.new H [(.int .i64 aa),(.sl aq)]).bind λH5=>(Hp.new H5 [(.int .i64 ar),(.sl eG)]).bind λH6=>(Hp.ldI H6 .i64 H.length 0).bind λn7=>(Hp.ldI H6 .i64 H5.length 0).bind λn8=>(bif (n7 != n8) then (some ((.bool false),H6)) else ((Hp.ldSl H6 H.length 1).bind λs9=>(Hp.ldSl H6 H5.length 1).bind λs10=>(jo s9 s10 H6).bind λr11=>((r11.1).asB).bind λb12=>(bif (!b12) then (some ((.bool false),r11.2)) else (some ((.bool true),r11.2)))))
def cC.tw:=cC.twX F (ba.tw F)
def mk12 (g:Br) (args:Bd) (H:Hp):OA:=match args with
 | [(.agg [(.int .i64 aa),(.sl aq)]),(.agg [(.int .i64 ar),(.sl eG)])]=>g aa aq ar eG H
 | _=>none
theorem mk12_E (g:Br) (aa:Int) (aq:Sl) (ar:Int) (eG:Sl) (H:Hp):mk12 g [(.agg [(.int .i64 aa),(.sl aq)]),(.agg [(.int .i64 ar),(.sl eG)])] H=g aa aq ar eG H:=rfl
def cC.cs (F:Nat) (jo:Bb):Cs:=[(67,mk7 jo)]
theorem cC.eqX (jo:Bb) (aa:Int) (aq:Sl) (ar:Int) (eG:Sl) (H:Hp):EX (aT (cC.cs F jo)) aC lh0 F Try.f36 [(.agg [(.int .i64 aa),(.sl aq)]),(.agg [(.int .i64 ar),(.sl eG)])] H=cC.twX F jo aa aq ar eG H:=by kernel_rfl
theorem cC.k:Ok Try.prog 36 (mk12 (cC.tw F)):=by
 intro args H v H' h
 unfold mk12 at h
 split at h
 ·exact okT (TB:=aC) Try.func36 (bc (ba.k F) bI) ac.no ((cC.eqX F (ba.tw F) _ _ _ _ H).trans h) (by kernel_rfl)
 ·cases h
def dd.twX (F:Nat) (dc:Bb) (aa:Int) (aq:Sl) (ar:Int) (eG:Sl) (H:Hp):OA:=(Hp.new H [(.int .i64 aa),(.sl aq)]).bind λH5=>(Hp.new H5 [(.int .i64 ar),(.sl eG)]).bind λH6=>(Hp.ldI H6 .i64 H.length 0).bind λn7=>(Hp.ldI H6 .i64 H5.length 0).bind λn8=>(bif (n7 != n8) then (some ((.bool false),H6)) else ((Hp.ldSl H6 H.length 1).bind λs9=>(Hp.ldSl H6 H5.length 1).bind λs10=>(dc s9 s10 H6).bind λr11=>((r11.1).asB).bind λb12=>(bif (!b12) then (some ((.bool false),r11.2)) else (some ((.bool true),r11.2)))))
def dd.tw:=dd.twX F (aU.tw F)
def dd.cs (F:Nat) (dc:Bb):Cs:=[(90,mk7 dc)]
theorem dd.eqX (dc:Bb) (aa:Int) (aq:Sl) (ar:Int) (eG:Sl) (H:Hp):EX (aT (dd.cs F dc)) aC lh0 F Try.f37 [(.agg [(.int .i64 aa),(.sl aq)]),(.agg [(.int .i64 ar),(.sl eG)])] H=dd.twX F dc aa aq ar eG H:=by kernel_rfl
theorem dd.k:Ok Try.prog 37 (mk12 (dd.tw F)):=by
 intro args H v H' h
 unfold mk12 at h
 split at h
 ·exact okT (TB:=aC) Try.func37 (bc (aU.k F) bI) ac.no ((dd.eqX F (aU.tw F) _ _ _ _ H).trans h) (by kernel_rfl)
 ·cases h
def aQ.l13 (F:Nat) :Nat->Sl->Int->Int->Hp->OA
 | 0,_,_,_,_=>none
 | eS+1,aw,aN,bg,H7=>(bif (decide (bg<(aw.n:Int))) then ((Sl.idx aw bg 1).bind λp10=>(Hp.st H7 p10.1 p10.2 (.int .i64 aN)).bind λH11=>aQ.l13 F eS aw (wrap .i64 (aN+1)) (wrap .i64 (bg+1)) H11) else (some ((.int .i64 aN),H7)))
def aQ.twX (aa:Sl) (ag:Int) (H:Hp):OA:=aQ.l13 F F aa ag 0 H
def aQ.tw:=aQ.twX F
def aQ.lh13 (ks:Bc) (n:Nat) (tm:Tm) (H:Hp):OA:=match ks,tm 0,tm 1,tm 5 with
 | [],(.sl aw),(.int .i64 aN),(.int .i64 bg)=>aQ.l13 F n aw aN bg H
 | _,_,_,_=>none
def aQ.lh (p:Nat) (ks:Bc) (n:Nat) (tm:Tm) (H:Hp):OA:=bif p.beq 13 then aQ.lh13 F ks n tm H else (none)
theorem aQ.loops:LO (aT []) aC (aQ.lh F) F Try.f91:=
 (ac.rt (ac.lt (ac.rt (ac.block (ac.la (λn tm H r h=>by change aQ.lh13 F [] n tm H=_ at h;unfold aQ.lh13 at h;split at h;have e:ci tm [(0,_),(1,_),(5,_)]:=⟨‹_›,‹_›,‹_›,trivial⟩;obtain _ | k13:=n;cases h;exact ⟨_,rfl,by rw [<- cj e];exact Eq.trans (by kernel_rfl) h⟩;cases h) λk13=>ac.no)))))
theorem aQ.k:Ok Try.prog 91 (mk0 (aQ.tw F)):=by
 intro args H v H' h
 unfold mk0 at h
 split at h
 ·exact okT (PN:=aC) (LH:=(aQ.lh F)) (F:=F) (TB:=aC) Try.func91 bI (aQ.loops F) (Eq.trans (by kernel_rfl) h) (by kernel_rfl)
 ·cases h
def de.twX (F:Nat) (df:A_) (aa:Int) (aq:Sl) (ar:Int) (H:Hp):OA:=(Hp.new H [(.int .i64 aa),(.sl aq)]).bind λH4=>(Hp.ldSl H4 H.length 1).bind λs5=>(df s5 ar H4).bind λr6=>((r6.1).asI .i64).bind λn7=>some ((.int .i64 n7),r6.2)
def de.tw:=de.twX F (aQ.tw F)
def de.cs (F:Nat) (df:A_):Cs:=[(91,mk0 df)]
theorem de.eqX (df:A_) (aa:Int) (aq:Sl) (ar:Int) (H:Hp):EX (aT (de.cs F df)) aC lh0 F Try.f38 [(.agg [(.int .i64 aa),(.sl aq)]),(.int .i64 ar)] H=de.twX F df aa aq ar H:=by kernel_rfl
theorem de.k:Ok Try.prog 38 (mk1 (de.tw F)):=by
 intro args H v H' h
 unfold mk1 at h
 split at h
 ·exact okT (TB:=aC) Try.func38 (bc (aQ.k F) bI) ac.no ((de.eqX F (aQ.tw F) _ _ _ H).trans h) (by kernel_rfl)
 ·cases h
def bR.l13 (F:Nat) (df:A_) :Nat->Sl->Int->Int->Hp->OA
 | 0,_,_,_,_=>none
 | eS+1,aw,aN,bg,H7=>(bif (decide (bg<(aw.n:Int))) then ((Sl.idx aw bg 1).bind λp12=>(Hp.ldSl H7 p12.1 p12.2).bind λs13=>(df s13 aN H7).bind λr14=>((r14.1).asI .i64).bind λn15=>bR.l13 F df eS aw n15 (wrap .i64 (bg+1)) r14.2) else (some ((.int .i64 aN),H7)))
def bR.twX (df:A_) (aa:Sl) (ag:Int) (H:Hp):OA:=bR.l13 F df F aa ag 0 H
def bR.tw:=bR.twX F (aQ.tw F)
def bR.lh13 (df:A_) (ks:Bc) (n:Nat) (tm:Tm) (H:Hp):OA:=match ks,tm 0,tm 1,tm 5 with
 | [],(.sl aw),(.int .i64 aN),(.int .i64 bg)=>bR.l13 F df n aw aN bg H
 | _,_,_,_=>none
def bR.lh (df:A_) (p:Nat) (ks:Bc) (n:Nat) (tm:Tm) (H:Hp):OA:=bif p.beq 13 then bR.lh13 F df ks n tm H else (none)
def bR.cs (F:Nat) (df:A_):Cs:=[(91,mk0 df)]
theorem bR.loops (df:A_):LO (aT (bR.cs F df)) aC (bR.lh F df) F Try.f70:=
 (ac.rt (ac.lt (ac.rt (ac.block (ac.la (λn tm H r h=>by change bR.lh13 F df [] n tm H=_ at h;unfold bR.lh13 at h;split at h;have e:ci tm [(0,_),(1,_),(5,_)]:=⟨‹_›,‹_›,‹_›,trivial⟩;obtain _ | k13:=n;cases h;exact ⟨_,rfl,by rw [<- cj e];exact Eq.trans (by kernel_rfl) h⟩;cases h) λk13=>ac.no)))))
theorem bR.eqX (df:A_) (aa:Sl) (ag:Int) (H:Hp):EX (aT (bR.cs F df)) aC (bR.lh F df) F Try.f70 [(.sl aa),(.int .i64 ag)] H=bR.twX F df aa ag H:=by kernel_rfl
theorem bR.k:Ok Try.prog 70 (mk0 (bR.tw F)):=by
 intro args H v H' h
 unfold mk0 at h
 split at h
 ·exact okT (TB:=aC) Try.func70 (bc (aQ.k F) bI) (bR.loops F (aQ.tw F)) ((bR.eqX F (aQ.tw F) _ _ H).trans h) (by kernel_rfl)
 ·cases h
def dg.twX (F:Nat) (jp:A_) (aa:Int) (aq:Sl) (ar:Int) (H:Hp):OA:=(Hp.new H [(.int .i64 aa),(.sl aq)]).bind λH4=>(Hp.ldSl H4 H.length 1).bind λs5=>(jp s5 ar H4).bind λr6=>((r6.1).asI .i64).bind λn7=>some ((.int .i64 n7),r6.2)
def dg.tw:=dg.twX F (bR.tw F)
def dg.cs (F:Nat) (jp:A_):Cs:=[(70,mk0 jp)]
theorem dg.eqX (jp:A_) (aa:Int) (aq:Sl) (ar:Int) (H:Hp):EX (aT (dg.cs F jp)) aC lh0 F Try.f39 [(.agg [(.int .i64 aa),(.sl aq)]),(.int .i64 ar)] H=dg.twX F jp aa aq ar H:=by kernel_rfl
theorem dg.k:Ok Try.prog 39 (mk1 (dg.tw F)):=by
 intro args H v H' h
 unfold mk1 at h
 split at h
 ·exact okT (TB:=aC) Try.func39 (bc (bR.k F) bI) ac.no ((dg.eqX F (bR.tw F) _ _ _ H).trans h) (by kernel_rfl)
 ·cases h
def bs.l13 (F:Nat) :Nat->Sl->Int->Int->Hp->OA
 | 0,_,_,_,_=>none
 | eS+1,aw,aN,bg,H7=>(bif (decide (bg<(aw.n:Int))) then ((Sl.idx aw bg 1).bind λp10=>(Hp.ldI H7 .i64 p10.1 p10.2).bind λn11=>(bif (n11 != aN) then (some ((.int .i64 (-1)),H7)) else (bs.l13 F eS aw (wrap .i64 (aN+1)) (wrap .i64 (bg+1)) H7))) else (some ((.int .i64 aN),H7)))
def bs.twX (aa:Sl) (ag:Int) (H:Hp):OA:=bs.l13 F F aa ag 0 H
def bs.tw:=bs.twX F
def bs.lh13 (ks:Bc) (n:Nat) (tm:Tm) (H:Hp):OA:=match ks,tm 0,tm 1,tm 5 with
 | [],(.sl aw),(.int .i64 aN),(.int .i64 bg)=>bs.l13 F n aw aN bg H
 | _,_,_,_=>none
def bs.lh (p:Nat) (ks:Bc) (n:Nat) (tm:Tm) (H:Hp):OA:=bif p.beq 13 then bs.lh13 F ks n tm H else (none)
theorem bs.loops:LO (aT []) aC (bs.lh F) F Try.f92:=
 (ac.rt (ac.lt (ac.rt (ac.block (ac.la (λn tm H r h=>by change bs.lh13 F [] n tm H=_ at h;unfold bs.lh13 at h;split at h;have e:ci tm [(0,_),(1,_),(5,_)]:=⟨‹_›,‹_›,‹_›,trivial⟩;obtain _ | k13:=n;cases h;exact ⟨_,rfl,by rw [<- cj e];exact Eq.trans (by kernel_rfl) h⟩;cases h) λk13=>ac.no)))))
theorem bs.k:Ok Try.prog 92 (mk0 (bs.tw F)):=by
 intro args H v H' h
 unfold mk0 at h
 split at h
 ·exact okT (PN:=aC) (LH:=(bs.lh F)) (F:=F) (TB:=aC) Try.func92 bI (bs.loops F) (Eq.trans (by kernel_rfl) h) (by kernel_rfl)
 ·cases h
def bh.l13 (F:Nat) (dY:A_) :Nat->Sl->Int->Int->Hp->OA
 | 0,_,_,_,_=>none
 | eS+1,aw,aN,bg,H7=>(bif (decide (bg<(aw.n:Int))) then ((Sl.idx aw bg 1).bind λp12=>(Hp.ldSl H7 p12.1 p12.2).bind λs13=>(dY s13 aN H7).bind λr14=>((r14.1).asI .i64).bind λn15=>(bif (decide (n15<0)) then (some ((.int .i64 (-1)),r14.2)) else (bh.l13 F dY eS aw n15 (wrap .i64 (bg+1)) r14.2))) else (some ((.int .i64 aN),H7)))
def bh.twX (dY:A_) (aa:Sl) (ag:Int) (H:Hp):OA:=bh.l13 F dY F aa ag 0 H
def bh.tw:=bh.twX F (bs.tw F)
def bh.lh13 (dY:A_) (ks:Bc) (n:Nat) (tm:Tm) (H:Hp):OA:=match ks,tm 0,tm 1,tm 5 with
 | [],(.sl aw),(.int .i64 aN),(.int .i64 bg)=>bh.l13 F dY n aw aN bg H
 | _,_,_,_=>none
def bh.lh (dY:A_) (p:Nat) (ks:Bc) (n:Nat) (tm:Tm) (H:Hp):OA:=bif p.beq 13 then bh.lh13 F dY ks n tm H else (none)
def bh.cs (F:Nat) (dY:A_):Cs:=[(92,mk0 dY)]
theorem bh.loops (dY:A_):LO (aT (bh.cs F dY)) aC (bh.lh F dY) F Try.f71:=
 (ac.rt (ac.lt (ac.rt (ac.block (ac.la (λn tm H r h=>by change bh.lh13 F dY [] n tm H=_ at h;unfold bh.lh13 at h;split at h;have e:ci tm [(0,_),(1,_),(5,_)]:=⟨‹_›,‹_›,‹_›,trivial⟩;obtain _ | k13:=n;cases h;exact ⟨_,rfl,by rw [<- cj e];exact Eq.trans (by kernel_rfl) h⟩;cases h) λk13=>ac.no)))))
theorem bh.eqX (dY:A_) (aa:Sl) (ag:Int) (H:Hp):EX (aT (bh.cs F dY)) aC (bh.lh F dY) F Try.f71 [(.sl aa),(.int .i64 ag)] H=bh.twX F dY aa ag H:=by kernel_rfl
theorem bh.k:Ok Try.prog 71 (mk0 (bh.tw F)):=by
 intro args H v H' h
 unfold mk0 at h
 split at h
 ·exact okT (TB:=aC) Try.func71 (bc (bs.k F) bI) (bh.loops F (bs.tw F)) ((bh.eqX F (bs.tw F) _ _ H).trans h) (by kernel_rfl)
 ·cases h
def cO.twX (F:Nat) (jq:A_) (aa:Int) (aq:Sl) (ar:Int) (H:Hp):OA:=(Hp.new H [(.int .i64 aa),(.sl aq)]).bind λH4=>(Hp.ldSl H4 H.length 1).bind λs5=>(jq s5 ar H4).bind λr6=>((r6.1).asI .i64).bind λn7=>(bif (decide (n7<0)) then (some ((.int .i64 (-1)),r6.2)) else (some ((.int .i64 n7),r6.2)))
def cO.tw:=cO.twX F (bh.tw F)
def cO.cs (F:Nat) (jq:A_):Cs:=[(71,mk0 jq)]
theorem cO.eqX (jq:A_) (aa:Int) (aq:Sl) (ar:Int) (H:Hp):EX (aT (cO.cs F jq)) aC lh0 F Try.f40 [(.agg [(.int .i64 aa),(.sl aq)]),(.int .i64 ar)] H=cO.twX F jq aa aq ar H:=by kernel_rfl
theorem cO.k:Ok Try.prog 40 (mk1 (cO.tw F)):=by
 intro args H v H' h
 unfold mk1 at h
 split at h
 ·exact okT (TB:=aC) Try.func40 (bc (bh.k F) bI) ac.no ((cO.eqX F (bh.tw F) _ _ _ H).trans h) (by kernel_rfl)
 ·cases h
def cz.twX (F:Nat) (jr:Bi) (gd:Bf) (js:Bf) (hN:Bf) (gE:Br) (jt:Br) (ju:Bi) (jv:Bi) (hO:Bi) (aa:Int) (aq:Sl) (H:Hp):OA:=(Hp.new H [(.int .i64 aa),(.sl aq)]).bind λH3=>(Hp.ldI H3 .i64 H.length 0).bind λn4=>(Hp.ldSl H3 H.length (0+1)).bind λs5=>(jr n4 s5 1048576 H3).bind λr6=>((r6.1).asI .i64).bind λn7=>(bif (decide (n7<0)) then (some ((.bool true),r6.2)) else ((Hp.ldI r6.2 .i64 H.length 0).bind λn8=>(Hp.ldSl r6.2 H.length (0+1)).bind λs9=>(gd n8 s9 r6.2).bind λr10=>((r10.1).asAgg 2).bind λl11=>(l11[0]?).bind λv12=>((v12).asI .i64).bind λn13=>(l11[1]?).bind λv14=>((v14).asSl).bind λs15=>(js n13 s15 r10.2).bind λr16=>((r16.1).asTup 2).bind λl17=>(l17[0]?).bind λv18=>((v18).asAgg 2).bind λl19=>(l19[0]?).bind λv20=>((v20).asI .i64).bind λn21=>(l19[1]?).bind λv22=>((v22).asSl).bind λs23=>(l17[1]?).bind λv24=>((v24).asI .i64).bind λn25=>(Hp.new r16.2 [.int .i64 0,.sl ⟨none,0,.ex 0⟩]).bind λH26=>(Hp.st H26 r16.2.length 0 (.int .i64 n21)).bind λH27=>(Hp.st H27 r16.2.length (0+1) (.sl s23)).bind λH28=>(Hp.ldI H28 .i64 H.length 0).bind λn29=>(Hp.ldSl H28 H.length (0+1)).bind λs30=>(gd n29 s30 H28).bind λr31=>((r31.1).asAgg 2).bind λl32=>(l32[0]?).bind λv33=>((v33).asI .i64).bind λn34=>(l32[1]?).bind λv35=>((v35).asSl).bind λs36=>(Hp.new r31.2 [.int .i64 0,.sl ⟨none,0,.ex 0⟩]).bind λH37=>(Hp.st H37 r31.2.length 0 (.int .i64 n34)).bind λH38=>(Hp.st H38 r31.2.length (0+1) (.sl s36)).bind λH39=>(Hp.ldI H39 .i64 r31.2.length 0).bind λn40=>(Hp.ldSl H39 r31.2.length (0+1)).bind λs41=>(hN n40 s41 H39).bind λr42=>((r42.1).asTup 2).bind λl43=>(l43[0]?).bind λv44=>((v44).asAgg 2).bind λl45=>(l45[0]?).bind λv46=>((v46).asI .i64).bind λn47=>(l45[1]?).bind λv48=>((v48).asSl).bind λs49=>(l43[1]?).bind λv50=>((v50).asI .i64).bind λn51=>(Hp.new r42.2 [.int .i64 0,.sl ⟨none,0,.ex 0⟩]).bind λH52=>(Hp.st H52 r42.2.length 0 (.int .i64 n47)).bind λH53=>(Hp.st H53 r42.2.length (0+1) (.sl s49)).bind λH54=>(Hp.ldI H54 .i64 r42.2.length 0).bind λn55=>(Hp.ldSl H54 r42.2.length (0+1)).bind λs56=>(Hp.ldI H54 .i64 r16.2.length 0).bind λn57=>(Hp.ldSl H54 r16.2.length (0+1)).bind λs58=>(gE n55 s56 n57 s58 H54).bind λr59=>((r59.1).asB).bind λb60=>(bif (!b60) then (some ((.bool false),r59.2)) else ((bif (n51 != n25) then (some ((.bool false),r59.2)) else ((Hp.ldI r59.2 .i64 r31.2.length 0).bind λn61=>(Hp.ldSl r59.2 r31.2.length (0+1)).bind λs62=>(Hp.ldI r59.2 .i64 H.length 0).bind λn63=>(Hp.ldSl r59.2 H.length (0+1)).bind λs64=>(gd n63 s64 r59.2).bind λr65=>((r65.1).asAgg 2).bind λl66=>(l66[0]?).bind λv67=>((v67).asI .i64).bind λn68=>(l66[1]?).bind λv69=>((v69).asSl).bind λs70=>(if av r59.2 r65.2 then ((jt n61 s62 n68 s70 r65.2).bind λr71=>((r71.1).asB).bind λb72=>(bif (!b72) then (some ((.bool false),r71.2)) else ((Hp.ldI r71.2 .i64 r31.2.length 0).bind λn73=>(Hp.ldSl r71.2 r31.2.length (0+1)).bind λs74=>(ju n73 s74 1 r71.2).bind λr75=>((r75.1).asI .i64).bind λn76=>(bif (decide (n76<0)) then (some ((.bool false),r75.2)) else ((Hp.ldI r75.2 .i64 r42.2.length 0).bind λn77=>(Hp.ldSl r75.2 r42.2.length (0+1)).bind λs78=>(Hp.ldI r75.2 .i64 r16.2.length 0).bind λn79=>(Hp.ldSl r75.2 r16.2.length (0+1)).bind λs80=>(gE n77 s78 n79 s80 r75.2).bind λr81=>((r81.1).asB).bind λb82=>(bif (!b82) then (some ((.bool false),r81.2)) else ((bif (n51 != n25) then (some ((.bool false),r81.2)) else ((Hp.ldI r81.2 .i64 r42.2.length 0).bind λn83=>(Hp.ldSl r81.2 r42.2.length (0+1)).bind λs84=>(jv n83 s84 1 r81.2).bind λr85=>((r85.1).asI .i64).bind λn86=>(Hp.ldI r85.2 .i64 r42.2.length 0).bind λn87=>(Hp.ldSl r85.2 r42.2.length (0+1)).bind λs88=>(hO n87 s88 1 r85.2).bind λr89=>((r89.1).asI .i64).bind λn90=>(bif (decide (n90<0)) then (some ((.bool false),r89.2)) else ((bif (n90 != n86) then (some ((.bool false),r89.2)) else ((Hp.ldI r89.2 .i64 H.length 0).bind λn91=>(Hp.ldSl r89.2 H.length (0+1)).bind λs92=>(gd n91 s92 r89.2).bind λr93=>((r93.1).asAgg 2).bind λl94=>(l94[0]?).bind λv95=>((v95).asI .i64).bind λn96=>(l94[1]?).bind λv97=>((v97).asSl).bind λs98=>(hN n96 s98 r93.2).bind λr99=>((r99.1).asTup 2).bind λl100=>(l100[0]?).bind λv101=>((v101).asAgg 2).bind λl102=>(l102[0]?).bind λv103=>((v103).asI .i64).bind λn104=>(l102[1]?).bind λv105=>((v105).asSl).bind λs106=>(l100[1]?).bind λv107=>((v107).asI .i64).bind λn108=>(Hp.new r99.2 [.int .i64 0,.sl ⟨none,0,.ex 0⟩]).bind λH109=>(Hp.st H109 r99.2.length 0 (.int .i64 n104)).bind λH110=>(Hp.st H110 r99.2.length (0+1) (.sl s106)).bind λH111=>(Hp.ldI H111 .i64 r99.2.length 0).bind λn112=>(Hp.ldSl H111 r99.2.length (0+1)).bind λs113=>(Hp.ldI H111 .i64 r16.2.length 0).bind λn114=>(Hp.ldSl H111 r16.2.length (0+1)).bind λs115=>(gE n112 s113 n114 s115 H111).bind λr116=>((r116.1).asB).bind λb117=>(bif (!b117) then (some ((.bool false),r116.2)) else ((bif (n108 != n25) then (some ((.bool false),r116.2)) else ((Hp.ldI r116.2 .i64 r42.2.length 0).bind λn118=>(Hp.ldSl r116.2 r42.2.length (0+1)).bind λs119=>(hO n118 s119 1 r116.2).bind λr120=>((r120.1).asI .i64).bind λn121=>(bif (decide (n121<0)) then (some ((.bool false),r120.2)) else ((bif (n121 != n86) then (some ((.bool false),r120.2)) else (some ((.bool true),r120.2)))))))))))))))))))))) else none)))))))
def cz.tw:=cz.twX F (cU.tw F) (cv.tw F) (cZ.tw F) (cN.tw F) (cC.tw F) (dd.tw F) (de.tw F) (dg.tw F) (cO.tw F)
def cz.pn:Nat->List Nat:=dt [(10,[3])]
def cz.tb:Nat->List (List Nat):=dt [(10,[[],[],[1],[0,1,2],[0,1,2,3]])]
def cz.cs (F:Nat) (jr:Bi) (gd:Bf) (js:Bf) (hN:Bf) (gE:Br) (jt:Br) (ju:Bi) (jv:Bi) (hO:Bi):Cs:=[(32,mk1 jr),(34,mk3 gd),(33,mk3 js),(35,mk3 hN),(36,mk12 gE),(37,mk12 jt),(38,mk1 ju),(39,mk1 jv),(40,mk1 hO)]
theorem cz.eqX (jr:Bi) (gd:Bf) (js:Bf) (hN:Bf) (gE:Br) (jt:Br) (ju:Bi) (jv:Bi) (hO:Bi) (aa:Int) (aq:Sl) (H:Hp):EX (aT (cz.cs F jr gd js hN gE jt ju jv hO)) cz.pn lh0 F Try.f6 [(.agg [(.int .i64 aa),(.sl aq)])] H=cz.twX F jr gd js hN gE jt ju jv hO aa aq H:=by kernel_rfl
theorem cz.k:Ok Try.prog 6 (mk3 (cz.tw F)):=by
 intro args H v H' h
 unfold mk3 at h
 split at h
 ·exact okT (TB:=cz.tb) Try.func6 (bc (cU.k F) (bc (cv.k F) (bc (cZ.k F) (bc (cN.k F) (bc (cC.k F) (bc (dd.k F) (bc (de.k F) (bc (dg.k F) (bc (cO.k F) bI))))))))) ac.no ((cz.eqX F (cU.tw F) (cv.tw F) (cZ.tw F) (cN.tw F) (cC.tw F) (dd.tw F) (de.tw F) (dg.tw F) (cO.tw F) _ _ H).trans h) (by kernel_rfl)
 ·cases h
theorem cz.T {F:Nat} {aa:Int} {aq:Sl} {H:Hp} {v:AV} {H':Hp} (h:cz.tw F aa aq H=some (v,H')):Go.AE.T Try.prog 6 [(.agg [(.int .i64 aa),(.sl aq)])] H v H':=cz.k F _ _ _ _ ((mk3_E (cz.tw F) aa aq H).trans h)
end
end Go.Proofs.Ytodfdhnlhiaohaa.AE
