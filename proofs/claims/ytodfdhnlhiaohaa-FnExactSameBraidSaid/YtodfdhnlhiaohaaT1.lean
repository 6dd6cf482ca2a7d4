import Derived.Test.YtodfdhnlhiaohaaTab1
set_option linter.unusedVariables false
set_option linter.unusedSimpArgs false
namespace Go.Proofs.Ytodfdhnlhiaohaa.AE
open Go Go.AE Go.Proofs IntKind
variable (F:Nat)
set_option linter.unusedVariables false
set_option maxHeartbeats 4000000
set_option maxRecDepth 100000
noncomputable section
def du.twX (F:Nat) (aa:Sl) (ag:Int) (H:Hp):OA:=(bif (decide ((wrap .i64 (ag - (aa.n:Int)))<0)) then (some ((.int .i64 (-1)),H)) else (some ((.int .i64 (wrap .i64 (ag - (aa.n:Int)))),H)))
def du.tw:=du.twX F
def mk0 (g:Bd) (args:Bf) (H:Hp):OA:=match args with
 | [(.sl aa),(.int .i64 ag)]=>g aa ag H
 | _=>none
theorem mk0_E (g:Bd) (aa:Sl) (ag:Int) (H:Hp):mk0 g [(.sl aa),(.int .i64 ag)] H=g aa ag H:=rfl
theorem du.k:Ok Try.prog 93 (mk0 (du.tw F)):=by
 intro args H v H' h
 unfold mk0 at h
 split at h
 ·exact ok0 Try.func93 (Eq.trans (by kernel_rfl) h) (by kernel_rfl) (by kernel_rfl)
 ·cases h
def cj.twX (F:Nat) (io:Bd) (aa:Int) (ar:Sl) (ak:Int) (H:Hp):OA:=(Hp.new H [(.int .i64 aa),(.sl ar)]).bind λH4=>(Hp.ldSl H4 H.length 1).bind λs5=>(io s5 ak H4).bind λr6=>((r6.1).asI .i64).bind λn7=>(bif (decide (n7<0)) then (some ((.int .i64 (-1)),r6.2)) else (some ((.int .i64 n7),r6.2)))
def cj.tw:=cj.twX F (du.tw F)
def mk1 (g:Bu) (args:Bf) (H:Hp):OA:=match args with
 | [(.agg [(.int .i64 aa),(.sl ar)]),(.int .i64 ak)]=>g aa ar ak H
 | _=>none
theorem mk1_E (g:Bu) (aa:Int) (ar:Sl) (ak:Int) (H:Hp):mk1 g [(.agg [(.int .i64 aa),(.sl ar)]),(.int .i64 ak)] H=g aa ar ak H:=rfl
def cj.cs (F:Nat) (io:Bd):Cs:=[(93,mk0 io)]
theorem cj.eqX (io:Bd) (aa:Int) (ar:Sl) (ak:Int) (H:Hp):EX (a_ (cj.cs F io)) aO lh0 F Try.f32 [(.agg [(.int .i64 aa),(.sl ar)]),(.int .i64 ak)] H=cj.twX F io aa ar ak H:=by kernel_rfl
theorem cj.k:Ok Try.prog 32 (mk1 (cj.tw F)):=by
 intro args H v H' h
 unfold mk1 at h
 split at h
 ·exact okT (TB:=aO) Try.func32 (bf (du.k F) bN) ac.no ((cj.eqX F (du.tw F) _ _ _ H).trans h) (by kernel_rfl)
 ·cases h
def bs.l29 (F:Nat) :Nat->Sl->Sl->Int->Hp->OA
 | 0,_,_,_,_=>none
 | bH+1,aP,bv,aL,H7=>(bif (decide (aL<(aP.n:Int))) then ((Sl.idx aP aL 1).bind λp12=>(Hp.ldI H7 .i64 p12.1 p12.2).bind λn13=>(Sl.idx bv aL 1).bind λp14=>(Hp.st H7 p14.1 p14.2 (.int .i64 n13)).bind λH15=>bs.l29 F bH aP bv (wrap .i64 (aL+1)) H15) else (some ((.sl bv),H7)))
def bs.twX (aa:Sl) (H:Hp):OA:=(Hp.mk H [.int .i64 0] 8 (aa.n:Int) (aa.n:Int)).bind λm2=>bs.l29 F F aa m2.1 0 m2.2
def bs.tw:=bs.twX F
def bs.lh29 (ks:Be) (n:Nat) (tm:Tm) (H:Hp):OA:=match ks,tm 0,tm 3,tm 4 with
 | [],(.sl aP),(.sl bv),(.int .i64 aL)=>bs.l29 F n aP bv aL H
 | _,_,_,_=>none
def bs.lh (p:Nat) (ks:Be) (n:Nat) (tm:Tm) (H:Hp):OA:=bif p.beq 29 then bs.lh29 F ks n tm H else (none)
def mk2 (g:A_) (args:Bf) (H:Hp):OA:=match args with
 | [(.sl aa)]=>g aa H
 | _=>none
theorem mk2_E (g:A_) (aa:Sl) (H:Hp):mk2 g [(.sl aa)] H=g aa H:=rfl
theorem bs.loops:LO (a_ []) aO (bs.lh F) F Try.f95:=
 (ac.rt (ac.rt (ac.lt (ac.rt (ac.block (ac.la (λn tm H r h=>by change bs.lh29 F [] n tm H=_ at h;unfold bs.lh29 at h;split at h;have e:cf tm [(0,_),(3,_),(4,_)]:=⟨‹_›,‹_›,‹_›,trivial⟩;obtain _ | k29:=n;cases h;exact ⟨_,rfl,by rw [<- ci e];exact Eq.trans (by kernel_rfl) h⟩;cases h) λk29=>ac.no))))))
theorem bs.k:Ok Try.prog 95 (mk2 (bs.tw F)):=by
 intro args H v H' h
 unfold mk2 at h
 split at h
 ·exact okT (PN:=aO) (LH:=(bs.lh F)) (F:=F) (TB:=aO) Try.func95 bN (bs.loops F) (Eq.trans (by kernel_rfl) h) (by kernel_rfl)
 ·cases h
def bQ.twX (F:Nat) (ip:A_) (aa:Int) (ar:Sl) (H:Hp):OA:=(Hp.new H [(.int .i64 aa),(.sl ar)]).bind λH3=>(Hp.new H3 [.int .i64 0,.sl ⟨none,0,.ex 0⟩]).bind λH4=>(Hp.new H4 [.int .i64 0,.sl ⟨none,0,.ex 0⟩]).bind λH5=>(Hp.ldI H5 .i64 H.length 0).bind λn6=>(Hp.st H5 H4.length 0 (.int .i64 n6)).bind λH7=>(Hp.ldSl H7 H.length 1).bind λs8=>(ip s8 H7).bind λr9=>((r9.1).asSl).bind λs10=>(Hp.st r9.2 H4.length 1 (.sl s10)).bind λH11=>(Hp.ldI H11 .i64 H4.length 0).bind λn12=>(Hp.ldSl H11 H4.length (0+1)).bind λs13=>(Hp.st H11 H3.length 0 (.int .i64 n12)).bind λH14=>(Hp.st H14 H3.length (0+1) (.sl s13)).bind λH15=>(Hp.ldI H15 .i64 H3.length 0).bind λn16=>(Hp.ldSl H15 H3.length (0+1)).bind λs17=>some ((.agg [(.int .i64 n16),(.sl s17)]),H15)
def bQ.tw:=bQ.twX F (bs.tw F)
def mk3 (g:Bi) (args:Bf) (H:Hp):OA:=match args with
 | [(.agg [(.int .i64 aa),(.sl ar)])]=>g aa ar H
 | _=>none
theorem mk3_E (g:Bi) (aa:Int) (ar:Sl) (H:Hp):mk3 g [(.agg [(.int .i64 aa),(.sl ar)])] H=g aa ar H:=rfl
def bQ.cs (F:Nat) (ip:A_):Cs:=[(95,mk2 ip)]
theorem bQ.eqX (ip:A_) (aa:Int) (ar:Sl) (H:Hp):EX (a_ (bQ.cs F ip)) aO lh0 F Try.f34 [(.agg [(.int .i64 aa),(.sl ar)])] H=bQ.twX F ip aa ar H:=by kernel_rfl
theorem bQ.k:Ok Try.prog 34 (mk3 (bQ.tw F)):=by
 intro args H v H' h
 unfold mk3 at h
 split at h
 ·exact okT (TB:=aO) Try.func34 (bf (bs.k F) bN) ac.no ((bQ.eqX F (bs.tw F) _ _ H).trans h) (by kernel_rfl)
 ·cases h
def cw.twX (F:Nat) (aa:Int) (ag:Int) (dE:Int) (H:Hp):OA:=(bif (decide (aa>=ag)) then (some ((.bool (decide (aa<=dE))),H)) else (some ((.bool false),H)))
def cw.tw:=cw.twX F
def mk4 (g:Bh) (args:Bf) (H:Hp):OA:=match args with
 | [(.int .i64 aa),(.int .i64 ag),(.int .i64 dE)]=>g aa ag dE H
 | _=>none
theorem mk4_E (g:Bh) (aa:Int) (ag:Int) (dE:Int) (H:Hp):mk4 g [(.int .i64 aa),(.int .i64 ag),(.int .i64 dE)] H=g aa ag dE H:=rfl
theorem cw.k:Ok Try.prog 106 (mk4 (cw.tw F)):=by
 intro args H v H' h
 unfold mk4 at h
 split at h
 ·exact ok0 Try.func106 (Eq.trans (by kernel_rfl) h) (by kernel_rfl) (by kernel_rfl)
 ·cases h
def cx.twX (F:Nat) (cJ:Bh) (aa:Int) (ag:Int) (H:Hp):OA:=(bif (aa != 0) then ((cJ aa (wrap .i64 (1 - ag)) (wrap .i64 (ag - 1)) H).bind λr3=>((r3.1).asB).bind λb4=>some ((.bool b4),r3.2)) else (some ((.bool false),H)))
def cx.tw:=cx.twX F (cw.tw F)
def mk5 (g:Bl) (args:Bf) (H:Hp):OA:=match args with
 | [(.int .i64 aa),(.int .i64 ag)]=>g aa ag H
 | _=>none
theorem mk5_E (g:Bl) (aa:Int) (ag:Int) (H:Hp):mk5 g [(.int .i64 aa),(.int .i64 ag)] H=g aa ag H:=rfl
def cx.cs (F:Nat) (cJ:Bh):Cs:=[(106,mk4 cJ)]
theorem cx.eqX (cJ:Bh) (aa:Int) (ag:Int) (H:Hp):EX (a_ (cx.cs F cJ)) aO lh0 F Try.f111 [(.int .i64 aa),(.int .i64 ag)] H=cx.twX F cJ aa ag H:=by kernel_rfl
theorem cx.k:Ok Try.prog 111 (mk5 (cx.tw F)):=by
 intro args H v H' h
 unfold mk5 at h
 split at h
 ·exact okT (TB:=aO) Try.func111 (bf (cw.k F) bN) ac.no ((cx.eqX F (cw.tw F) _ _ H).trans h) (by kernel_rfl)
 ·cases h
def aS.l29 (F:Nat) (cJ:Bh) (dG:Bl) :Nat->Nat->Nat->Int->Hp->OA
 | 0,_,_,_,_=>none
 | bH+1,de,iq,dx,H15=>(Hp.ldSl H15 de (iq+1)).bind λs23=>(bif (decide (dx<(s23.n:Int))) then ((Hp.ldSl H15 de (iq+1)).bind λs24=>(Sl.idx s24 dx 1).bind λp25=>(Hp.ldI H15 .i64 p25.1 p25.2).bind λn26=>(Hp.ldI H15 .i64 de iq).bind λn27=>(dG n26 n27 H15).bind λr28=>((r28.1).asB).bind λb29=>(bif (!b29) then (some ((.bool false),r28.2)) else (aS.l29 F cJ dG bH de iq (wrap .i64 (dx+1)) r28.2))) else (some ((.bool true),H15)))
termination_by structural n=>n
def aS.twX (cJ:Bh) (dG:Bl) (aa:Int) (ar:Sl) (H:Hp):OA:=(Hp.new H [(.int .i64 aa),(.sl ar)]).bind λH3=>(Hp.ldI H3 .i64 H.length 0).bind λn4=>(cJ n4 1 6 H3).bind λr5=>((r5.1).asB).bind λb6=>(bif (!b6) then (some ((.bool false),r5.2)) else ((Hp.ldSl r5.2 H.length 1).bind λs7=>(bif (decide ((s7.n:Int)>24)) then (some ((.bool false),r5.2)) else (aS.l29 F cJ dG F H.length 0 0 r5.2))))
def aS.tw:=aS.twX F (cw.tw F) (cx.tw F)
def aS.lh29 (cJ:Bh) (dG:Bl) (ks:Be) (n:Nat) (tm:Tm) (H:Hp):OA:=match ks,tm 1,tm 3 with
 | [],(.ptr de iq),(.int .i64 dx)=>aS.l29 F cJ dG n de iq dx H
 | _,_,_=>none
def aS.lh (cJ:Bh) (dG:Bl) (p:Nat) (ks:Be) (n:Nat) (tm:Tm) (H:Hp):OA:=bif p.beq 29 then aS.lh29 F cJ dG ks n tm H else (none)
def aS.pn:Nat->List Nat:=cG [(6,[7])]
def aS.tb:Nat->List (List Nat):=cG [(6,[[],[0],[],[0,1,2],[0,1,2,3],[],[5],[0,1,2,3,4,5,6],[0,1,2,3,4,5,6,7]])]
def aS.cs (F:Nat) (cJ:Bh) (dG:Bl):Cs:=[(106,mk4 cJ),(111,mk5 dG)]
theorem aS.loops (cJ:Bh) (dG:Bl):LO (a_ (aS.cs F cJ dG)) aS.pn (aS.lh F cJ dG) F Try.f49:=
 (ac.rt (ac.rt (ac.lt (ac.rt (ac.block (ac.la (λn tm H r h=>by change aS.lh29 F cJ dG [] n tm H=_ at h;unfold aS.lh29 at h;split at h;have e:cf tm [(1,_),(3,_)]:=⟨‹_›,‹_›,trivial⟩;obtain _ | k29:=n;cases h;exact ⟨_,rfl,by rw [<- ci e];exact Eq.trans (by kernel_rfl) h⟩;cases h) λk29=>ac.no))))))
theorem aS.eqX (cJ:Bh) (dG:Bl) (aa:Int) (ar:Sl) (H:Hp):EX (a_ (aS.cs F cJ dG)) aS.pn (aS.lh F cJ dG) F Try.f49 [(.agg [(.int .i64 aa),(.sl ar)])] H=aS.twX F cJ dG aa ar H:=by kernel_rfl
theorem aS.k:Ok Try.prog 49 (mk3 (aS.tw F)):=by
 intro args H v H' h
 unfold mk3 at h
 split at h
 ·exact okT (TB:=aS.tb) Try.func49 (bf (cw.k F) (bf (cx.k F) bN)) (aS.loops F (cw.tw F) (cx.tw F)) ((aS.eqX F (cw.tw F) (cx.tw F) _ _ H).trans h) (by kernel_rfl)
 ·cases h
def aU.l29 (F:Nat) :Nat->Int->Sl->Int->Hp->OA
 | 0,_,_,_,_=>none
 | bH+1,aP,bv,aL,H7=>(bif (decide (aL<aP)) then ((Hp.new H7 [(.int .i64 aL)]).bind λH11=>(Sl.row H11 (⟨some (H7.length,0),1,.ex 1⟩:Sl) 1).bind λxs13=>(Hp.app H11 1 8 bv (⟨some (H7.length,0),1,.ex 1⟩:Sl).n xs13).bind λa12=>aU.l29 F bH aP a12.1 (wrap .i64 (aL+1)) a12.2) else (some ((.sl bv),H7)))
def aU.twX (aa:Int) (H:Hp):OA:=(Hp.new H []).bind λH2=>aU.l29 F F aa (⟨some (H.length,0),0,.ex 0⟩:Sl) 0 H2
def aU.tw:=aU.twX F
def aU.lh29 (ks:Be) (n:Nat) (tm:Tm) (H:Hp):OA:=match ks,tm 0,tm 3,tm 4 with
 | [],(.int .i64 aP),(.sl bv),(.int .i64 aL)=>aU.l29 F n aP bv aL H
 | _,_,_,_=>none
def aU.lh (p:Nat) (ks:Be) (n:Nat) (tm:Tm) (H:Hp):OA:=bif p.beq 29 then aU.lh29 F ks n tm H else (none)
def mk6 (g:AZ) (args:Bf) (H:Hp):OA:=match args with
 | [(.int .i64 aa)]=>g aa H
 | _=>none
theorem mk6_E (g:AZ) (aa:Int) (H:Hp):mk6 g [(.int .i64 aa)] H=g aa H:=rfl
theorem aU.loops:LO (a_ []) aO (aU.lh F) F Try.f145:=
 (ac.rt (ac.rt (ac.lt (ac.rt (ac.block (ac.la (λn tm H r h=>by change aU.lh29 F [] n tm H=_ at h;unfold aU.lh29 at h;split at h;have e:cf tm [(0,_),(3,_),(4,_)]:=⟨‹_›,‹_›,‹_›,trivial⟩;obtain _ | k29:=n;cases h;exact ⟨_,rfl,by rw [<- ci e];exact Eq.trans (by kernel_rfl) h⟩;cases h) λk29=>ac.no))))))
theorem aU.k:Ok Try.prog 145 (mk6 (aU.tw F)):=by
 intro args H v H' h
 unfold mk6 at h
 split at h
 ·exact okT (PN:=aO) (LH:=(aU.lh F)) (F:=F) (TB:=aO) Try.func145 bN (aU.loops F) (Eq.trans (by kernel_rfl) h) (by kernel_rfl)
 ·cases h
def ap.j4 (F:Nat) (C29_:Br) (uI:Sl) (ir:Int) (uJ:Sl) (iu:Int) (H65:Hp):OA:=C29_ uI ir uJ (wrap .i64 (iu+1)) H65
def ap.j5 (F:Nat) (C29_:Br) (uK:Sl) (iw:Int) (uL:Sl) (iy:Int) (H88:Hp):OA:=C29_ uK iw uL (wrap .i64 (iy+1)) H88
def ap.j6 (C29_:Br) (uM:Sl) (iz:Int) (uN:Sl) (iA:Int) (H78:Hp):OA:=ap.j5 F C29_ uM iz uN iA H78
def ap.l29 (F:Nat) :Nat->Sl->Int->Sl->Int->Hp->OA
 | 0,_,_,_,_,_=>none
 | bH+1,dH,cK,bg,dy,H9=>(bif (decide (dy<(dH.n:Int))) then ((Sl.idx dH dy 1).bind λp52=>(Hp.ldI H9 .i64 p52.1 p52.2).bind λn53=>(bif (n53==(wrap .i64 (cK - 1))) then ((Hp.new H9 [(.int .i64 cK)]).bind λH54=>(Sl.row H54 (⟨some (H9.length,0),1,.ex 1⟩:Sl) 1).bind λxs56=>(Hp.app H54 1 8 bg (⟨some (H9.length,0),1,.ex 1⟩:Sl).n xs56).bind λa55=>ap.j4 F (ap.l29 F bH) dH cK a55.1 dy a55.2) else ((bif (n53==cK) then ((Hp.new H9 [(.int .i64 (wrap .i64 (cK - 1)))]).bind λH66=>(Sl.row H66 (⟨some (H9.length,0),1,.ex 1⟩:Sl) 1).bind λxs68=>(Hp.app H66 1 8 bg (⟨some (H9.length,0),1,.ex 1⟩:Sl).n xs68).bind λa67=>ap.j6 F (ap.l29 F bH) dH cK a67.1 dy a67.2) else ((Sl.idx dH dy 1).bind λp89=>(Hp.ldI H9 .i64 p89.1 p89.2).bind λn90=>(Hp.new H9 [(.int .i64 n90)]).bind λH91=>(Sl.row H91 (⟨some (H9.length,0),1,.ex 1⟩:Sl) 1).bind λxs93=>(Hp.app H91 1 8 bg (⟨some (H9.length,0),1,.ex 1⟩:Sl).n xs93).bind λa92=>ap.j6 F (ap.l29 F bH) dH cK a92.1 dy a92.2))))) else (some ((.sl bg),H9)))
def ap.twX (aa:Sl) (ag:Int) (H:Hp):OA:=(Hp.new H []).bind λH3=>ap.l29 F F aa ag (⟨some (H.length,0),0,.ex 0⟩:Sl) 0 H3
def ap.tw:=ap.twX F
def ap.lh29 (ks:Be) (n:Nat) (tm:Tm) (H:Hp):OA:=match ks,tm 0,tm 1,tm 5,tm 6 with
 | [],(.sl dH),(.int .i64 cK),(.sl bg),(.int .i64 dy)=>ap.l29 F n dH cK bg dy H
 | _,_,_,_,_=>none
def ap.lh (p:Nat) (ks:Be) (n:Nat) (tm:Tm) (H:Hp):OA:=bif p.beq 29 then ap.lh29 F ks n tm H else (none)
theorem ap.loops:LO (a_ []) aO (ap.lh F) F Try.f144:=
 (ac.rt (ac.rt (ac.lt (ac.rt (ac.block (ac.la (λn tm H r h=>by change ap.lh29 F [] n tm H=_ at h;unfold ap.lh29 at h;split at h;have e:cf tm [(0,_),(1,_),(5,_),(6,_)]:=⟨‹_›,‹_›,‹_›,‹_›,trivial⟩;obtain _ | k29:=n;cases h;exact ⟨_,rfl,by rw [<- ci e];exact Eq.trans (by kernel_rfl) h⟩;cases h) λk29=>ac.no))))))
theorem ap.k:Ok Try.prog 144 (mk0 (ap.tw F)):=by
 intro args H v H' h
 unfold mk0 at h
 split at h
 ·exact okT (PN:=aO) (LH:=(ap.lh F)) (F:=F) (TB:=aO) Try.func144 bN (ap.loops F) (Eq.trans (by kernel_rfl) h) (by kernel_rfl)
 ·cases h
def aX.l61 (F:Nat) :Nat->Sl->Int->Sl->Int->Hp->OA
 | 0,_,_,_,_,_=>none
 | mW+1,aP,bv,aL,bg,H8=>(bif (decide (bg<bv)) then ((Sl.idx aP (wrap .i64 ((wrap .i64 (bv - 1)) - bg)) 1).bind λp14=>(Hp.ldI H8 .i64 p14.1 p14.2).bind λn15=>(Hp.new H8 [(.int .i64 (wrap .i64 ((wrap .i64 (bv - 1)) - n15)))]).bind λH16=>(Sl.row H16 (⟨some (H8.length,0),1,.ex 1⟩:Sl) 1).bind λxs18=>(Hp.app H16 1 8 aL (⟨some (H8.length,0),1,.ex 1⟩:Sl).n xs18).bind λa17=>aX.l61 F mW aP bv a17.1 (wrap .i64 (bg+1)) a17.2) else (some ((.sl aL),H8)))
def aX.twX (aa:Sl) (H:Hp):OA:=(Hp.new H []).bind λH2=>aX.l61 F F aa (aa.n:Int) (⟨some (H.length,0),0,.ex 0⟩:Sl) 0 H2
def aX.tw:=aX.twX F
def aX.lh61 (ks:Be) (n:Nat) (tm:Tm) (H:Hp):OA:=match ks,tm 0,tm 3,tm 4,tm 5 with
 | [],(.sl aP),(.int .i64 bv),(.sl aL),(.int .i64 bg)=>aX.l61 F n aP bv aL bg H
 | _,_,_,_,_=>none
def aX.lh (p:Nat) (ks:Be) (n:Nat) (tm:Tm) (H:Hp):OA:=bif p.beq 61 then aX.lh61 F ks n tm H else (none)
theorem aX.loops:LO (a_ []) aO (aX.lh F) F Try.f146:=
 (ac.rt (ac.rt (ac.rt (ac.lt (ac.rt (ac.block (ac.la (λn tm H r h=>by change aX.lh61 F [] n tm H=_ at h;unfold aX.lh61 at h;split at h;have e:cf tm [(0,_),(3,_),(4,_),(5,_)]:=⟨‹_›,‹_›,‹_›,‹_›,trivial⟩;obtain _ | k61:=n;cases h;exact ⟨_,rfl,by rw [<- ci e];exact Eq.trans (by kernel_rfl) h⟩;cases h) λk61=>ac.no)))))))
theorem aX.k:Ok Try.prog 146 (mk2 (aX.tw F)):=by
 intro args H v H' h
 unfold mk2 at h
 split at h
 ·exact okT (PN:=aO) (LH:=(aX.lh F)) (F:=F) (TB:=aO) Try.func146 bN (aX.loops F) (Eq.trans (by kernel_rfl) h) (by kernel_rfl)
 ·cases h
def aV.l29 (F:Nat) :Nat->Int->Sl->Int->Hp->OA
 | 0,_,_,_,_=>none
 | bH+1,aP,bv,aL,H7=>(bif (decide (aL<aP)) then ((Hp.new H7 [(.int .i64 (wrap .i64 ((wrap .i64 (aP - 1)) - aL)))]).bind λH11=>(Sl.row H11 (⟨some (H7.length,0),1,.ex 1⟩:Sl) 1).bind λxs13=>(Hp.app H11 1 8 bv (⟨some (H7.length,0),1,.ex 1⟩:Sl).n xs13).bind λa12=>aV.l29 F bH aP a12.1 (wrap .i64 (aL+1)) a12.2) else (some ((.sl bv),H7)))
def aV.twX (aa:Int) (H:Hp):OA:=(Hp.new H []).bind λH2=>aV.l29 F F aa (⟨some (H.length,0),0,.ex 0⟩:Sl) 0 H2
def aV.tw:=aV.twX F
def aV.lh29 (ks:Be) (n:Nat) (tm:Tm) (H:Hp):OA:=match ks,tm 0,tm 3,tm 4 with
 | [],(.int .i64 aP),(.sl bv),(.int .i64 aL)=>aV.l29 F n aP bv aL H
 | _,_,_,_=>none
def aV.lh (p:Nat) (ks:Be) (n:Nat) (tm:Tm) (H:Hp):OA:=bif p.beq 29 then aV.lh29 F ks n tm H else (none)
theorem aV.loops:LO (a_ []) aO (aV.lh F) F Try.f147:=
 (ac.rt (ac.rt (ac.lt (ac.rt (ac.block (ac.la (λn tm H r h=>by change aV.lh29 F [] n tm H=_ at h;unfold aV.lh29 at h;split at h;have e:cf tm [(0,_),(3,_),(4,_)]:=⟨‹_›,‹_›,‹_›,trivial⟩;obtain _ | k29:=n;cases h;exact ⟨_,rfl,by rw [<- ci e];exact Eq.trans (by kernel_rfl) h⟩;cases h) λk29=>ac.no))))))
theorem aV.k:Ok Try.prog 147 (mk6 (aV.tw F)):=by
 intro args H v H' h
 unfold mk6 at h
 split at h
 ·exact okT (PN:=aO) (LH:=(aV.lh F)) (F:=F) (TB:=aO) Try.func147 bN (aV.loops F) (Eq.trans (by kernel_rfl) h) (by kernel_rfl)
 ·cases h
def bh.l29 (F:Nat) :Nat->Sl->Sl->Int->Hp->OA
 | 0,_,_,_,_=>none
 | bH+1,aP,bv,aL,H7=>(bif (decide (aL<(aP.n:Int))) then ((Sl.idx aP aL 1).bind λp12=>(Hp.ldI H7 .i64 p12.1 p12.2).bind λn13=>(Sl.idx bv n13 1).bind λp14=>(Hp.st H7 p14.1 p14.2 (.int .i64 aL)).bind λH15=>bh.l29 F bH aP bv (wrap .i64 (aL+1)) H15) else (some ((.sl bv),H7)))
def bh.twX (aa:Sl) (H:Hp):OA:=(Hp.mk H [.int .i64 0] 8 (aa.n:Int) (aa.n:Int)).bind λm2=>bh.l29 F F aa m2.1 0 m2.2
def bh.tw:=bh.twX F
def bh.lh29 (ks:Be) (n:Nat) (tm:Tm) (H:Hp):OA:=match ks,tm 0,tm 3,tm 4 with
 | [],(.sl aP),(.sl bv),(.int .i64 aL)=>bh.l29 F n aP bv aL H
 | _,_,_,_=>none
def bh.lh (p:Nat) (ks:Be) (n:Nat) (tm:Tm) (H:Hp):OA:=bif p.beq 29 then bh.lh29 F ks n tm H else (none)
theorem bh.loops:LO (a_ []) aO (bh.lh F) F Try.f208:=
 (ac.rt (ac.rt (ac.lt (ac.rt (ac.block (ac.la (λn tm H r h=>by change bh.lh29 F [] n tm H=_ at h;unfold bh.lh29 at h;split at h;have e:cf tm [(0,_),(3,_),(4,_)]:=⟨‹_›,‹_›,‹_›,trivial⟩;obtain _ | k29:=n;cases h;exact ⟨_,rfl,by rw [<- ci e];exact Eq.trans (by kernel_rfl) h⟩;cases h) λk29=>ac.no))))))
theorem bh.k:Ok Try.prog 208 (mk2 (bh.tw F)):=by
 intro args H v H' h
 unfold mk2 at h
 split at h
 ·exact okT (PN:=aO) (LH:=(bh.lh F)) (F:=F) (TB:=aO) Try.func208 bN (bh.loops F) (Eq.trans (by kernel_rfl) h) (by kernel_rfl)
 ·cases h
def da.twX (F:Nat) (aa:Sl) (ag:Int) (H:Hp):OA:=(Hp.new H []).bind λH3=>(Sl.row H3 aa 1).bind λxs5=>(Hp.app H3 1 8 (⟨some (H.length,0),0,.ex 0⟩:Sl) aa.n xs5).bind λa4=>(Sl.idx aa ag 1).bind λp6=>(Hp.ldI a4.2 .i64 p6.1 p6.2).bind λn7=>(Sl.idx a4.1 (wrap .i64 (ag - 1)) 1).bind λp8=>(Hp.st a4.2 p8.1 p8.2 (.int .i64 n7)).bind λH9=>(Sl.idx aa (wrap .i64 (ag - 1)) 1).bind λp10=>(Hp.ldI H9 .i64 p10.1 p10.2).bind λn11=>(Sl.idx a4.1 ag 1).bind λp12=>(Hp.st H9 p12.1 p12.2 (.int .i64 n11)).bind λH13=>some ((.sl a4.1),H13)
def da.tw:=da.twX F
theorem da.k:Ok Try.prog 209 (mk0 (da.tw F)):=by
 intro args H v H' h
 unfold mk0 at h
 split at h
 ·exact ok0 Try.func209 (Eq.trans (by kernel_rfl) h) (by kernel_rfl) (by kernel_rfl)
 ·cases h
def ay.j1 (F:Nat) (dj:A_) (aA:Bd) (dk:Bd) (iB:Sl) (mX:Sl) (H33:Hp):OA:=some ((.tup [(.sl iB),(.sl mX),(.bool false)]),H33)
def ay.l29 (F:Nat) (dj:A_) (aA:Bd) (dk:Bd) :Nat->Sl->Sl->Sl->Int->Hp->OA
 | 0,_,_,_,_,_=>none
 | bH+1,eU,gp,iC,cN,H12=>(bif (decide (cN<(eU.n:Int))) then ((Sl.idx gp (wrap .i64 (cN - 1)) 1).bind λp34=>(Hp.ldI H12 .i64 p34.1 p34.2).bind λn35=>(Sl.idx gp cN 1).bind λp36=>(Hp.ldI H12 .i64 p36.1 p36.2).bind λn37=>(bif (decide (n35>n37)) then ((Sl.idx iC (wrap .i64 (cN - 1)) 1).bind λp38=>(Hp.ldI H12 .i64 p38.1 p38.2).bind λn39=>(Sl.idx iC cN 1).bind λp40=>(Hp.ldI H12 .i64 p40.1 p40.2).bind λn41=>(bif (decide (n39<n41)) then ((aA eU cN H12).bind λr42=>((r42.1).asSl).bind λs43=>(dk gp cN r42.2).bind λr44=>((r44.1).asSl).bind λs45=>some ((.tup [(.sl s43),(.sl s45),(.bool true)]),r44.2)) else (ay.l29 F dj aA dk bH eU gp iC (wrap .i64 (cN+1)) H12))) else (ay.l29 F dj aA dk bH eU gp iC (wrap .i64 (cN+1)) H12))) else (ay.j1 F dj aA dk eU gp H12))
def ay.twX (dj:A_) (aA:Bd) (dk:Bd) (aa:Sl) (ag:Sl) (H:Hp):OA:=(dj aa H).bind λr3=>((r3.1).asSl).bind λs4=>ay.l29 F dj aA dk F aa ag s4 1 r3.2
def ay.tw:=ay.twX F (bh.tw F) (ap.tw F) (da.tw F)
def ay.lh29 (dj:A_) (aA:Bd) (dk:Bd) (ks:Be) (n:Nat) (tm:Tm) (H:Hp):OA:=match ks,tm 0,tm 1,tm 7,tm 8 with
 | [],(.sl eU),(.sl gp),(.sl iC),(.int .i64 cN)=>ay.l29 F dj aA dk n eU gp iC cN H
 | _,_,_,_,_=>none
def ay.lh (dj:A_) (aA:Bd) (dk:Bd) (p:Nat) (ks:Be) (n:Nat) (tm:Tm) (H:Hp):OA:=bif p.beq 29 then ay.lh29 F dj aA dk ks n tm H else (none)
def ay.tb:Nat->List (List Nat):=cG [(5,[[],[],[1],[0,1,2],[0,1,2,3],[],[],[5,6],[5,6,7],[0,1,2,3,4,5,6,7,8],[0,1,2,3,4,5,6,7,8,9],[0,1,2,3,4,5,6,7,8,9,10],[0,1,2,3,4,5,6,7,8,9,10],[0,1,2,3,4,5,6,7,8,9,10,12],[0,1,2,3,4,5,6,7,8,9,10,11,12,13],[0,1,2,3,4,5,6,7,8,9,10,11,12,13,14],[0,1,2,3,4,5,6,7,8,9,10],[0,1,2,3,4,5,6,7,8,9,10],[0,1,2,3,4,5,6,7,8,9,10,16,17],[0,1,2,3,4,5,6,7,8,9,10,16,17,18],[0,1,2,3,4,5,6,7,8,9,10,11,12,13,14,15,16,17,18,19],[0,1,2,3,4,5,6,7,8,9,10,11,12,13,14,15,16,17,18,19,20]])]
def mk7 (g:Bb) (args:Bf) (H:Hp):OA:=match args with
 | [(.sl aa),(.sl ag)]=>g aa ag H
 | _=>none
theorem mk7_E (g:Bb) (aa:Sl) (ag:Sl) (H:Hp):mk7 g [(.sl aa),(.sl ag)] H=g aa ag H:=rfl
def ay.cs (F:Nat) (dj:A_) (aA:Bd) (dk:Bd):Cs:=[(208,mk2 dj),(144,mk0 aA),(209,mk0 dk)]
theorem ay.loops (dj:A_) (aA:Bd) (dk:Bd):LO (a_ (ay.cs F dj aA dk)) aO (ay.lh F dj aA dk) F Try.f183:=
 (ac.rt (ac.rt (ac.lt (ac.rt (ac.block (ac.la (λn tm H r h=>by change ay.lh29 F dj aA dk [] n tm H=_ at h;unfold ay.lh29 at h;split at h;have e:cf tm [(0,_),(1,_),(7,_),(8,_)]:=⟨‹_›,‹_›,‹_›,‹_›,trivial⟩;obtain _ | k29:=n;cases h;exact ⟨_,rfl,by rw [<- ci e];exact Eq.trans (by kernel_rfl) h⟩;cases h) λk29=>ac.no))))))
theorem ay.eqX (dj:A_) (aA:Bd) (dk:Bd) (aa:Sl) (ag:Sl) (H:Hp):EX (a_ (ay.cs F dj aA dk)) aO (ay.lh F dj aA dk) F Try.f183 [(.sl aa),(.sl ag)] H=ay.twX F dj aA dk aa ag H:=by kernel_rfl
theorem ay.k:Ok Try.prog 183 (mk7 (ay.tw F)):=by
 intro args H v H' h
 unfold mk7 at h
 split at h
 ·exact okT (TB:=ay.tb) Try.func183 (bf (bh.k F) (bf (ap.k F) (bf (da.k F) bN))) (ay.loops F (bh.tw F) (ap.tw F) (da.tw F)) ((ay.eqX F (bh.tw F) (ap.tw F) (da.tw F) _ _ H).trans h) (by kernel_rfl)
 ·cases h
def av.j2 (F:Nat) (df:Bb) (C29_:Bd) (uO:Sl) (iD:Int) (H61:Hp):OA:=C29_ uO (wrap .i64 (iD+1)) H61
def av.l29 (F:Nat) (df:Bb) :Nat->Sl->Int->Hp->OA
 | 0,_,_,_=>none
 | bH+1,cT,cO,H9=>(bif (decide ((wrap .i64 (cO+1))<(cT.n:Int))) then ((Sl.idx cT cO 1).bind λp36=>(Hp.ldSl H9 p36.1 p36.2).bind λs37=>(Sl.idx cT (wrap .i64 (cO+1)) 1).bind λp38=>(Hp.ldSl H9 p38.1 p38.2).bind λs39=>(df s37 s39 H9).bind λr40=>((r40.1).asTup 3).bind λl41=>(l41[0]?).bind λv42=>((v42).asSl).bind λs43=>(l41[1]?).bind λv44=>((v44).asSl).bind λs45=>(l41[2]?).bind λv46=>((v46).asB).bind λb47=>(bif b47 then ((Sl.idx cT cO 1).bind λp48=>(Hp.st r40.2 p48.1 p48.2 (.sl s43)).bind λH49=>(Sl.idx cT (wrap .i64 (cO+1)) 1).bind λp50=>(Hp.st H49 p50.1 p50.2 (.sl s45)).bind λH51=>av.j2 F df (av.l29 F df bH) cT (-1) H51) else (av.j2 F df (av.l29 F df bH) cT cO r40.2))) else (some ((.sl cT),H9)))
def av.twX (df:Bb) (aa:Sl) (H:Hp):OA:=(Hp.new H []).bind λH2=>(Sl.row H2 aa 1).bind λxs4=>(Hp.app H2 1 24 (⟨some (H.length,0),0,.ex 0⟩:Sl) aa.n xs4).bind λa3=>av.l29 F df F a3.1 0 a3.2
def av.tw:=av.twX F (ay.tw F)
def av.lh29 (df:Bb) (ks:Be) (n:Nat) (tm:Tm) (H:Hp):OA:=match ks,tm 3,tm 4 with
 | [],(.sl cT),(.int .i64 cO)=>av.l29 F df n cT cO H
 | _,_,_=>none
def av.lh (df:Bb) (p:Nat) (ks:Be) (n:Nat) (tm:Tm) (H:Hp):OA:=bif p.beq 29 then av.lh29 F df ks n tm H else (none)
def av.pn:Nat->List Nat:=cG [(5,[9])]
def av.tb:Nat->List (List Nat):=cG [(5,[[],[],[0,1],[0,1,2],[],[],[5],[4,5,6],[4,5,6,7],[0,1,2,3,4,5,6,7,8],[0,1,2,3,4,5,6,7,8,9],[0,1,2,3,4,5,6,7,8,9,10],[0,1,2,3,4,5,6,7,8,9,10],[0,1,2,3,4,5,6,7,8,9,10],[0,1,2,3,4,5,6,7,8,9,10,11],[0,1,2,3,4,5,6,7,8,9,10,11,12,14],[0,1,2,3,4,5,6,7,8,9,10,11,12,13,14,15]])]
def av.cs (F:Nat) (df:Bb):Cs:=[(183,mk7 df)]
theorem av.loops (df:Bb):LO (a_ (av.cs F df)) av.pn (av.lh F df) F Try.f148:=
 (ac.rt (ac.rt (ac.lt (ac.rt (ac.block (ac.la (λn tm H r h=>by change av.lh29 F df [] n tm H=_ at h;unfold av.lh29 at h;split at h;have e:cf tm [(3,_),(4,_)]:=⟨‹_›,‹_›,trivial⟩;obtain _ | k29:=n;cases h;exact ⟨_,rfl,by rw [<- ci e];exact Eq.trans (by kernel_rfl) h⟩;cases h) λk29=>ac.no))))))
theorem av.eqX (df:Bb) (aa:Sl) (H:Hp):EX (a_ (av.cs F df)) av.pn (av.lh F df) F Try.f148 [(.sl aa)] H=av.twX F df aa H:=by kernel_rfl
theorem av.k:Ok Try.prog 148 (mk2 (av.tw F)):=by
 intro args H v H' h
 unfold mk2 at h
 split at h
 ·exact okT (TB:=av.tb) Try.func148 (bf (ay.k F) bN) (av.loops F (ay.tw F)) ((av.eqX F (ay.tw F) _ H).trans h) (by kernel_rfl)
 ·cases h
def aF.l29 (F:Nat) :Nat->Sl->Sl->Int->Hp->OA
 | 0,_,_,_,_=>none
 | bH+1,aP,db,bg,H8=>(bif (decide (bg<(aP.n:Int))) then ((Sl.idx aP bg 1).bind λp13=>(Hp.ldI H8 .i64 p13.1 p13.2).bind λn14=>(Sl.idx db bg 1).bind λp15=>(Hp.ldI H8 .i64 p15.1 p15.2).bind λn16=>(bif (n14 != n16) then (some ((.bool false),H8)) else (aF.l29 F bH aP db (wrap .i64 (bg+1)) H8))) else (some ((.bool true),H8)))
def aF.twX (aa:Sl) (ag:Sl) (H:Hp):OA:=(bif ((aa.n:Int) != (ag.n:Int)) then (some ((.bool false),H)) else (aF.l29 F F aa ag 0 H))
def aF.tw:=aF.twX F
def aF.lh29 (ks:Be) (n:Nat) (tm:Tm) (H:Hp):OA:=match ks,tm 0,tm 1,tm 5 with
 | [],(.sl aP),(.sl db),(.int .i64 bg)=>aF.l29 F n aP db bg H
 | _,_,_,_=>none
def aF.lh (p:Nat) (ks:Be) (n:Nat) (tm:Tm) (H:Hp):OA:=bif p.beq 29 then aF.lh29 F ks n tm H else (none)
def aF.tb:Nat->List (List Nat):=cG [(6,[[],[],[0,1],[0,1,2],[],[],[4,5],[4,5,6],[0,1,2,3,4,5,6,7]])]
theorem aF.loops:LO (a_ []) aO (aF.lh F) F Try.f149:=
 (ac.rt (ac.rt (ac.lt (ac.rt (ac.block (ac.la (λn tm H r h=>by change aF.lh29 F [] n tm H=_ at h;unfold aF.lh29 at h;split at h;have e:cf tm [(0,_),(1,_),(5,_)]:=⟨‹_›,‹_›,‹_›,trivial⟩;obtain _ | k29:=n;cases h;exact ⟨_,rfl,by rw [<- ci e];exact Eq.trans (by kernel_rfl) h⟩;cases h) λk29=>ac.no))))))
theorem aF.k:Ok Try.prog 149 (mk7 (aF.tw F)):=by
 intro args H v H' h
 unfold mk7 at h
 split at h
 ·exact okT (PN:=aO) (LH:=(aF.lh F)) (F:=F) (TB:=aF.tb) Try.func149 bN (aF.loops F) (Eq.trans (by kernel_rfl) h) (by kernel_rfl)
 ·cases h
def ae.j7 (F:Nat) (bi:AZ) (aA:Bd) (bk:A_) (bj:AZ) (bl:A_) (aG:Bb) (C1021_:Bv) (kW:Nat) (uP:Nat) (iE:Int) (uQ:Sl) (kX:Nat) (uR:Nat) (iF:Int) (H243:Hp):OA:=C1021_ kW uP iE uQ kX uR (wrap .i64 (iF+1)) H243
def ae.j8 (F:Nat) (bi:AZ) (aA:Bd) (bk:A_) (bj:AZ) (bl:A_) (aG:Bb) (C1021_:Bv) (kY:Nat) (uS:Nat) (iG:Int) (uT:Sl) (kZ:Nat) (uU:Nat) (iH:Int) (H287:Hp):OA:=C1021_ kY uS iG uT kZ uU (wrap .i64 (iH+1)) H287
def ae.j9 (bi:AZ) (aA:Bd) (bk:A_) (bj:AZ) (bl:A_) (aG:Bb) (C1021_:Bv) (k_:Nat) (uV:Nat) (iI:Int) (uW:Sl) (lb:Nat) (uX:Nat) (iJ:Int) (H269:Hp):OA:=ae.j8 F bi aA bk bj bl aG C1021_ k_ uV iI uW lb uX iJ H269
def ae.l1021 (F:Nat) (bi:AZ) (aA:Bd) (bk:A_) (bj:AZ) (bl:A_) (aG:Bb) :Nat->Nat->Nat->Int->Sl->Nat->Nat->Int->Hp->OA
 | 0,_,_,_,_,_,_,_,_=>none
 | mY+1,eF,fO,dM,fP,dX,fb,dl,H140=>(bif (decide (dl<(fP.n:Int))) then ((Sl.idx fP dl 1).bind λp221=>(Hp.ldSl H140 p221.1 p221.2).bind λs222=>(bi dM H140).bind λr223=>((r223.1).asSl).bind λs224=>(if aq H140 r223.2 then ((aG s222 s224 r223.2).bind λr225=>((r225.1).asB).bind λb226=>(bif b226 then (ae.j7 F bi aA bk bj bl aG (ae.l1021 F bi aA bk bj bl aG mY) eF fO dM fP dX fb dl r225.2) else ((Sl.idx fP dl 1).bind λp244=>(Hp.ldSl r225.2 p244.1 p244.2).bind λs245=>(bj dM r225.2).bind λr246=>((r246.1).asSl).bind λs247=>(if aq r225.2 r246.2 then ((aG s245 s247 r246.2).bind λr248=>((r248.1).asB).bind λb249=>(bif b249 then ((Hp.ldI r248.2 .i64 dX fb).bind λn250=>(Hp.st r248.2 dX fb (.int .i64 (wrap .i64 (n250+1)))).bind λH251=>ae.j9 F bi aA bk bj bl aG (ae.l1021 F bi aA bk bj bl aG mY) eF fO dM fP dX fb dl H251) else ((Hp.ldSl r248.2 dX (fb+1)).bind λs288=>(Sl.idx fP dl 1).bind λp289=>(Hp.ldSl r248.2 p289.1 p289.2).bind λs290=>(Hp.new r248.2 [(.sl s290)]).bind λH291=>(Sl.row H291 (⟨some (r248.2.length,0),1,.ex 1⟩:Sl) 1).bind λxs293=>(Hp.app H291 1 24 s288 (⟨some (r248.2.length,0),1,.ex 1⟩:Sl).n xs293).bind λa292=>(Hp.st a292.2 dX (fb+1) (.sl a292.1)).bind λH294=>ae.j9 F bi aA bk bj bl aG (ae.l1021 F bi aA bk bj bl aG mY) eF fO dM fP dX fb dl H294))) else none)))) else none)) else ((Hp.ldI H140 .i64 dX fb).bind λn295=>(Hp.ldSl H140 dX (fb+1)).bind λs296=>(Hp.st H140 eF fO (.int .i64 n295)).bind λH297=>(Hp.st H297 eF (fO+1) (.sl s296)).bind λH298=>(Hp.ldI H298 .i64 eF fO).bind λn299=>(Hp.ldSl H298 eF (fO+1)).bind λs300=>some ((.agg [(.int .i64 n299),(.sl s300)]),H298)))
termination_by structural n=>n
def ae.j10 (bi:AZ) (aA:Bd) (bk:A_) (bj:AZ) (bl:A_) (aG:Bb) (lc:Nat) (uY:Nat) (iK:Int) (iL:Int) (uZ:Sl) (H120:Hp):OA:=(bl uZ H120).bind λr121=>((r121.1).asSl).bind λs122=>(Hp.new r121.2 [.int .i64 0,.sl ⟨none,0,.ex 0⟩]).bind λH123=>(Hp.st H123 r121.2.length 0 (.int .i64 iL)).bind λH124=>(Hp.st H124 r121.2.length (0+1) (.sl (⟨none,0,.ex 0⟩:Sl))).bind λH125=>ae.l1021 F bi aA bk bj bl aG F lc uY iK s122 r121.2.length 0 0 H125
def ae.j11 (F:Nat) (bi:AZ) (aA:Bd) (bk:A_) (bj:AZ) (bl:A_) (aG:Bb) (C125_:Bn) (lg:Nat) (u_:Nat) (li:Nat) (va:Nat) (iM:Int) (iN:Int) (vc:Sl) (iO:Int) (H325:Hp):OA:=C125_ lg u_ li va iM iN vc (wrap .i64 (iO+1)) H325
def ae.j12 (F:Nat) (bi:AZ) (aA:Bd) (bk:A_) (bj:AZ) (bl:A_) (aG:Bb) (C125_:Bn) (lj:Nat) (vd:Nat) (ll:Nat) (ve:Nat) (iP:Int) (iQ:Int) (vf:Sl) (iR:Int) (H385:Hp):OA:=C125_ lj vd ll ve iP iQ vf (wrap .i64 (iR+1)) H385
def ae.j13 (bi:AZ) (aA:Bd) (bk:A_) (bj:AZ) (bl:A_) (aG:Bb) (C125_:Bn) (lm:Nat) (vg:Nat) (ln:Nat) (vh:Nat) (gq:Int) (iS:Int) (vi:Sl) (iT:Int) (iU:Int) (H362:Hp):OA:=(bj gq H362).bind λr363=>((r363.1).asSl).bind λs364=>(aA s364 (wrap .i64 (0 - iU)) r363.2).bind λr365=>((r365.1).asSl).bind λs366=>(Hp.new r365.2 [(.sl s366)]).bind λH367=>(Sl.row H367 (⟨some (r365.2.length,0),1,.ex 1⟩:Sl) 1).bind λxs369=>(Hp.app H367 1 24 vi (⟨some (r365.2.length,0),1,.ex 1⟩:Sl).n xs369).bind λa368=>ae.j12 F bi aA bk bj bl aG C125_ lm vg ln vh gq iS a368.1 iT a368.2
def ae.l32093 (F:Nat) (bi:AZ) (aA:Bd) (bk:A_) (bj:AZ) (bl:A_) (aG:Bb) (C125_:Bn):Nat->Nat->Nat->Nat->Nat->Int->Int->Sl->Int->Int->Int->Hp->OA
 | 0,_,_,_,_,_,_,_,_,_,_,_=>none
 | vj+1,gr,lq,gu,lr,fc,fd,gW,fh,fi,dY,H340=>(bif (decide (dY<(gW.n:Int))) then ((Sl.idx gW dY 1).bind λp386=>(Hp.ldSl H340 p386.1 p386.2).bind λs387=>(bk s387 H340).bind λr388=>((r388.1).asSl).bind λs389=>(Sl.idx gW dY 1).bind λp390=>(Hp.st r388.2 p390.1 p390.2 (.sl s389)).bind λH391=>ae.l32093 F bi aA bk bj bl aG C125_ vj gr lq gu lr fc fd gW fh fi (wrap .i64 (dY+1)) H391) else (ae.j13 F bi aA bk bj bl aG C125_ gr lq gu lr fc fd gW fh fi H340))
termination_by structural n=>n
def ae.l125 (F:Nat) (bi:AZ) (aA:Bd) (bk:A_) (bj:AZ) (bl:A_) (aG:Bb) :Nat->Nat->Nat->Nat->Nat->Int->Int->Sl->Int->Hp->OA
 | 0,_,_,_,_,_,_,_,_,_=>none
 | gv+1,fG,de,fQ,eG,dZ,eH,jL,d_,H17=>(Hp.ldSl H17 fG (de+1)).bind λs301=>(bif (decide (d_<(s301.n:Int))) then ((Hp.ldSl H17 fG (de+1)).bind λs302=>(Sl.idx s302 d_ 1).bind λp303=>(Hp.ldI H17 .i64 p303.1 p303.2).bind λn304=>(bif (decide (n304>0)) then ((bi dZ H17).bind λr305=>((r305.1).asSl).bind λs306=>(aA s306 n304 r305.2).bind λr307=>((r307.1).asSl).bind λs308=>(Hp.new r307.2 [(.sl s308)]).bind λH309=>(Sl.row H309 (⟨some (r307.2.length,0),1,.ex 1⟩:Sl) 1).bind λxs311=>(Hp.app H309 1 24 jL (⟨some (r307.2.length,0),1,.ex 1⟩:Sl).n xs311).bind λa310=>ae.j11 F bi aA bk bj bl aG (ae.l125 F bi aA bk bj bl aG gv) fG de fQ eG dZ eH a310.1 d_ a310.2) else (ae.l32093 F bi aA bk bj bl aG (ae.l125 F bi aA bk bj bl aG gv) F fG de fQ eG dZ (wrap .i64 (eH - 1)) jL d_ n304 0 H17))) else (ae.j10 F bi aA bk bj bl aG fQ eG dZ eH jL H17))
termination_by structural n=>n
def ae.twX (bi:AZ) (aA:Bd) (bk:A_) (bj:AZ) (bl:A_) (aG:Bb) (aa:Int) (ar:Sl) (H:Hp):OA:=(Hp.new H [(.int .i64 aa),(.sl ar)]).bind λH3=>(Hp.new H3 [.int .i64 0,.sl ⟨none,0,.ex 0⟩]).bind λH4=>(Hp.ldI H4 .i64 H.length 0).bind λn5=>(Hp.new H4 []).bind λH6=>ae.l125 F bi aA bk bj bl aG F H.length 0 H3.length 0 n5 0 (⟨some (H4.length,0),0,.ex 0⟩:Sl) 0 H6
def ae.tw:=ae.twX F (aU.tw F) (ap.tw F) (aX.tw F) (aV.tw F) (av.tw F) (aF.tw F)
def ae.lh125 (bi:AZ) (aA:Bd) (bk:A_) (bj:AZ) (bl:A_) (aG:Bb) (ks:Be) (n:Nat) (tm:Tm) (H:Hp):OA:=match ks,tm 1,tm 2,tm 3,tm 4,tm 5,tm 6 with
 | [],(.ptr fG de),(.ptr fQ eG),(.int .i64 dZ),(.int .i64 eH),(.sl jL),(.int .i64 d_)=>ae.l125 F bi aA bk bj bl aG n fG de fQ eG dZ eH jL d_ H
 | _,_,_,_,_,_,_=>none
def ae.lh1021 (bi:AZ) (aA:Bd) (bk:A_) (bj:AZ) (bl:A_) (aG:Bb) (ks:Be) (n:Nat) (tm:Tm) (H:Hp):OA:=match ks,tm 2,tm 3,tm 5,tm 9,tm 10 with
 | [],(.ptr eF fO),(.int .i64 dM),(.sl fP),(.ptr dX fb),(.int .i64 dl)=>ae.l1021 F bi aA bk bj bl aG n eF fO dM fP dX fb dl H
 | _,_,_,_,_,_=>none
def ae.lh32093 (bi:AZ) (aA:Bd) (bk:A_) (bj:AZ) (bl:A_) (aG:Bb) (ks:Be) (n:Nat) (tm:Tm) (H:Hp):OA:=match ks,tm 1,tm 2,tm 3,tm 4,tm 5,tm 6,tm 7,tm 8 with
 | [gv],(.ptr gr lq),(.ptr gu lr),(.int .i64 fc),(.int .i64 fd),(.sl gW),(.int .i64 fh),(.int .i64 fi),(.int .i64 dY)=>ae.l32093 F bi aA bk bj bl aG (ae.l125 F bi aA bk bj bl aG gv) n gr lq gu lr fc fd gW fh fi dY H
 | _,_,_,_,_,_,_,_,_=>none
def ae.lh (bi:AZ) (aA:Bd) (bk:A_) (bj:AZ) (bl:A_) (aG:Bb) (p:Nat) (ks:Be) (n:Nat) (tm:Tm) (H:Hp):OA:=bif p.beq 32093 then ae.lh32093 F bi aA bk bj bl aG ks n tm H else (bif p.beq 1021 then ae.lh1021 F bi aA bk bj bl aG ks n tm H else (bif p.beq 125 then ae.lh125 F bi aA bk bj bl aG ks n tm H else (none)))
def ae.pn:Nat->List Nat:=cG [(21,[7,9]),(22,[6]),(23,[6])]
def ae.tb:Nat->List (List Nat):=cG [(21,[[],[0],[],[],[2,3],[2,3,4],[2,3,4,5],[0,1,2,3,4,5,6],[0,1,2,3,4,5,6,7],[0,1,2,3,4,5,6,7,8]]),(22,[[],[],[0,1],[0,1,2],[],[4],[0,1,2,3,4,5],[0,1,2,3,4,5,6]]),(23,[[],[],[0,1],[0,1,2],[],[4],[0,1,2,3,4,5],[0,1,2,3,4,5,6]])]
def ae.cs (F:Nat) (bi:AZ) (aA:Bd) (bk:A_) (bj:AZ) (bl:A_) (aG:Bb):Cs:=[(145,mk6 bi),(144,mk0 aA),(146,mk2 bk),(147,mk6 bj),(148,mk2 bl),(149,mk7 aG)]
theorem ae.loops (bi:AZ) (aA:Bd) (bk:A_) (bj:AZ) (bl:A_) (aG:Bb):LO (a_ (ae.cs F bi aA bk bj bl aG)) ae.pn (ae.lh F bi aA bk bj bl aG) F Try.f94:=
 (ac.rt (ac.rt (ac.rt (ac.rt (ac.seq (ac.rt (ac.block (ac.la (λn tm H r h=>by change ae.lh125 F bi aA bk bj bl aG [] n tm H=_ at h;unfold ae.lh125 at h;split at h;have e:cf tm [(1,_),(2,_),(3,_),(4,_),(5,_),(6,_)]:=⟨‹_›,‹_›,‹_›,‹_›,‹_›,‹_›,trivial⟩;obtain _ | k125:=n;cases h;exact ⟨_,rfl,by rw [<- ci e];exact Eq.trans (by kernel_rfl) h⟩;cases h) λk125=>(ac.rt (ac.lt (ac.block (ac.rt (ac.rt (ac.rt (ac.lt (ac.rt (ac.block (ac.la (λn tm H r h=>by change ae.lh32093 F bi aA bk bj bl aG [k125] n tm H=_ at h;unfold ae.lh32093 at h;split at h;have e:cf tm [(1,_),(2,_),(3,_),(4,_),(5,_),(6,_),(7,_),(8,_)]:=⟨‹_›,‹_›,‹_›,‹_›,‹_›,‹_›,‹_›,‹_›,trivial⟩;cases (show [k125]=_ from ‹_›);obtain _ | k32093:=n;cases h;exact ⟨_,rfl,by rw [<- ci e];exact Eq.trans (by kernel_rfl) h⟩;cases h) λk32093=>ac.no))))))))))))) (ac.rt (ac.rt (ac.lt (ac.rt (ac.block (ac.la (λn tm H r h=>by change ae.lh1021 F bi aA bk bj bl aG [] n tm H=_ at h;unfold ae.lh1021 at h;split at h;have e:cf tm [(2,_),(3,_),(5,_),(9,_),(10,_)]:=⟨‹_›,‹_›,‹_›,‹_›,‹_›,trivial⟩;obtain _ | k1021:=n;cases h;exact ⟨_,rfl,by rw [<- ci e];exact Eq.trans (by kernel_rfl) h⟩;cases h) λk1021=>ac.no)))))))))))
theorem ae.eqX (bi:AZ) (aA:Bd) (bk:A_) (bj:AZ) (bl:A_) (aG:Bb) (aa:Int) (ar:Sl) (H:Hp):EX (a_ (ae.cs F bi aA bk bj bl aG)) ae.pn (ae.lh F bi aA bk bj bl aG) F Try.f94 [(.agg [(.int .i64 aa),(.sl ar)])] H=ae.twX F bi aA bk bj bl aG aa ar H:=by kernel_rfl
theorem ae.k:Ok Try.prog 94 (mk3 (ae.tw F)):=by
 intro args H v H' h
 unfold mk3 at h
 split at h
 ·exact okT (TB:=ae.tb) Try.func94 (bf (aU.k F) (bf (ap.k F) (bf (aX.k F) (bf (aV.k F) (bf (av.k F) (bf (aF.k F) bN)))))) (ae.loops F (aU.tw F) (ap.tw F) (aX.tw F) (aV.tw F) (av.tw F) (aF.tw F)) ((ae.eqX F (aU.tw F) (ap.tw F) (aX.tw F) (aV.tw F) (av.tw F) (aF.tw F) _ _ H).trans h) (by kernel_rfl)
 ·cases h
def aW.l29 (F:Nat) (aG:Bb) :Nat->Nat->Nat->Nat->Nat->Int->Hp->OA
 | 0,_,_,_,_,_,_=>none
 | bH+1,fR,jN,gw,lu,ec,H22=>(Hp.ldSl H22 fR (jN+1)).bind λs32=>(bif (decide (ec<(s32.n:Int))) then ((Hp.ldSl H22 fR (jN+1)).bind λs33=>(Sl.idx s33 ec 1).bind λp34=>(Hp.ldSl H22 p34.1 p34.2).bind λs35=>(Hp.ldSl H22 gw (lu+1)).bind λs36=>(Sl.idx s36 ec 1).bind λp37=>(Hp.ldSl H22 p37.1 p37.2).bind λs38=>(aG s35 s38 H22).bind λr39=>((r39.1).asB).bind λb40=>(bif (!b40) then (some ((.bool false),r39.2)) else (aW.l29 F aG bH fR jN gw lu (wrap .i64 (ec+1)) r39.2))) else (some ((.bool true),H22)))
termination_by structural n=>n
def aW.twX (aG:Bb) (aa:Int) (ar:Sl) (ak:Int) (bS:Sl) (H:Hp):OA:=(Hp.new H [(.int .i64 aa),(.sl ar)]).bind λH5=>(Hp.new H5 [(.int .i64 ak),(.sl bS)]).bind λH6=>(Hp.ldI H6 .i64 H.length 0).bind λn7=>(Hp.ldI H6 .i64 H5.length 0).bind λn8=>(bif (n7 != n8) then (some ((.bool false),H6)) else ((Hp.ldSl H6 H.length 1).bind λs9=>(Hp.ldSl H6 H5.length 1).bind λs10=>(bif ((s9.n:Int) != (s10.n:Int)) then (some ((.bool false),H6)) else (aW.l29 F aG F H.length 0 H5.length 0 0 H6))))
def aW.tw:=aW.twX F (aF.tw F)
def aW.lh29 (aG:Bb) (ks:Be) (n:Nat) (tm:Tm) (H:Hp):OA:=match ks,tm 2,tm 3,tm 5 with
 | [],(.ptr fR jN),(.ptr gw lu),(.int .i64 ec)=>aW.l29 F aG n fR jN gw lu ec H
 | _,_,_,_=>none
def aW.lh (aG:Bb) (p:Nat) (ks:Be) (n:Nat) (tm:Tm) (H:Hp):OA:=bif p.beq 29 then aW.lh29 F aG ks n tm H else (none)
def aW.pn:Nat->List Nat:=cG [(6,[10])]
def aW.tb:Nat->List (List Nat):=cG [(6,[[],[0],[],[0,1,2],[0,1,2,3],[],[5],[],[5,6,7],[5,6,7,8],[0,1,2,3,4,5,6,7,8,9],[0,1,2,3,4,5,6,7,8,9,10]])]
def mk8 (g:Bj) (args:Bf) (H:Hp):OA:=match args with
 | [(.agg [(.int .i64 aa),(.sl ar)]),(.agg [(.int .i64 ak),(.sl bS)])]=>g aa ar ak bS H
 | _=>none
theorem mk8_E (g:Bj) (aa:Int) (ar:Sl) (ak:Int) (bS:Sl) (H:Hp):mk8 g [(.agg [(.int .i64 aa),(.sl ar)]),(.agg [(.int .i64 ak),(.sl bS)])] H=g aa ar ak bS H:=rfl
def aW.cs (F:Nat) (aG:Bb):Cs:=[(149,mk7 aG)]
theorem aW.loops (aG:Bb):LO (a_ (aW.cs F aG)) aW.pn (aW.lh F aG) F Try.f98:=
 (ac.rt (ac.rt (ac.lt (ac.rt (ac.block (ac.la (λn tm H r h=>by change aW.lh29 F aG [] n tm H=_ at h;unfold aW.lh29 at h;split at h;have e:cf tm [(2,_),(3,_),(5,_)]:=⟨‹_›,‹_›,‹_›,trivial⟩;obtain _ | k29:=n;cases h;exact ⟨_,rfl,by rw [<- ci e];exact Eq.trans (by kernel_rfl) h⟩;cases h) λk29=>ac.no))))))
theorem aW.eqX (aG:Bb) (aa:Int) (ar:Sl) (ak:Int) (bS:Sl) (H:Hp):EX (a_ (aW.cs F aG)) aW.pn (aW.lh F aG) F Try.f98 [(.agg [(.int .i64 aa),(.sl ar)]),(.agg [(.int .i64 ak),(.sl bS)])] H=aW.twX F aG aa ar ak bS H:=by kernel_rfl
theorem aW.k:Ok Try.prog 98 (mk8 (aW.tw F)):=by
 intro args H v H' h
 unfold mk8 at h
 split at h
 ·exact okT (TB:=aW.tb) Try.func98 (bf (aF.k F) bN) (aW.loops F (aF.tw F)) ((aW.eqX F (aF.tw F) _ _ _ _ H).trans h) (by kernel_rfl)
 ·cases h
def ck.twX (F:Nat) (gX:Bi) (gY:Bi) (iV:Bj) (aa:Int) (ar:Sl) (ak:Int) (bS:Sl) (H:Hp):OA:=(Hp.new H [(.int .i64 aa),(.sl ar)]).bind λH5=>(Hp.new H5 [(.int .i64 ak),(.sl bS)]).bind λH6=>(Hp.ldI H6 .i64 H.length 0).bind λn7=>(Hp.ldSl H6 H.length (0+1)).bind λs8=>(gX n7 s8 H6).bind λr9=>((r9.1).asB).bind λb10=>(bif b10 then ((Hp.ldI r9.2 .i64 H5.length 0).bind λn11=>(Hp.ldSl r9.2 H5.length (0+1)).bind λs12=>(gX n11 s12 r9.2).bind λr13=>((r13.1).asB).bind λb14=>(bif b14 then ((Hp.ldI r13.2 .i64 H.length 0).bind λn15=>(Hp.ldI r13.2 .i64 H5.length 0).bind λn16=>(bif (n15==n16) then ((Hp.ldI r13.2 .i64 H.length 0).bind λn17=>(Hp.ldSl r13.2 H.length (0+1)).bind λs18=>(gY n17 s18 r13.2).bind λr19=>((r19.1).asAgg 2).bind λl20=>(l20[0]?).bind λv21=>((v21).asI .i64).bind λn22=>(l20[1]?).bind λv23=>((v23).asSl).bind λs24=>(if aq r13.2 r19.2 then ((Hp.ldI r19.2 .i64 H5.length 0).bind λn25=>(Hp.ldSl r19.2 H5.length (0+1)).bind λs26=>(gY n25 s26 r19.2).bind λr27=>((r27.1).asAgg 2).bind λl28=>(l28[0]?).bind λv29=>((v29).asI .i64).bind λn30=>(l28[1]?).bind λv31=>((v31).asSl).bind λs32=>(iV n22 s24 n30 s32 r27.2).bind λr33=>((r33.1).asB).bind λb34=>some ((.bool b34),r33.2)) else none)) else (some ((.bool false),r13.2)))) else (some ((.bool false),r13.2)))) else (some ((.bool false),r9.2)))
def ck.tw:=ck.twX F (aS.tw F) (ae.tw F) (aW.tw F)
def ck.pn:Nat->List Nat:=cG [(1,[1,4,17,18])]
def ck.tb:Nat->List (List Nat):=cG [(1,[[],[0],[0,1],[0,1,2],[0,1,2,3],[0,1,2,3,4],[0,1,2,3,4,5],[0,1,2,3,4,5,6],[0,1,2,3,4,5,6,7],[0,1,2,3,4,5,6],[0,1,2,3,4,5,6,9],[0,1,2,3,4,5,6,7,8,9,10],[0,1,2,3,4,5,6,7,8,9,10,11],[0,1,2,3,4,5,6,7,8,9,10,11,12],[0,1,2,3,4,5,6,7,8,9,10,11,12,13],[0,1,2,3,4,5,6,7,8,9,10,11,12,13,14],[0,1,2,3,4,5,6,7,8,9,10,11,12,13],[0,1,2,3,4,5,6,7,8,9,10,11,12,13,14,15,16],[0,1,2,3,4,5,6,7,8,9,10,11,12,13,14,15,16,17],[0,1,2,3,4,5,6,7,8,9,10,11,12,13,14,15,16,17,18],[0,1,2,3,4,5,6,7,8,9,10,11,12,13,14,15,16,17,18,19]])]
def ck.cs (F:Nat) (gX:Bi) (gY:Bi) (iV:Bj):Cs:=[(49,mk3 gX),(94,mk3 gY),(98,mk8 iV)]
theorem ck.eqX (gX:Bi) (gY:Bi) (iV:Bj) (aa:Int) (ar:Sl) (ak:Int) (bS:Sl) (H:Hp):EX (a_ (ck.cs F gX gY iV)) ck.pn lh0 F Try.f41 [(.agg [(.int .i64 aa),(.sl ar)]),(.agg [(.int .i64 ak),(.sl bS)])] H=ck.twX F gX gY iV aa ar ak bS H:=by kernel_rfl
theorem ck.k:Ok Try.prog 41 (mk8 (ck.tw F)):=by
 intro args H v H' h
 unfold mk8 at h
 split at h
 ·exact okT (TB:=ck.tb) Try.func41 (bf (aS.k F) (bf (ae.k F) (bf (aW.k F) bN))) ac.no ((ck.eqX F (aS.tw F) (ae.tw F) (aW.tw F) _ _ _ _ H).trans h) (by kernel_rfl)
 ·cases h
def cP.twX (F:Nat) (aa:Int) (ag:Int) (dE:Int) (H:Hp):OA:=(bif (decide (ag<=aa)) then (some ((.bool (decide (aa<=dE))),H)) else (some ((.bool false),H)))
def cP.tw:=cP.twX F
theorem cP.k:Ok Try.prog 112 (mk4 (cP.tw F)):=by
 intro args H v H' h
 unfold mk4 at h
 split at h
 ·exact ok0 Try.func112 (Eq.trans (by kernel_rfl) h) (by kernel_rfl) (by kernel_rfl)
 ·cases h
def cQ.twX (F:Nat) (eJ:Bh) (aa:Int) (ag:Int) (H:Hp):OA:=(bif (ag != 0) then ((eJ ag (wrap .i64 (1 - aa)) (wrap .i64 (aa - 1)) H).bind λr3=>((r3.1).asB).bind λb4=>some ((.bool b4),r3.2)) else (some ((.bool false),H)))
def cQ.tw:=cQ.twX F (cP.tw F)
def cQ.cs (F:Nat) (eJ:Bh):Cs:=[(112,mk4 eJ)]
theorem cQ.eqX (eJ:Bh) (aa:Int) (ag:Int) (H:Hp):EX (a_ (cQ.cs F eJ)) aO lh0 F Try.f152 [(.int .i64 aa),(.int .i64 ag)] H=cQ.twX F eJ aa ag H:=by kernel_rfl
theorem cQ.k:Ok Try.prog 152 (mk5 (cQ.tw F)):=by
 intro args H v H' h
 unfold mk5 at h
 split at h
 ·exact okT (TB:=aO) Try.func152 (bf (cP.k F) bN) ac.no ((cQ.eqX F (cP.tw F) _ _ H).trans h) (by kernel_rfl)
 ·cases h
def cH.twX (F:Nat) (iW:Bl) (aa:Int) (ag:Nat) (ak:Nat) (H:Hp):OA:=(Hp.ldI H .i64 ag ak).bind λn4=>(iW n4 aa H).bind λr5=>((r5.1).asB).bind λb6=>some ((.bool (!b6)),r5.2)
def cH.tw:=cH.twX F (cQ.tw F)
def mk9 (g:Bo) (args:Bf) (H:Hp):OA:=match args with
 | [(.int .i64 aa),(.ptr ag ak)]=>g aa ag ak H
 | _=>none
theorem mk9_E (g:Bo) (aa:Int) (ag:Nat) (ak:Nat) (H:Hp):mk9 g [(.int .i64 aa),(.ptr ag ak)] H=g aa ag ak H:=rfl
def cH.cs (F:Nat) (iW:Bl):Cs:=[(152,mk5 iW)]
theorem cH.eqX (iW:Bl) (aa:Int) (ag:Nat) (ak:Nat) (H:Hp):EX (a_ (cH.cs F iW)) aO lh0 F Try.f151 [(.int .i64 aa),(.ptr ag ak)] H=cH.twX F iW aa ag ak H:=by kernel_rfl
theorem cH.k:Ok Try.prog 151 (mk9 (cH.tw F)):=by
 intro args H v H' h
 unfold mk9 at h
 split at h
 ·exact okT (TB:=aO) Try.func151 (bf (cQ.k F) bN) ac.no ((cH.eqX F (cQ.tw F) _ _ _ H).trans h) (by kernel_rfl)
 ·cases h
def bc.l13 (F:Nat) (dI:Bo) :Nat->Sl->Nat->Nat->Int->Int->Hp->OA
 | 0,_,_,_,_,_,_=>none
 | jO+1,dH,ag,ak,fj,ed,H8=>(bif (decide (ed<fj)) then ((Sl.idx dH ed 1).bind λp13=>(Hp.ldI H8 .i64 p13.1 p13.2).bind λn14=>(dI n14 ag ak H8).bind λr15=>((r15.1).asB).bind λb16=>(bif b16 then (some ((.int .i64 ed),r15.2)) else (bc.l13 F dI jO dH ag ak fj (wrap .i64 (ed+1)) r15.2))) else (some ((.int .i64 (-1)),H8)))
termination_by structural n=>n
def bc.twX (dI:Bo) (aa:Sl) (ag:Nat) (ak:Nat) (H:Hp):OA:=bc.l13 F dI F aa ag ak (aa.n:Int) 0 H
def bc.tw:=bc.twX F (cH.tw F)
def bc.lh13 (dI:Bo) (ks:Be) (n:Nat) (tm:Tm) (H:Hp):OA:=match ks,tm 0,tm 1,tm 7,tm 8 with
 | [],(.sl dH),(.fn 151 [(.ptr ag ak)]),(.int .i64 fj),(.int .i64 ed)=>bc.l13 F dI n dH ag ak fj ed H
 | _,_,_,_,_=>none
def bc.lh (dI:Bo) (p:Nat) (ks:Be) (n:Nat) (tm:Tm) (H:Hp):OA:=bif p.beq 13 then bc.lh13 F dI ks n tm H else (none)
def mk10 (g:Bs) (args:Bf) (H:Hp):OA:=match args with
 | [(.sl aa),(.fn 151 [(.ptr ag ak)])]=>g aa ag ak H
 | _=>none
theorem mk10_E (g:Bs) (aa:Sl) (ag:Nat) (ak:Nat) (H:Hp):mk10 g [(.sl aa),(.fn 151 [(.ptr ag ak)])] H=g aa ag ak H:=rfl
def bc.cs (F:Nat) (dI:Bo):Cs:=[(151,mk9 dI)]
theorem bc.loops (dI:Bo):LO (a_ (bc.cs F dI)) aO (bc.lh F dI) F Try.f184:=
 (ac.rt (ac.lt (ac.rt (ac.block (ac.la (λn tm H r h=>by change bc.lh13 F dI [] n tm H=_ at h;unfold bc.lh13 at h;split at h;have e:cf tm [(0,_),(1,_),(7,_),(8,_)]:=⟨‹_›,‹_›,‹_›,‹_›,trivial⟩;obtain _ | k13:=n;cases h;exact ⟨_,rfl,by rw [<- ci e];exact Eq.trans (by kernel_rfl) h⟩;cases h) λk13=>ac.no)))))
theorem bc.eqX (dI:Bo) (aa:Sl) (ag:Nat) (ak:Nat) (H:Hp):EX (a_ (bc.cs F dI)) aO (bc.lh F dI) F Try.f184 [(.sl aa),(.fn 151 [(.ptr ag ak)])] H=bc.twX F dI aa ag ak H:=by kernel_rfl
theorem bc.k:Ok Try.prog 184 (mk10 (bc.tw F)):=by
 intro args H v H' h
 unfold mk10 at h
 split at h
 ·exact okT (TB:=aO) Try.func184 (bf (cH.k F) bN) (bc.loops F (cH.tw F)) ((bc.eqX F (cH.tw F) _ _ _ H).trans h) (by kernel_rfl)
 ·cases h
def cU.twX (F:Nat) (iX:Bs) (aa:Sl) (ag:Nat) (ak:Nat) (H:Hp):OA:=(iX aa ag ak H).bind λr4=>((r4.1).asI .i64).bind λn5=>some ((.bool (decide (n5>=0))),r4.2)
def cU.tw:=cU.twX F (bc.tw F)
def cU.cs (F:Nat) (iX:Bs):Cs:=[(184,mk10 iX)]
theorem cU.eqX (iX:Bs) (aa:Sl) (ag:Nat) (ak:Nat) (H:Hp):EX (a_ (cU.cs F iX)) aO lh0 F Try.f150 [(.sl aa),(.fn 151 [(.ptr ag ak)])] H=cU.twX F iX aa ag ak H:=by kernel_rfl
theorem cU.k:Ok Try.prog 150 (mk10 (cU.tw F)):=by
 intro args H v H' h
 unfold mk10 at h
 split at h
 ·exact okT (TB:=aO) Try.func150 (bf (bc.k F) bN) ac.no ((cU.eqX F (bc.tw F) _ _ _ H).trans h) (by kernel_rfl)
 ·cases h
def cy.twX (F:Nat) (eJ:Bh) (iY:Bs) (aa:Int) (ar:Sl) (H:Hp):OA:=(Hp.new H [(.int .i64 aa),(.sl ar)]).bind λH3=>(Hp.ldI H3 .i64 H.length 0).bind λn4=>(eJ n4 1 6 H3).bind λr5=>((r5.1).asB).bind λb6=>(bif b6 then ((Hp.ldSl r5.2 H.length 1).bind λs7=>(bif (decide ((s7.n:Int)<=24)) then ((Hp.ldSl r5.2 H.length 1).bind λs8=>(iY s8 H.length 0 r5.2).bind λr9=>((r9.1).asB).bind λb10=>some ((.bool (!b10)),r9.2)) else (some ((.bool false),r5.2)))) else (some ((.bool false),r5.2)))
def cy.tw:=cy.twX F (cP.tw F) (cU.tw F)
def cy.cs (F:Nat) (eJ:Bh) (iY:Bs):Cs:=[(112,mk4 eJ),(150,mk10 iY)]
theorem cy.eqX (eJ:Bh) (iY:Bs) (aa:Int) (ar:Sl) (H:Hp):EX (a_ (cy.cs F eJ iY)) aO lh0 F Try.f96 [(.agg [(.int .i64 aa),(.sl ar)])] H=cy.twX F eJ iY aa ar H:=by kernel_rfl
theorem cy.k:Ok Try.prog 96 (mk3 (cy.tw F)):=by
 intro args H v H' h
 unfold mk3 at h
 split at h
 ·exact okT (TB:=aO) Try.func96 (bf (cP.k F) (bf (cU.k F) bN)) ac.no ((cy.eqX F (cP.tw F) (cU.tw F) _ _ H).trans h) (by kernel_rfl)
 ·cases h
def aH.l29 (F:Nat) :Nat->Sl->Int->Int->Hp->OA
 | 0,_,_,_,_=>none
 | bH+1,dv,fk,ee,H7=>(bif (decide (ee<fk)) then ((Hp.new H7 [(.int .i64 ee)]).bind λH11=>(Sl.row H11 (⟨some (H7.length,0),1,.ex 1⟩:Sl) 1).bind λxs13=>(Hp.app H11 1 8 dv (⟨some (H7.length,0),1,.ex 1⟩:Sl).n xs13).bind λa12=>aH.l29 F bH a12.1 fk (wrap .i64 (ee+1)) a12.2) else (some ((.sl dv),H7)))
def aH.twX (aa:Int) (H:Hp):OA:=aH.l29 F F (⟨none,0,.ex 0⟩:Sl) aa 0 H
def aH.tw:=aH.twX F
def aH.lh29 (ks:Be) (n:Nat) (tm:Tm) (H:Hp):OA:=match ks,tm 3,tm 5,tm 6 with
 | [],(.sl dv),(.int .i64 fk),(.int .i64 ee)=>aH.l29 F n dv fk ee H
 | _,_,_,_=>none
def aH.lh (p:Nat) (ks:Be) (n:Nat) (tm:Tm) (H:Hp):OA:=bif p.beq 29 then aH.lh29 F ks n tm H else (none)
theorem aH.loops:LO (a_ []) aO (aH.lh F) F Try.f125:=
 (ac.rt (ac.rt (ac.lt (ac.rt (ac.block (ac.la (λn tm H r h=>by change aH.lh29 F [] n tm H=_ at h;unfold aH.lh29 at h;split at h;have e:cf tm [(3,_),(5,_),(6,_)]:=⟨‹_›,‹_›,‹_›,trivial⟩;obtain _ | k29:=n;cases h;exact ⟨_,rfl,by rw [<- ci e];exact Eq.trans (by kernel_rfl) h⟩;cases h) λk29=>ac.no))))))
theorem aH.k:Ok Try.prog 125 (mk6 (aH.tw F)):=by
 intro args H v H' h
 unfold mk6 at h
 split at h
 ·exact okT (PN:=aO) (LH:=(aH.lh F)) (F:=F) (TB:=aO) Try.func125 bN (aH.loops F) (Eq.trans (by kernel_rfl) h) (by kernel_rfl)
 ·cases h
def bR.twX (F:Nat) (aa:Sl) (H:Hp):OA:=some ((.int .i64 (aa.n:Int)),H)
def bR.tw:=bR.twX F
theorem bR.k:Ok Try.prog 113 (mk2 (bR.tw F)):=by
 intro args H v H' h
 unfold mk2 at h
 split at h
 ·exact ok0 Try.func113 (Eq.trans (by kernel_rfl) h) (by kernel_rfl) (by kernel_rfl)
 ·cases h
def aQ.l61 (F:Nat) (bd:A_) :Nat->Int->Sl->Sl->Int->Int->Hp->OA
 | 0,_,_,_,_,_,_=>none
 | mW+1,cT,cO,lx,fm,ef,H12=>(bif (decide (ef<fm)) then ((Sl.idx lx ef 1).bind λp17=>(Hp.ldI H12 .i64 p17.1 p17.2).bind λn18=>(Sl.idx cO (wrap .i64 (cT - ef)) 1).bind λp19=>(Hp.st H12 p19.1 p19.2 (.int .i64 (wrap .i64 (cT - n18)))).bind λH20=>aQ.l61 F bd mW cT cO lx fm (wrap .i64 (ef+1)) H20) else (some ((.sl cO),H12)))
def aQ.twX (bd:A_) (aa:Sl) (H:Hp):OA:=(bd aa H).bind λr2=>((r2.1).asI .i64).bind λn3=>(Hp.mk r2.2 [.int .i64 0] 8 (aa.n:Int) (aa.n:Int)).bind λm4=>aQ.l61 F bd F (wrap .i64 (n3 - 1)) m4.1 aa (aa.n:Int) 0 m4.2
def aQ.tw:=aQ.twX F (bR.tw F)
def aQ.lh61 (bd:A_) (ks:Be) (n:Nat) (tm:Tm) (H:Hp):OA:=match ks,tm 3,tm 4,tm 13,tm 14,tm 15 with
 | [],(.int .i64 cT),(.sl cO),(.sl lx),(.int .i64 fm),(.int .i64 ef)=>aQ.l61 F bd n cT cO lx fm ef H
 | _,_,_,_,_,_=>none
def aQ.lh (bd:A_) (p:Nat) (ks:Be) (n:Nat) (tm:Tm) (H:Hp):OA:=bif p.beq 61 then aQ.lh61 F bd ks n tm H else (none)
def aQ.cs (F:Nat) (bd:A_):Cs:=[(113,mk2 bd)]
theorem aQ.loops (bd:A_):LO (a_ (aQ.cs F bd)) aO (aQ.lh F bd) F Try.f185:=
 (ac.rt (ac.rt (ac.rt (ac.lt (ac.rt (ac.block (ac.la (λn tm H r h=>by change aQ.lh61 F bd [] n tm H=_ at h;unfold aQ.lh61 at h;split at h;have e:cf tm [(3,_),(4,_),(13,_),(14,_),(15,_)]:=⟨‹_›,‹_›,‹_›,‹_›,‹_›,trivial⟩;obtain _ | k61:=n;cases h;exact ⟨_,rfl,by rw [<- ci e];exact Eq.trans (by kernel_rfl) h⟩;cases h) λk61=>ac.no)))))))
theorem aQ.eqX (bd:A_) (aa:Sl) (H:Hp):EX (a_ (aQ.cs F bd)) aO (aQ.lh F bd) F Try.f185 [(.sl aa)] H=aQ.twX F bd aa H:=by kernel_rfl
theorem aQ.k:Ok Try.prog 185 (mk2 (aQ.tw F)):=by
 intro args H v H' h
 unfold mk2 at h
 split at h
 ·exact okT (TB:=aO) Try.func185 (bf (bR.k F) bN) (aQ.loops F (bR.tw F)) ((aQ.eqX F (bR.tw F) _ H).trans h) (by kernel_rfl)
 ·cases h
def bo.l3 (F:Nat) :Nat->Sl->Int->Int->Hp->OA
 | 0,_,_,_,_=>none
 | vk+1,gZ,eg,dv,H5=>(bif (decide (eg<dv)) then ((Sl.idx gZ dv 1).bind λp14=>(Hp.ldI H5 .i64 p14.1 p14.2).bind λn15=>(Sl.idx gZ eg 1).bind λp16=>(Hp.ldI H5 .i64 p16.1 p16.2).bind λn17=>(Sl.idx gZ eg 1).bind λp18=>(Hp.st H5 p18.1 p18.2 (.int .i64 n15)).bind λH19=>(Sl.idx gZ dv 1).bind λp20=>(Hp.st H19 p20.1 p20.2 (.int .i64 n17)).bind λH21=>bo.l3 F vk gZ (wrap .i64 (eg+1)) (wrap .i64 (dv - 1)) H21) else (some ((.tup []),H5)))
def bo.twX (aa:Sl) (H:Hp):OA:=bo.l3 F F aa 0 (wrap .i64 ((aa.n:Int) - 1)) H
def bo.tw:=bo.twX F
def bo.lh3 (ks:Be) (n:Nat) (tm:Tm) (H:Hp):OA:=match ks,tm 0,tm 2,tm 3 with
 | [],(.sl gZ),(.int .i64 eg),(.int .i64 dv)=>bo.l3 F n gZ eg dv H
 | _,_,_,_=>none
def bo.lh (p:Nat) (ks:Be) (n:Nat) (tm:Tm) (H:Hp):OA:=bif p.beq 3 then bo.lh3 F ks n tm H else (none)
def bo.pn:Nat->List Nat:=cG [(3,[13,15])]
def bo.tb:Nat->List (List Nat):=cG [(3,[[],[],[],[],[],[],[4,5],[4,5,6],[],[],[8,9],[8,9,10],[0,1,4,5,6,7,8,9,10,11],[0,1,4,5,6,7,8,9,10,11,12],[0,1,2,3,4,5,6,7,8,9,10,11,12,13],[0,1,2,3,4,5,6,7,8,9,10,11,12,13,14]])]
theorem bo.loops:LO (a_ []) bo.pn (bo.lh F) F Try.f210:=
 (ac.rt (ac.block (ac.la (λn tm H r h=>by change bo.lh3 F [] n tm H=_ at h;unfold bo.lh3 at h;split at h;have e:cf tm [(0,_),(2,_),(3,_)]:=⟨‹_›,‹_›,‹_›,trivial⟩;obtain _ | k3:=n;cases h;exact ⟨_,rfl,by rw [<- ci e];exact Eq.trans (by kernel_rfl) h⟩;cases h) λk3=>ac.no)))
theorem bo.k:Ok Try.prog 210 (mk2 (bo.tw F)):=by
 intro args H v H' h
 unfold mk2 at h
 split at h
 ·exact okT (PN:=bo.pn) (LH:=(bo.lh F)) (F:=F) (TB:=bo.tb) Try.func210 bN (bo.loops F) (Eq.trans (by kernel_rfl) h) (by kernel_rfl)
 ·cases h
def bB.twX (F:Nat) (aw:AZ) (iZ:A_) (aa:Int) (H:Hp):OA:=(aw aa H).bind λr2=>((r2.1).asSl).bind λs3=>(iZ s3 r2.2).bind λr4=>some ((.sl s3),r4.2)
def bB.tw:=bB.twX F (aH.tw F) (bo.tw F)
def bB.cs (F:Nat) (aw:AZ) (iZ:A_):Cs:=[(125,mk6 aw),(210,mk2 iZ)]
theorem bB.eqX (aw:AZ) (iZ:A_) (aa:Int) (H:Hp):EX (a_ (bB.cs F aw iZ)) aO lh0 F Try.f186 [(.int .i64 aa)] H=bB.twX F aw iZ aa H:=by kernel_rfl
theorem bB.k:Ok Try.prog 186 (mk6 (bB.tw F)):=by
 intro args H v H' h
 unfold mk6 at h
 split at h
 ·exact okT (TB:=aO) Try.func186 (bf (aH.k F) (bf (bo.k F) bN)) ac.no ((bB.eqX F (aH.tw F) (bo.tw F) _ H).trans h) (by kernel_rfl)
 ·cases h
def aD.l29 (F:Nat) :Nat->Sl->Sl->Int->Int->Hp->OA
 | 0,_,_,_,_,_=>none
 | bH+1,bv,ly,fo,el,H9=>(bif (decide (el<fo)) then ((Sl.idx ly el 1).bind λp14=>(Hp.ldI H9 .i64 p14.1 p14.2).bind λn15=>(Sl.idx bv n15 1).bind λp16=>(Hp.st H9 p16.1 p16.2 (.int .i64 el)).bind λH17=>aD.l29 F bH bv ly fo (wrap .i64 (el+1)) H17) else (some ((.sl bv),H9)))
def aD.twX (aa:Sl) (H:Hp):OA:=(Hp.mk H [.int .i64 0] 8 (aa.n:Int) (aa.n:Int)).bind λm2=>aD.l29 F F m2.1 aa (aa.n:Int) 0 m2.2
def aD.tw:=aD.twX F
def aD.lh29 (ks:Be) (n:Nat) (tm:Tm) (H:Hp):OA:=match ks,tm 3,tm 9,tm 10,tm 11 with
 | [],(.sl bv),(.sl ly),(.int .i64 fo),(.int .i64 el)=>aD.l29 F n bv ly fo el H
 | _,_,_,_,_=>none
def aD.lh (p:Nat) (ks:Be) (n:Nat) (tm:Tm) (H:Hp):OA:=bif p.beq 29 then aD.lh29 F ks n tm H else (none)
theorem aD.loops:LO (a_ []) aO (aD.lh F) F Try.f126:=
 (ac.rt (ac.rt (ac.lt (ac.rt (ac.block (ac.la (λn tm H r h=>by change aD.lh29 F [] n tm H=_ at h;unfold aD.lh29 at h;split at h;have e:cf tm [(3,_),(9,_),(10,_),(11,_)]:=⟨‹_›,‹_›,‹_›,‹_›,trivial⟩;obtain _ | k29:=n;cases h;exact ⟨_,rfl,by rw [<- ci e];exact Eq.trans (by kernel_rfl) h⟩;cases h) λk29=>ac.no))))))
theorem aD.k:Ok Try.prog 126 (mk2 (aD.tw F)):=by
 intro args H v H' h
 unfold mk2 at h
 split at h
 ·exact okT (PN:=aO) (LH:=(aD.lh F)) (F:=F) (TB:=aO) Try.func126 bN (aD.loops F) (Eq.trans (by kernel_rfl) h) (by kernel_rfl)
 ·cases h
def ce.twX (F:Nat) (aa:Int) (H:Hp):OA:=(bif (decide (aa<0)) then (some ((.int .i64 (wrap .i64 (0 - aa))),H)) else (some ((.int .i64 aa),H)))
def ce.tw:=ce.twX F
theorem ce.k:Ok Try.prog 87 (mk6 (ce.tw F)):=by
 intro args H v H' h
 unfold mk6 at h
 split at h
 ·exact ok0 Try.func87 (Eq.trans (by kernel_rfl) h) (by kernel_rfl) (by kernel_rfl)
 ·cases h
def bu.twX (F:Nat) (aa:Sl) (ag:Int) (H:Hp):OA:=(Sl.idx aa ag 1).bind λp3=>(Hp.ldI H .i64 p3.1 p3.2).bind λn4=>(Sl.idx aa (wrap .i64 (ag - 1)) 1).bind λp5=>(Hp.ldI H .i64 p5.1 p5.2).bind λn6=>(Sl.idx aa (wrap .i64 (ag - 1)) 1).bind λp7=>(Hp.st H p7.1 p7.2 (.int .i64 n4)).bind λH8=>(Sl.idx aa ag 1).bind λp9=>(Hp.st H8 p9.1 p9.2 (.int .i64 n6)).bind λH10=>some ((.tup []),H10)
def bu.tw:=bu.twX F
def bu.pn:Nat->List Nat:=cG [(0,[15,17])]
def bu.tb:Nat->List (List Nat):=cG [(0,[[],[],[1],[],[],[],[],[5,6],[5,6,7],[],[],[10],[9,10,11],[9,10,11,12],[0,1,2,5,6,7,8,9,10,11,12,13],[0,1,2,5,6,7,8,9,10,11,12,13,14],[0,1,2,3,4,5,6,7,8,9,10,11,12,13,14,15],[0,1,2,3,4,5,6,7,8,9,10,11,12,13,14,15,16]])]
theorem bu.k:Ok Try.prog 117 (mk0 (bu.tw F)):=by
 intro args H v H' h
 unfold mk0 at h
 split at h
 ·exact okT (PN:=bu.pn) (LH:=lh0) (F:=F) (TB:=bu.tb) Try.func117 bN ac.no (Eq.trans (by kernel_rfl) h) (by kernel_rfl)
 ·cases h
def bw.j1 (F:Nat) (aw:AZ) (cV:A_) (aB:AZ) (aR:A_) (cR:AZ) (aT:Bd) (qt:Nat) (qu:Nat) (vl:Int) (vm:Sl) (H50:Hp):OA:=(aR vm H50).bind λr51=>((r51.1).asSl).bind λs52=>(cR vl r51.2).bind λr53=>((r53.1).asI .i64).bind λn54=>(aT s52 n54 r53.2).bind λr55=>(Hp.ldSl r55.2 qt (qu+2)).bind λs56=>(aR s52 r55.2).bind λr57=>((r57.1).asSl).bind λs58=>(if aq r55.2 r57.2 then ((Hp.new r57.2 [(.sl s58)]).bind λH59=>(Sl.row H59 (⟨some (r57.2.length,0),1,.ex 1⟩:Sl) 1).bind λxs61=>(Hp.app H59 1 24 s56 (⟨some (r57.2.length,0),1,.ex 1⟩:Sl).n xs61).bind λa60=>(Hp.st a60.2 qt (qu+2) (.sl a60.1)).bind λH62=>some ((.tup []),H62)) else none)
def bw.j2 (aw:AZ) (cV:A_) (aB:AZ) (aR:A_) (cR:AZ) (aT:Bd) (lz:Nat) (iB:Nat) (mX:Int) (H33:Hp):OA:=(Hp.ldI H33 .i64 lz (iB+1)).bind λn34=>(Hp.st H33 lz (iB+1) (.int .i64 (wrap .i64 (n34 - 1)))).bind λH35=>(Hp.ldI H35 .i64 lz iB).bind λn36=>(aB n36 H35).bind λr37=>((r37.1).asSl).bind λs38=>(aR s38 r37.2).bind λr39=>((r39.1).asSl).bind λs40=>bw.j1 F aw cV aB aR cR aT lz iB mX s40 r39.2
def bw.l105 (F:Nat) (aw:AZ) (cV:A_) (aB:AZ) (aR:A_) (cR:AZ) (aT:Bd) :Nat->Nat->Nat->Int->Sl->Int->Int->Hp->OA
 | 0,_,_,_,_,_,_,_=>none
 | vn+1,jP,jQ,de,lA,lC,i_,H16=>(bif (decide (i_<lC)) then ((Sl.idx lA i_ 1).bind λp63=>(Hp.ldSl H16 p63.1 p63.2).bind λs64=>(Hp.ldSl H16 jP (jQ+2)).bind λs65=>(cV s64 H16).bind λr66=>((r66.1).asSl).bind λs67=>(if aq H16 r66.2 then ((Sl.idx s65 i_ 1).bind λp68=>(Hp.st r66.2 p68.1 p68.2 (.sl s67)).bind λH69=>bw.l105 F aw cV aB aR cR aT vn jP jQ de lA lC (wrap .i64 (i_+1)) H69) else none)) else (bw.j2 F aw cV aB aR cR aT jP jQ de H16))
termination_by structural n=>n
def bw.j3 (F:Nat) (aw:AZ) (cV:A_) (aB:AZ) (aR:A_) (cR:AZ) (aT:Bd) (qv:Nat) (qw:Nat) (vo:Int) (vp:Sl) (H75:Hp):OA:=(aR vp H75).bind λr76=>((r76.1).asSl).bind λs77=>(cR vo r76.2).bind λr78=>((r78.1).asI .i64).bind λn79=>(aT s77 n79 r78.2).bind λr80=>(Hp.ldSl r80.2 qv (qw+2)).bind λs81=>(aR s77 r80.2).bind λr82=>((r82.1).asSl).bind λs83=>(if aq r80.2 r82.2 then ((Hp.new r82.2 [(.sl s83)]).bind λH84=>(Sl.row H84 (⟨some (r82.2.length,0),1,.ex 1⟩:Sl) 1).bind λxs86=>(Hp.app H84 1 24 s81 (⟨some (r82.2.length,0),1,.ex 1⟩:Sl).n xs86).bind λa85=>(Hp.st a85.2 qv (qw+2) (.sl a85.1)).bind λH87=>some ((.tup []),H87)) else none)
def bw.twX (aw:AZ) (cV:A_) (aB:AZ) (aR:A_) (cR:AZ) (aT:Bd) (aa:Nat) (ar:Nat) (ak:Int) (H:Hp):OA:=(Hp.ldI H .i64 aa ar).bind λn4=>(aw n4 H).bind λr5=>((r5.1).asSl).bind λs6=>(bif (decide (ak<0)) then ((Hp.ldSl r5.2 aa (ar+2)).bind λs7=>bw.l105 F aw cV aB aR cR aT F aa ar ak s7 (s7.n:Int) 0 r5.2) else (bw.j3 F aw cV aB aR cR aT aa ar ak s6 r5.2))
def bw.tw:=bw.twX F (aH.tw F) (aQ.tw F) (bB.tw F) (aD.tw F) (ce.tw F) (bu.tw F)
def bw.lh105 (aw:AZ) (cV:A_) (aB:AZ) (aR:A_) (cR:AZ) (aT:Bd) (ks:Be) (n:Nat) (tm:Tm) (H:Hp):OA:=match ks,tm 0,tm 1,tm 18,tm 19,tm 20 with
 | [],(.ptr jP jQ),(.int .i64 de),(.sl lA),(.int .i64 lC),(.int .i64 i_)=>bw.l105 F aw cV aB aR cR aT n jP jQ de lA lC i_ H
 | _,_,_,_,_,_=>none
def bw.lh (aw:AZ) (cV:A_) (aB:AZ) (aR:A_) (cR:AZ) (aT:Bd) (p:Nat) (ks:Be) (n:Nat) (tm:Tm) (H:Hp):OA:=bif p.beq 105 then bw.lh105 F aw cV aB aR cR aT ks n tm H else (none)
def bw.pn:Nat->List Nat:=cG [(5,[8]),(11,[8,11])]
def bw.tb:Nat->List (List Nat):=cG [(5,[[],[0],[0,1],[0,1,2],[],[],[5],[0,1,2,3,4,5,6],[0,1,2,3,4,5,6,7]]),(11,[[],[],[1],[1,2],[1,2,3],[],[5],[5,6],[1,2,3,4,5,6,7],[0,1,2,3,4,5,6,7,8],[0,1,2,3,4,5,6,7,8,9],[0,1,2,3,4,5,6,7,8,9,10]])]
def mk11 (g:Bm) (args:Bf) (H:Hp):OA:=match args with
 | [(.ptr aa ar),(.int .i64 ak)]=>g aa ar ak H
 | _=>none
theorem mk11_E (g:Bm) (aa:Nat) (ar:Nat) (ak:Int) (H:Hp):mk11 g [(.ptr aa ar),(.int .i64 ak)] H=g aa ar ak H:=rfl
def bw.cs (F:Nat) (aw:AZ) (cV:A_) (aB:AZ) (aR:A_) (cR:AZ) (aT:Bd):Cs:=[(125,mk6 aw),(185,mk2 cV),(186,mk6 aB),(126,mk2 aR),(87,mk6 cR),(117,mk0 aT)]
theorem bw.loops (aw:AZ) (cV:A_) (aB:AZ) (aR:A_) (cR:AZ) (aT:Bd):LO (a_ (bw.cs F aw cV aB aR cR aT)) bw.pn (bw.lh F aw cV aB aR cR aT) F Try.f153:=
 (ac.rt (ac.lt (ac.rt (ac.cond (ac.lt (ac.rt (ac.block (ac.la (λn tm H r h=>by change bw.lh105 F aw cV aB aR cR aT [] n tm H=_ at h;unfold bw.lh105 at h;split at h;have e:cf tm [(0,_),(1,_),(18,_),(19,_),(20,_)]:=⟨‹_›,‹_›,‹_›,‹_›,‹_›,trivial⟩;obtain _ | k105:=n;cases h;exact ⟨_,rfl,by rw [<- ci e];exact Eq.trans (by kernel_rfl) h⟩;cases h) λk105=>ac.no)))) ac.no))))
theorem bw.eqX (aw:AZ) (cV:A_) (aB:AZ) (aR:A_) (cR:AZ) (aT:Bd) (aa:Nat) (ar:Nat) (ak:Int) (H:Hp):EX (a_ (bw.cs F aw cV aB aR cR aT)) bw.pn (bw.lh F aw cV aB aR cR aT) F Try.f153 [(.ptr aa ar),(.int .i64 ak)] H=bw.twX F aw cV aB aR cR aT aa ar ak H:=by kernel_rfl
theorem bw.k:Ok Try.prog 153 (mk11 (bw.tw F)):=by
 intro args H v H' h
 unfold mk11 at h
 split at h
 ·exact okT (TB:=bw.tb) Try.func153 (bf (aH.k F) (bf (aQ.k F) (bf (bB.k F) (bf (aD.k F) (bf (ce.k F) (bf (bu.k F) bN)))))) (bw.loops F (aH.tw F) (aQ.tw F) (bB.tw F) (aD.tw F) (ce.tw F) (bu.tw F)) ((bw.eqX F (aH.tw F) (aQ.tw F) (bB.tw F) (aD.tw F) (ce.tw F) (bu.tw F) _ _ _ H).trans h) (by kernel_rfl)
 ·cases h
def aj.j6 (F:Nat) (aR:A_) (bd:A_) (aT:Bd) (C29_:Bw) (vq:Sl) (vr:Sl) (ja:Bool) (jb:Bool) (H148:Hp):OA:=C29_ vq vr ja jb H148
def aj.j7 (aR:A_) (bd:A_) (aT:Bd) (C29_:Bw) (vt:Sl) (vu:Sl) (jc:Bool) (jd:Bool) (H138:Hp):OA:=aj.j6 F aR bd aT C29_ vt vu jc jd H138
def aj.j8 (F:Nat) (aR:A_) (bd:A_) (aT:Bd) (C943_:BD) (vv:Sl) (vw:Sl) (je:Bool) (jf:Bool) (mZ:Sl) (jg:Int) (H174:Hp):OA:=C943_ vv vw je jf mZ (wrap .i64 (jg+1)) H174
def aj.l943 (F:Nat) (aR:A_) (bd:A_) (aT:Bd) (C29_:Bw):Nat->Sl->Sl->Bool->Bool->Sl->Int->Hp->OA
 | 0,_,_,_,_,_,_,_=>none
 | m_+1,gy,fS,eK,eL,fT,cz,H102=>(bd gy H102).bind λr149=>((r149.1).asI .i64).bind λn150=>(bif (decide (cz<n150)) then ((Sl.idx fS (wrap .i64 (cz - 1)) 1).bind λp151=>(Hp.ldI r149.2 .i64 p151.1 p151.2).bind λn152=>(Sl.idx fS cz 1).bind λp153=>(Hp.ldI r149.2 .i64 p153.1 p153.2).bind λn154=>(bif (decide (n152>n154)) then ((Sl.idx fT (wrap .i64 (cz - 1)) 1).bind λp155=>(Hp.ldI r149.2 .i64 p155.1 p155.2).bind λn156=>(Sl.idx fT cz 1).bind λp157=>(Hp.ldI r149.2 .i64 p157.1 p157.2).bind λn158=>(bif (decide (n156<n158)) then ((aT fS cz r149.2).bind λr159=>(aT fT cz r159.2).bind λr160=>(aR fT r160.2).bind λr161=>((r161.1).asSl).bind λs162=>(Hp.cpy r161.2 1 gy s162).bind λc163=>aj.j8 F aR bd aT (aj.l943 F aR bd aT C29_ m_) gy fS true true fT cz c163.2) else (aj.j8 F aR bd aT (aj.l943 F aR bd aT C29_ m_) gy fS eK eL fT cz r149.2))) else (aj.l943 F aR bd aT C29_ m_ gy fS eK eL fT (wrap .i64 (cz+1)) r149.2))) else (aj.j7 F aR bd aT C29_ gy fS eK eL r149.2))
def aj.l29 (F:Nat) (aR:A_) (bd:A_) (aT:Bd) :Nat->Sl->Sl->Bool->Bool->Hp->OA
 | 0,_,_,_,_,_=>none
 | bH+1,aP,db,fp,fU,H8=>(bif fU then ((aR aP H8).bind λr92=>((r92.1).asSl).bind λs93=>aj.l943 F aR bd aT (aj.l29 F aR bd aT bH) F aP db fp false s93 1 r92.2) else (some ((.bool fp),H8)))
def aj.twX (aR:A_) (bd:A_) (aT:Bd) (aa:Sl) (ag:Sl) (H:Hp):OA:=aj.l29 F aR bd aT F aa ag false true H
def aj.tw:=aj.twX F (aD.tw F) (bR.tw F) (bu.tw F)
def aj.lh29 (aR:A_) (bd:A_) (aT:Bd) (ks:Be) (n:Nat) (tm:Tm) (H:Hp):OA:=match ks,tm 0,tm 1,tm 5,tm 6 with
 | [],(.sl aP),(.sl db),(.bool fp),(.bool fU)=>aj.l29 F aR bd aT n aP db fp fU H
 | _,_,_,_,_=>none
def aj.lh943 (aR:A_) (bd:A_) (aT:Bd) (ks:Be) (n:Nat) (tm:Tm) (H:Hp):OA:=match ks,tm 0,tm 1,tm 5,tm 6,tm 7,tm 8 with
 | [bH],(.sl gy),(.sl fS),(.bool eK),(.bool eL),(.sl fT),(.int .i64 cz)=>aj.l943 F aR bd aT (aj.l29 F aR bd aT bH) n gy fS eK eL fT cz H
 | _,_,_,_,_,_,_=>none
def aj.lh (aR:A_) (bd:A_) (aT:Bd) (p:Nat) (ks:Be) (n:Nat) (tm:Tm) (H:Hp):OA:=bif p.beq 943 then aj.lh943 F aR bd aT ks n tm H else (bif p.beq 29 then aj.lh29 F aR bd aT ks n tm H else (none))
def aj.tb:Nat->List (List Nat):=cG [(9,[[],[],[1],[0,1,2],[0,1,2,3],[],[],[5,6],[5,6,7],[0,1,2,3,4,5,6,7,8],[0,1,2,3,4,5,6,7,8,9],[0,1,2,3,4,5,6,7,8,9,10],[0,1,2,3,4,5,6,7,8,9,10],[0,1,2,3,4,5,6,7,8,9,10,12],[0,1,2,3,4,5,6,7,8,9,10,11,12,13],[0,1,2,3,4,5,6,7,8,9,10,11,12,13,14],[0,1,2,3,4,5,6,7,8,9,10],[0,1,2,3,4,5,6,7,8,9,10],[0,1,2,3,4,5,6,7,8,9,10,16,17],[0,1,2,3,4,5,6,7,8,9,10,16,17,18],[0,1,2,3,4,5,6,7,8,9,10,11,12,13,14,15,16,17,18,19],[0,1,2,3,4,5,6,7,8,9,10,11,12,13,14,15,16,17,18,19,20]])]
def aj.cs (F:Nat) (aR:A_) (bd:A_) (aT:Bd):Cs:=[(126,mk2 aR),(113,mk2 bd),(117,mk0 aT)]
theorem aj.loops (aR:A_) (bd:A_) (aT:Bd):LO (a_ (aj.cs F aR bd aT)) aO (aj.lh F aR bd aT) F Try.f187:=
 (ac.rt (ac.rt (ac.lt (ac.rt (ac.block (ac.la (λn tm H r h=>by change aj.lh29 F aR bd aT [] n tm H=_ at h;unfold aj.lh29 at h;split at h;have e:cf tm [(0,_),(1,_),(5,_),(6,_)]:=⟨‹_›,‹_›,‹_›,‹_›,trivial⟩;obtain _ | k29:=n;cases h;exact ⟨_,rfl,by rw [<- ci e];exact Eq.trans (by kernel_rfl) h⟩;cases h) λk29=>(ac.rt (ac.block (ac.rt (ac.rt (ac.rt (ac.block (ac.la (λn tm H r h=>by change aj.lh943 F aR bd aT [k29] n tm H=_ at h;unfold aj.lh943 at h;split at h;have e:cf tm [(0,_),(1,_),(5,_),(6,_),(7,_),(8,_)]:=⟨‹_›,‹_›,‹_›,‹_›,‹_›,‹_›,trivial⟩;cases (show [k29]=_ from ‹_›);obtain _ | k943:=n;cases h;exact ⟨_,rfl,by rw [<- ci e];exact Eq.trans (by kernel_rfl) h⟩;cases h) λk943=>ac.no)))))))))))))
theorem aj.eqX (aR:A_) (bd:A_) (aT:Bd) (aa:Sl) (ag:Sl) (H:Hp):EX (a_ (aj.cs F aR bd aT)) aO (aj.lh F aR bd aT) F Try.f187 [(.sl aa),(.sl ag)] H=aj.twX F aR bd aT aa ag H:=by kernel_rfl
theorem aj.k:Ok Try.prog 187 (mk7 (aj.tw F)):=by
 intro args H v H' h
 unfold mk7 at h
 split at h
 ·exact okT (TB:=aj.tb) Try.func187 (bf (aD.k F) (bf (bR.k F) (bf (bu.k F) bN))) (aj.loops F (aD.tw F) (bR.tw F) (bu.tw F)) ((aj.eqX F (aD.tw F) (bR.tw F) (bu.tw F) _ _ H).trans h) (by kernel_rfl)
 ·cases h
def aN.l29 (F:Nat) :Nat->Sl->Sl->Int->Int->Hp->OA
 | 0,_,_,_,_,_=>none
 | bH+1,aP,db,fq,en,H9=>(bif (decide (en<fq)) then ((Sl.idx aP en 1).bind λp14=>(Hp.ldI H9 .i64 p14.1 p14.2).bind λn15=>(Sl.idx db en 1).bind λp16=>(Hp.ldI H9 .i64 p16.1 p16.2).bind λn17=>(bif (n15 != n17) then (some ((.bool false),H9)) else (aN.l29 F bH aP db fq (wrap .i64 (en+1)) H9))) else (some ((.bool true),H9)))
def aN.twX (aa:Sl) (ag:Sl) (H:Hp):OA:=(bif ((aa.n:Int) != (ag.n:Int)) then (some ((.bool false),H)) else (aN.l29 F F aa ag (aa.n:Int) 0 H))
def aN.tw:=aN.twX F
def aN.lh29 (ks:Be) (n:Nat) (tm:Tm) (H:Hp):OA:=match ks,tm 0,tm 1,tm 12,tm 13 with
 | [],(.sl aP),(.sl db),(.int .i64 fq),(.int .i64 en)=>aN.l29 F n aP db fq en H
 | _,_,_,_,_=>none
def aN.lh (p:Nat) (ks:Be) (n:Nat) (tm:Tm) (H:Hp):OA:=bif p.beq 29 then aN.lh29 F ks n tm H else (none)
def aN.tb:Nat->List (List Nat):=cG [(6,[[],[],[0,1],[0,1,2],[],[],[4,5],[4,5,6],[0,1,2,3,4,5,6,7]])]
theorem aN.loops:LO (a_ []) aO (aN.lh F) F Try.f100:=
 (ac.rt (ac.rt (ac.lt (ac.rt (ac.block (ac.la (λn tm H r h=>by change aN.lh29 F [] n tm H=_ at h;unfold aN.lh29 at h;split at h;have e:cf tm [(0,_),(1,_),(12,_),(13,_)]:=⟨‹_›,‹_›,‹_›,‹_›,trivial⟩;obtain _ | k29:=n;cases h;exact ⟨_,rfl,by rw [<- ci e];exact Eq.trans (by kernel_rfl) h⟩;cases h) λk29=>ac.no))))))
theorem aN.k:Ok Try.prog 100 (mk7 (aN.tw F)):=by
 intro args H v H' h
 unfold mk7 at h
 split at h
 ·exact okT (PN:=aO) (LH:=(aN.lh F)) (F:=F) (TB:=aN.tb) Try.func100 bN (aN.loops F) (Eq.trans (by kernel_rfl) h) (by kernel_rfl)
 ·cases h
def aC.j6 (F:Nat) (bq:Bb) (aw:AZ) (aB:AZ) (aK:Bb) (C125_:BE) (vx:Nat) (vy:Nat) (vz:Sl) (vA:Sl) (mZ:Nat) (vB:Nat) (vC:Sl) (vD:Int) (vE:Int) (H178:Hp):OA:=C125_ vx vy vz vA mZ vB vC vD (wrap .i64 (vE+1)) H178
def aC.j7 (F:Nat) (bq:Bb) (aw:AZ) (aB:AZ) (aK:Bb) (C125_:BE) (vF:Nat) (vG:Nat) (vH:Sl) (vI:Sl) (vJ:Nat) (vK:Nat) (vL:Sl) (vM:Int) (vN:Int) (H218:Hp):OA:=C125_ vF vG vH vI vJ vK vL vM (wrap .i64 (vN+1)) H218
def aC.j8 (bq:Bb) (aw:AZ) (aB:AZ) (aK:Bb) (C125_:BE) (vO:Nat) (vP:Nat) (vQ:Sl) (vR:Sl) (vS:Nat) (vT:Nat) (vU:Sl) (vV:Int) (vW:Int) (H200:Hp):OA:=aC.j7 F bq aw aB aK C125_ vO vP vQ vR vS vT vU vV vW H200
def aC.l125 (F:Nat) (bq:Bb) (aw:AZ) (aB:AZ) (aK:Bb) :Nat->Nat->Nat->Sl->Sl->Nat->Nat->Sl->Int->Int->Hp->OA
 | 0,_,_,_,_,_,_,_,_,_,_=>none
 | gv+1,fV,fW,jh,ji,ft,fv,jj,jk,g_,H85=>(bif (decide (g_<jk)) then ((Sl.idx jj g_ 1).bind λp158=>(Hp.ldSl H85 p158.1 p158.2).bind λs159=>(aK s159 jh H85).bind λr160=>((r160.1).asB).bind λb161=>(bif b161 then (aC.j6 F bq aw aB aK (aC.l125 F bq aw aB aK gv) fV fW jh ji ft fv jj jk g_ r160.2) else ((aK s159 ji r160.2).bind λr179=>((r179.1).asB).bind λb180=>(bif b180 then ((Hp.ldI r179.2 .i64 ft fv).bind λn181=>(Hp.st r179.2 ft fv (.int .i64 (wrap .i64 (n181+1)))).bind λH182=>aC.j8 F bq aw aB aK (aC.l125 F bq aw aB aK gv) fV fW jh ji ft fv jj jk g_ H182) else ((Hp.ldSl r179.2 ft (fv+1)).bind λs219=>(Hp.new r179.2 [(.sl s159)]).bind λH220=>(Sl.row H220 (⟨some (r179.2.length,0),1,.ex 1⟩:Sl) 1).bind λxs222=>(Hp.app H220 1 24 s219 (⟨some (r179.2.length,0),1,.ex 1⟩:Sl).n xs222).bind λa221=>(Hp.st a221.2 ft (fv+1) (.sl a221.1)).bind λH223=>aC.j8 F bq aw aB aK (aC.l125 F bq aw aB aK gv) fV fW jh ji ft fv jj jk g_ H223))))) else ((Hp.ldI H85 .i64 ft fv).bind λn224=>(Hp.ldSl H85 ft (fv+1)).bind λs225=>(Hp.st H85 fV fW (.int .i64 n224)).bind λH226=>(Hp.st H226 fV (fW+1) (.sl s225)).bind λH227=>(Hp.ldI H227 .i64 fV fW).bind λn228=>(Hp.ldSl H227 fV (fW+1)).bind λs229=>some ((.agg [(.int .i64 n228),(.sl s229)]),H227)))
termination_by structural n=>n
def aC.j9 (bq:Bb) (aw:AZ) (aB:AZ) (aK:Bb) (lD:Nat) (lE:Nat) (vX:Nat) (vY:Nat) (H60:Hp):OA:=(Hp.ldI H60 .i64 lD lE).bind λn61=>(aw n61 H60).bind λr62=>((r62.1).asSl).bind λs63=>(if aq H60 r62.2 then ((Hp.ldI r62.2 .i64 lD lE).bind λn64=>(aB n64 r62.2).bind λr65=>((r65.1).asSl).bind λs66=>(Hp.ldI r65.2 .i64 lD (lE+1)).bind λn67=>(Hp.new r65.2 [.int .i64 0,.sl ⟨none,0,.ex 0⟩]).bind λH68=>(Hp.st H68 r65.2.length 0 (.int .i64 n67)).bind λH69=>(Hp.st H69 r65.2.length (0+1) (.sl (⟨none,0,.ex 0⟩:Sl))).bind λH70=>(Hp.ldSl H70 lD (lE+2)).bind λs71=>aC.l125 F bq aw aB aK F vX vY s63 s66 r65.2.length 0 s71 (s71.n:Int) 0 H70) else none)
def aC.j10 (F:Nat) (bq:Bb) (aw:AZ) (aB:AZ) (aK:Bb) (C13_:BF) (vZ:Nat) (v_:Nat) (wa:Nat) (wb:Nat) (wc:Bool) (H264:Hp):OA:=C13_ vZ v_ wa wb wc H264
def aC.j11 (bq:Bb) (aw:AZ) (aB:AZ) (aK:Bb) (C13_:BF) (wd:Nat) (wg:Nat) (wh:Nat) (wi:Nat) (wj:Bool) (H255:Hp):OA:=aC.j10 F bq aw aB aK C13_ wd wg wh wi wj H255
def aC.l215 (F:Nat) (bq:Bb) (aw:AZ) (aB:AZ) (aK:Bb) (C13_:BF):Nat->Nat->Nat->Nat->Nat->Bool->Int->Hp->OA
 | 0,_,_,_,_,_,_,_=>none
 | qx+1,gz,gA,jR,jS,lF,hG,H237=>(Hp.ldSl H237 gz (gA+2)).bind λs265=>(bif (decide (hG<(s265.n:Int))) then ((Hp.ldSl H237 gz (gA+2)).bind λs266=>(Sl.idx s266 (wrap .i64 (hG - 1)) 1).bind λp267=>(Hp.ldSl H237 p267.1 p267.2).bind λs268=>(Hp.ldSl H237 gz (gA+2)).bind λs269=>(Sl.idx s269 hG 1).bind λp270=>(Hp.ldSl H237 p270.1 p270.2).bind λs271=>(bq s268 s271 H237).bind λr272=>((r272.1).asB).bind λb273=>(bif b273 then (aC.l215 F bq aw aB aK C13_ qx gz gA jR jS true (wrap .i64 (hG+1)) r272.2) else (aC.l215 F bq aw aB aK C13_ qx gz gA jR jS lF (wrap .i64 (hG+1)) r272.2))) else (aC.j11 F bq aw aB aK C13_ gz gA jR jS lF H237))
termination_by structural n=>n
def aC.l13 (F:Nat) (bq:Bb) (aw:AZ) (aB:AZ) (aK:Bb) :Nat->Nat->Nat->Nat->Nat->Bool->Hp->OA
 | 0,_,_,_,_,_,_=>none
 | jO+1,dH,eU,lG,lH,na,H9=>(bif na then (aC.l215 F bq aw aB aK (aC.l13 F bq aw aB aK jO) F dH eU lG lH false 1 H9) else (aC.j9 F bq aw aB aK dH eU lG lH H9))
termination_by structural n=>n
def aC.twX (bq:Bb) (aw:AZ) (aB:AZ) (aK:Bb) (aa:Nat) (ar:Nat) (H:Hp):OA:=(Hp.new H [.int .i64 0,.sl ⟨none,0,.ex 0⟩]).bind λH3=>aC.l13 F bq aw aB aK F aa ar H.length 0 true H3
def aC.tw:=aC.twX F (aj.tw F) (aH.tw F) (bB.tw F) (aN.tw F)
def aC.lh13 (bq:Bb) (aw:AZ) (aB:AZ) (aK:Bb) (ks:Be) (n:Nat) (tm:Tm) (H:Hp):OA:=match ks,tm 0,tm 2,tm 3 with
 | [],(.ptr dH eU),(.ptr lG lH),(.bool na)=>aC.l13 F bq aw aB aK n dH eU lG lH na H
 | _,_,_,_=>none
def aC.lh125 (bq:Bb) (aw:AZ) (aB:AZ) (aK:Bb) (ks:Be) (n:Nat) (tm:Tm) (H:Hp):OA:=match ks,tm 2,tm 5,tm 6,tm 7,tm 57,tm 58,tm 59 with
 | [],(.ptr fV fW),(.sl jh),(.sl ji),(.ptr ft fv),(.sl jj),(.int .i64 jk),(.int .i64 g_)=>aC.l125 F bq aw aB aK n fV fW jh ji ft fv jj jk g_ H
 | _,_,_,_,_,_,_,_=>none
def aC.lh215 (bq:Bb) (aw:AZ) (aB:AZ) (aK:Bb) (ks:Be) (n:Nat) (tm:Tm) (H:Hp):OA:=match ks,tm 0,tm 2,tm 3,tm 4 with
 | [jO],(.ptr gz gA),(.ptr jR jS),(.bool lF),(.int .i64 hG)=>aC.l215 F bq aw aB aK (aC.l13 F bq aw aB aK jO) n gz gA jR jS lF hG H
 | _,_,_,_,_=>none
def aC.lh (bq:Bb) (aw:AZ) (aB:AZ) (aK:Bb) (p:Nat) (ks:Be) (n:Nat) (tm:Tm) (H:Hp):OA:=bif p.beq 215 then aC.lh215 F bq aw aB aK ks n tm H else (bif p.beq 125 then aC.lh125 F bq aw aB aK ks n tm H else (bif p.beq 13 then aC.lh13 F bq aw aB aK ks n tm H else (none)))
def aC.pn:Nat->List Nat:=cG [(7,[15]),(8,[9])]
def aC.tb:Nat->List (List Nat):=cG [(7,[[],[0],[0,1],[0,1,2],[],[4],[0,1,2,3,4,5],[0,1,2,3,4,5,6],[],[8],[8,9],[8,9,10],[],[8,9,10,11,12],[8,9,10,11,12,13],[0,1,2,3,4,5,6,7,8,9,10,11,12,13,14],[0,1,2,3,4,5,6,7,8,9,10,11,12,13,14,15],[0,1,2,3,4,5,6,7,8,9,10,11,12,13,14,15,16],[0,1,2,3,4,5,6,7,8,9,10,11,12,13,14,15,16,17],[0,1,2,3,4,5,6,7,8,9,10,11,12,13,14,15,16,17,18]]),(8,[[],[0],[0,1],[0,1,2],[0,1,2,3],[],[5],[5,6],[5,6,7],[0,1,2,3,4,5,6,7,8],[0,1,2,3,4,5,6,7,8,9],[0,1,2,3,4,5,6,7,8,9,10]])]
def mk12 (g:Bp) (args:Bf) (H:Hp):OA:=match args with
 | [(.ptr aa ar)]=>g aa ar H
 | _=>none
theorem mk12_E (g:Bp) (aa:Nat) (ar:Nat) (H:Hp):mk12 g [(.ptr aa ar)] H=g aa ar H:=rfl
def aC.cs (F:Nat) (bq:Bb) (aw:AZ) (aB:AZ) (aK:Bb):Cs:=[(187,mk7 bq),(125,mk6 aw),(186,mk6 aB),(100,mk7 aK)]
theorem aC.loops (bq:Bb) (aw:AZ) (aB:AZ) (aK:Bb):LO (a_ (aC.cs F bq aw aB aK)) aC.pn (aC.lh F bq aw aB aK) F Try.f154:=
 (ac.rt (ac.seq (ac.rt (ac.block (ac.la (λn tm H r h=>by change aC.lh13 F bq aw aB aK [] n tm H=_ at h;unfold aC.lh13 at h;split at h;have e:cf tm [(0,_),(2,_),(3,_)]:=⟨‹_›,‹_›,‹_›,trivial⟩;obtain _ | k13:=n;cases h;exact ⟨_,rfl,by rw [<- ci e];exact Eq.trans (by kernel_rfl) h⟩;cases h) λk13=>(ac.rt (ac.block (ac.rt (ac.rt (ac.block (ac.la (λn tm H r h=>by change aC.lh215 F bq aw aB aK [k13] n tm H=_ at h;unfold aC.lh215 at h;split at h;have e:cf tm [(0,_),(2,_),(3,_),(4,_)]:=⟨‹_›,‹_›,‹_›,‹_›,trivial⟩;cases (show [k13]=_ from ‹_›);obtain _ | k215:=n;cases h;exact ⟨_,rfl,by rw [<- ci e];exact Eq.trans (by kernel_rfl) h⟩;cases h) λk215=>ac.no))))))))) (ac.rt (ac.rt (ac.lt (ac.rt (ac.block (ac.la (λn tm H r h=>by change aC.lh125 F bq aw aB aK [] n tm H=_ at h;unfold aC.lh125 at h;split at h;have e:cf tm [(2,_),(5,_),(6,_),(7,_),(57,_),(58,_),(59,_)]:=⟨‹_›,‹_›,‹_›,‹_›,‹_›,‹_›,‹_›,trivial⟩;obtain _ | k125:=n;cases h;exact ⟨_,rfl,by rw [<- ci e];exact Eq.trans (by kernel_rfl) h⟩;cases h) λk125=>ac.no))))))))
theorem aC.eqX (bq:Bb) (aw:AZ) (aB:AZ) (aK:Bb) (aa:Nat) (ar:Nat) (H:Hp):EX (a_ (aC.cs F bq aw aB aK)) aC.pn (aC.lh F bq aw aB aK) F Try.f154 [(.ptr aa ar)] H=aC.twX F bq aw aB aK aa ar H:=by kernel_rfl
theorem aC.k:Ok Try.prog 154 (mk12 (aC.tw F)):=by
 intro args H v H' h
 unfold mk12 at h
 split at h
 ·exact okT (TB:=aC.tb) Try.func154 (bf (aj.k F) (bf (aH.k F) (bf (bB.k F) (bf (aN.k F) bN)))) (aC.loops F (aj.tw F) (aH.tw F) (bB.tw F) (aN.tw F)) ((aC.eqX F (aj.tw F) (aH.tw F) (bB.tw F) (aN.tw F) _ _ H).trans h) (by kernel_rfl)
 ·cases h
def bG.l29 (F:Nat) (dJ:Bm) (dK:Bp) :Nat->Nat->Nat->Nat->Nat->Sl->Int->Int->Hp->OA
 | 0,_,_,_,_,_,_,_,_=>none
 | bH+1,eG,hK,dx,jT,lJ,lK,jU,H19=>(bif (decide (jU<lK)) then ((Sl.idx lJ jU 1).bind λp33=>(Hp.ldI H19 .i64 p33.1 p33.2).bind λn34=>(dJ dx jT n34 H19).bind λr35=>bG.l29 F dJ dK bH eG hK dx jT lJ lK (wrap .i64 (jU+1)) r35.2) else ((dK dx jT H19).bind λr36=>((r36.1).asAgg 2).bind λl37=>(l37[0]?).bind λv38=>((v38).asI .i64).bind λn39=>(l37[1]?).bind λv40=>((v40).asSl).bind λs41=>(Hp.st r36.2 eG hK (.int .i64 n39)).bind λH42=>(Hp.st H42 eG (hK+1) (.sl s41)).bind λH43=>(Hp.ldI H43 .i64 eG hK).bind λn44=>(Hp.ldSl H43 eG (hK+1)).bind λs45=>some ((.agg [(.int .i64 n44),(.sl s45)]),H43)))
termination_by structural n=>n
def bG.twX (dJ:Bm) (dK:Bp) (aa:Int) (ar:Sl) (H:Hp):OA:=(Hp.new H [(.int .i64 aa),(.sl ar)]).bind λH3=>(Hp.new H3 [.int .i64 0,.sl ⟨none,0,.ex 0⟩]).bind λH4=>(Hp.ldI H4 .i64 H.length 0).bind λn5=>(Hp.new H4 [(.int .i64 n5),(.int .i64 0),(.sl (⟨none,0,.ex 0⟩:Sl))]).bind λH6=>(Hp.ldSl H6 H.length 1).bind λs7=>bG.l29 F dJ dK F H3.length 0 H4.length 0 s7 (s7.n:Int) 0 H6
def bG.tw:=bG.twX F (bw.tw F) (aC.tw F)
def bG.lh29 (dJ:Bm) (dK:Bp) (ks:Be) (n:Nat) (tm:Tm) (H:Hp):OA:=match ks,tm 2,tm 3,tm 11,tm 12,tm 13 with
 | [],(.ptr eG hK),(.ptr dx jT),(.sl lJ),(.int .i64 lK),(.int .i64 jU)=>bG.l29 F dJ dK n eG hK dx jT lJ lK jU H
 | _,_,_,_,_,_=>none
def bG.lh (dJ:Bm) (dK:Bp) (p:Nat) (ks:Be) (n:Nat) (tm:Tm) (H:Hp):OA:=bif p.beq 29 then bG.lh29 F dJ dK ks n tm H else (none)
def bG.cs (F:Nat) (dJ:Bm) (dK:Bp):Cs:=[(153,mk11 dJ),(154,mk12 dK)]
theorem bG.loops (dJ:Bm) (dK:Bp):LO (a_ (bG.cs F dJ dK)) aO (bG.lh F dJ dK) F Try.f97:=
 (ac.rt (ac.rt (ac.lt (ac.rt (ac.block (ac.la (λn tm H r h=>by change bG.lh29 F dJ dK [] n tm H=_ at h;unfold bG.lh29 at h;split at h;have e:cf tm [(2,_),(3,_),(11,_),(12,_),(13,_)]:=⟨‹_›,‹_›,‹_›,‹_›,‹_›,trivial⟩;obtain _ | k29:=n;cases h;exact ⟨_,rfl,by rw [<- ci e];exact Eq.trans (by kernel_rfl) h⟩;cases h) λk29=>ac.no))))))
theorem bG.eqX (dJ:Bm) (dK:Bp) (aa:Int) (ar:Sl) (H:Hp):EX (a_ (bG.cs F dJ dK)) aO (bG.lh F dJ dK) F Try.f97 [(.agg [(.int .i64 aa),(.sl ar)])] H=bG.twX F dJ dK aa ar H:=by kernel_rfl
theorem bG.k:Ok Try.prog 97 (mk3 (bG.tw F)):=by
 intro args H v H' h
 unfold mk3 at h
 split at h
 ·exact okT (TB:=aO) Try.func97 (bf (bw.k F) (bf (aC.k F) bN)) (bG.loops F (bw.tw F) (aC.tw F)) ((bG.eqX F (bw.tw F) (aC.tw F) _ _ H).trans h) (by kernel_rfl)
 ·cases h
def ba.l29 (F:Nat) (aK:Bb) :Nat->Sl->Sl->Int->Int->Hp->OA
 | 0,_,_,_,_,_=>none
 | bH+1,db,lL,fw,eo,H10=>(bif (decide (eo<fw)) then ((Sl.idx lL eo 1).bind λp17=>(Hp.ldSl H10 p17.1 p17.2).bind λs18=>(Sl.idx db eo 1).bind λp19=>(Hp.ldSl H10 p19.1 p19.2).bind λs20=>(aK s18 s20 H10).bind λr21=>((r21.1).asB).bind λb22=>(bif (!b22) then (some ((.bool false),r21.2)) else (ba.l29 F aK bH db lL fw (wrap .i64 (eo+1)) r21.2))) else (some ((.bool true),H10)))
def ba.twX (aK:Bb) (aa:Sl) (ag:Sl) (H:Hp):OA:=(bif ((aa.n:Int) != (ag.n:Int)) then (some ((.bool false),H)) else (ba.l29 F aK F ag aa (aa.n:Int) 0 H))
def ba.tw:=ba.twX F (aN.tw F)
def ba.lh29 (aK:Bb) (ks:Be) (n:Nat) (tm:Tm) (H:Hp):OA:=match ks,tm 1,tm 2,tm 15,tm 16,tm 17 with
 | [],(.sl db),(.fn 100 []),(.sl lL),(.int .i64 fw),(.int .i64 eo)=>ba.l29 F aK n db lL fw eo H
 | _,_,_,_,_,_=>none
def ba.lh (aK:Bb) (p:Nat) (ks:Be) (n:Nat) (tm:Tm) (H:Hp):OA:=bif p.beq 29 then ba.lh29 F aK ks n tm H else (none)
def mk13 (g:Bb) (args:Bf) (H:Hp):OA:=match args with
 | [(.sl aa),(.sl ag),(.fn 100 [])]=>g aa ag H
 | _=>none
theorem mk13_E (g:Bb) (aa:Sl) (ag:Sl) (H:Hp):mk13 g [(.sl aa),(.sl ag),(.fn 100 [])] H=g aa ag H:=rfl
def ba.cs (F:Nat) (aK:Bb):Cs:=[(100,mk7 aK)]
theorem ba.loops (aK:Bb):LO (a_ (ba.cs F aK)) aO (ba.lh F aK) F Try.f99:=
 (ac.rt (ac.rt (ac.lt (ac.rt (ac.block (ac.la (λn tm H r h=>by change ba.lh29 F aK [] n tm H=_ at h;unfold ba.lh29 at h;split at h;have e:cf tm [(1,_),(2,_),(15,_),(16,_),(17,_)]:=⟨‹_›,‹_›,‹_›,‹_›,‹_›,trivial⟩;obtain _ | k29:=n;cases h;exact ⟨_,rfl,by rw [<- ci e];exact Eq.trans (by kernel_rfl) h⟩;cases h) λk29=>ac.no))))))
theorem ba.eqX (aK:Bb) (aa:Sl) (ag:Sl) (H:Hp):EX (a_ (ba.cs F aK)) aO (ba.lh F aK) F Try.f99 [(.sl aa),(.sl ag),(.fn 100 [])] H=ba.twX F aK aa ag H:=by kernel_rfl
theorem ba.k:Ok Try.prog 99 (mk13 (ba.tw F)):=by
 intro args H v H' h
 unfold mk13 at h
 split at h
 ·exact okT (TB:=aO) Try.func99 (bf (aN.k F) bN) (ba.loops F (aN.tw F)) ((ba.eqX F (aN.tw F) _ _ H).trans h) (by kernel_rfl)
 ·cases h
def cl.twX (F:Nat) (hN:Bi) (hO:Bi) (jl:Bb) (aa:Int) (ar:Sl) (ak:Int) (bS:Sl) (H:Hp):OA:=(Hp.new H [(.int .i64 aa),(.sl ar)]).bind λH5=>(Hp.new H5 [(.int .i64 ak),(.sl bS)]).bind λH6=>(Hp.ldI H6 .i64 H.length 0).bind λn7=>(Hp.ldSl H6 H.length (0+1)).bind λs8=>(hN n7 s8 H6).bind λr9=>((r9.1).asB).bind λb10=>(bif (!b10) then (some ((.bool false),r9.2)) else ((Hp.ldI r9.2 .i64 H5.length 0).bind λn11=>(Hp.ldSl r9.2 H5.length (0+1)).bind λs12=>(hN n11 s12 r9.2).bind λr13=>((r13.1).asB).bind λb14=>(bif (!b14) then (some ((.bool false),r13.2)) else ((Hp.ldI r13.2 .i64 H.length 0).bind λn15=>(Hp.ldI r13.2 .i64 H5.length 0).bind λn16=>(bif (n15 != n16) then (some ((.bool false),r13.2)) else ((Hp.ldI r13.2 .i64 H.length 0).bind λn17=>(Hp.ldSl r13.2 H.length (0+1)).bind λs18=>(hO n17 s18 r13.2).bind λr19=>((r19.1).asAgg 2).bind λl20=>(l20[0]?).bind λv21=>((v21).asI .i64).bind λn22=>(l20[1]?).bind λv23=>((v23).asSl).bind λs24=>(if aq r13.2 r19.2 then ((Hp.ldI r19.2 .i64 H5.length 0).bind λn25=>(Hp.ldSl r19.2 H5.length (0+1)).bind λs26=>(hO n25 s26 r19.2).bind λr27=>((r27.1).asAgg 2).bind λl28=>(l28[0]?).bind λv29=>((v29).asI .i64).bind λn30=>(l28[1]?).bind λv31=>((v31).asSl).bind λs32=>(if aq r19.2 r27.2 then ((Hp.new r27.2 [.int .i64 0,.sl ⟨none,0,.ex 0⟩]).bind λH33=>(Hp.new H33 [.int .i64 0,.sl ⟨none,0,.ex 0⟩]).bind λH34=>(Hp.st H34 r27.2.length 0 (.int .i64 n22)).bind λH35=>(Hp.st H35 r27.2.length (0+1) (.sl s24)).bind λH36=>(Hp.st H36 H33.length 0 (.int .i64 n30)).bind λH37=>(Hp.st H37 H33.length (0+1) (.sl s32)).bind λH38=>(Hp.ldI H38 .i64 r27.2.length 0).bind λn39=>(Hp.ldI H38 .i64 H33.length 0).bind λn40=>(bif (n39==n40) then ((Hp.ldSl H38 r27.2.length 1).bind λs41=>(Hp.ldSl H38 H33.length 1).bind λs42=>(jl s41 s42 H38).bind λr43=>((r43.1).asB).bind λb44=>some ((.bool b44),r43.2)) else (some ((.bool false),H38)))) else none)) else none)))))))
def cl.tw:=cl.twX F (cy.tw F) (bG.tw F) (ba.tw F)
def cl.pn:Nat->List Nat:=cG [(3,[6,7])]
def cl.tb:Nat->List (List Nat):=cG [(3,[[],[0],[],[0,1,2],[],[],[0,1,2,3,4,5],[0,1,2,3,4,5,6]])]
def cl.cs (F:Nat) (hN:Bi) (hO:Bi) (jl:Bb):Cs:=[(96,mk3 hN),(97,mk3 hO),(99,mk13 jl)]
theorem cl.eqX (hN:Bi) (hO:Bi) (jl:Bb) (aa:Int) (ar:Sl) (ak:Int) (bS:Sl) (H:Hp):EX (a_ (cl.cs F hN hO jl)) cl.pn lh0 F Try.f42 [(.agg [(.int .i64 aa),(.sl ar)]),(.agg [(.int .i64 ak),(.sl bS)])] H=cl.twX F hN hO jl aa ar ak bS H:=by kernel_rfl
theorem cl.k:Ok Try.prog 42 (mk8 (cl.tw F)):=by
 intro args H v H' h
 unfold mk8 at h
 split at h
 ·exact okT (TB:=cl.tb) Try.func42 (bf (cy.k F) (bf (bG.k F) (bf (ba.k F) bN))) ac.no ((cl.eqX F (cy.tw F) (bG.tw F) (ba.tw F) _ _ _ _ H).trans h) (by kernel_rfl)
 ·cases h
def bm.l29 (F:Nat) :Nat->Sl->Sl->Int->Hp->OA
 | 0,_,_,_,_=>none
 | bH+1,aP,db,bg,H8=>(bif (decide (bg<(aP.n:Int))) then ((Sl.idx aP bg 1).bind λp13=>(Hp.ldI H8 .i64 p13.1 p13.2).bind λn14=>(Sl.idx db bg 1).bind λp15=>(Hp.ldI H8 .i64 p15.1 p15.2).bind λn16=>(bif (n14 != n16) then (some ((.bool false),H8)) else (bm.l29 F bH aP db (wrap .i64 (bg+1)) H8))) else (some ((.bool true),H8)))
def bm.twX (aa:Sl) (ag:Sl) (H:Hp):OA:=(bif ((aa.n:Int) != (ag.n:Int)) then (some ((.bool false),H)) else (bm.l29 F F aa ag 0 H))
def bm.tw:=bm.twX F
def bm.lh29 (ks:Be) (n:Nat) (tm:Tm) (H:Hp):OA:=match ks,tm 0,tm 1,tm 5 with
 | [],(.sl aP),(.sl db),(.int .i64 bg)=>bm.l29 F n aP db bg H
 | _,_,_,_=>none
def bm.lh (p:Nat) (ks:Be) (n:Nat) (tm:Tm) (H:Hp):OA:=bif p.beq 29 then bm.lh29 F ks n tm H else (none)
def bm.tb:Nat->List (List Nat):=cG [(6,[[],[],[0,1],[0,1,2],[],[],[4,5],[4,5,6],[0,1,2,3,4,5,6,7]])]
theorem bm.loops:LO (a_ []) aO (bm.lh F) F Try.f90:=
 (ac.rt (ac.rt (ac.lt (ac.rt (ac.block (ac.la (λn tm H r h=>by change bm.lh29 F [] n tm H=_ at h;unfold bm.lh29 at h;split at h;have e:cf tm [(0,_),(1,_),(5,_)]:=⟨‹_›,‹_›,‹_›,trivial⟩;obtain _ | k29:=n;cases h;exact ⟨_,rfl,by rw [<- ci e];exact Eq.trans (by kernel_rfl) h⟩;cases h) λk29=>ac.no))))))
theorem bm.k:Ok Try.prog 90 (mk7 (bm.tw F)):=by
 intro args H v H' h
 unfold mk7 at h
 split at h
 ·exact okT (PN:=aO) (LH:=(bm.lh F)) (F:=F) (TB:=bm.tb) Try.func90 bN (bm.loops F) (Eq.trans (by kernel_rfl) h) (by kernel_rfl)
 ·cases h
def cA.twX (F:Nat) (jm:Bb) (aa:Int) (ar:Sl) (ak:Int) (bS:Sl) (H:Hp):OA:=(Hp.new H [(.int .i64 aa),(.sl ar)]).bind λH5=>(Hp.new H5 [(.int .i64 ak),(.sl bS)]).bind λH6=>(Hp.ldI H6 .i64 H.length 0).bind λn7=>(Hp.ldI H6 .i64 H5.length 0).bind λn8=>(bif (n7 != n8) then (some ((.bool false),H6)) else ((Hp.ldSl H6 H.length 1).bind λs9=>(Hp.ldSl H6 H5.length 1).bind λs10=>(jm s9 s10 H6).bind λr11=>((r11.1).asB).bind λb12=>(bif (!b12) then (some ((.bool false),r11.2)) else (some ((.bool true),r11.2)))))
def cA.tw:=cA.twX F (bm.tw F)
def cA.cs (F:Nat) (jm:Bb):Cs:=[(90,mk7 jm)]
theorem cA.eqX (jm:Bb) (aa:Int) (ar:Sl) (ak:Int) (bS:Sl) (H:Hp):EX (a_ (cA.cs F jm)) aO lh0 F Try.f37 [(.agg [(.int .i64 aa),(.sl ar)]),(.agg [(.int .i64 ak),(.sl bS)])] H=cA.twX F jm aa ar ak bS H:=by kernel_rfl
theorem cA.k:Ok Try.prog 37 (mk8 (cA.tw F)):=by
 intro args H v H' h
 unfold mk8 at h
 split at h
 ·exact okT (TB:=aO) Try.func37 (bf (bm.k F) bN) ac.no ((cA.eqX F (bm.tw F) _ _ _ _ H).trans h) (by kernel_rfl)
 ·cases h
def ch.twX (F:Nat) (hP:Bu) (fx:Bi) (jn:Bj) (jo:Bj) (hQ:Bj) (aa:Int) (ar:Sl) (ak:Int) (bS:Sl) (H:Hp):OA:=(Hp.new H [(.int .i64 aa),(.sl ar)]).bind λH5=>(Hp.new H5 [(.int .i64 ak),(.sl bS)]).bind λH6=>(Hp.ldI H6 .i64 H.length 0).bind λn7=>(Hp.ldSl H6 H.length (0+1)).bind λs8=>(hP n7 s8 1048576 H6).bind λr9=>((r9.1).asI .i64).bind λn10=>(bif (decide (n10<0)) then (some ((.bool true),r9.2)) else ((Hp.ldI r9.2 .i64 H5.length 0).bind λn11=>(Hp.ldSl r9.2 H5.length (0+1)).bind λs12=>(hP n11 s12 n10 r9.2).bind λr13=>((r13.1).asI .i64).bind λn14=>(bif (decide (n14<0)) then (some ((.bool true),r13.2)) else ((Hp.ldI r13.2 .i64 H.length 0).bind λn15=>(Hp.ldSl r13.2 H.length (0+1)).bind λs16=>(fx n15 s16 r13.2).bind λr17=>((r17.1).asAgg 2).bind λl18=>(l18[0]?).bind λv19=>((v19).asI .i64).bind λn20=>(l18[1]?).bind λv21=>((v21).asSl).bind λs22=>(if aq r13.2 r17.2 then ((Hp.ldI r17.2 .i64 H5.length 0).bind λn23=>(Hp.ldSl r17.2 H5.length (0+1)).bind λs24=>(fx n23 s24 r17.2).bind λr25=>((r25.1).asAgg 2).bind λl26=>(l26[0]?).bind λv27=>((v27).asI .i64).bind λn28=>(l26[1]?).bind λv29=>((v29).asSl).bind λs30=>(jn n20 s22 n28 s30 r25.2).bind λr31=>((r31.1).asB).bind λb32=>(Hp.ldI r31.2 .i64 H.length 0).bind λn33=>(Hp.ldSl r31.2 H.length (0+1)).bind λs34=>(fx n33 s34 r31.2).bind λr35=>((r35.1).asAgg 2).bind λl36=>(l36[0]?).bind λv37=>((v37).asI .i64).bind λn38=>(l36[1]?).bind λv39=>((v39).asSl).bind λs40=>(Hp.new r35.2 [.int .i64 0,.sl ⟨none,0,.ex 0⟩]).bind λH41=>(Hp.st H41 r35.2.length 0 (.int .i64 n38)).bind λH42=>(Hp.st H42 r35.2.length (0+1) (.sl s40)).bind λH43=>(Hp.ldI H43 .i64 H5.length 0).bind λn44=>(Hp.ldSl H43 H5.length (0+1)).bind λs45=>(fx n44 s45 H43).bind λr46=>((r46.1).asAgg 2).bind λl47=>(l47[0]?).bind λv48=>((v48).asI .i64).bind λn49=>(l47[1]?).bind λv50=>((v50).asSl).bind λs51=>(Hp.new r46.2 [.int .i64 0,.sl ⟨none,0,.ex 0⟩]).bind λH52=>(Hp.st H52 r46.2.length 0 (.int .i64 n49)).bind λH53=>(Hp.st H53 r46.2.length (0+1) (.sl s51)).bind λH54=>(Hp.ldI H54 .i64 r35.2.length 0).bind λn55=>(Hp.ldSl H54 r35.2.length (0+1)).bind λs56=>(Hp.ldI H54 .i64 r46.2.length 0).bind λn57=>(Hp.ldSl H54 r46.2.length (0+1)).bind λs58=>(jo n55 s56 n57 s58 H54).bind λr59=>((r59.1).asB).bind λb60=>(bif (!(b60==b32)) then (some ((.bool false),r59.2)) else ((Hp.ldI r59.2 .i64 r35.2.length 0).bind λn61=>(Hp.ldSl r59.2 r35.2.length (0+1)).bind λs62=>(Hp.ldI r59.2 .i64 H.length 0).bind λn63=>(Hp.ldSl r59.2 H.length (0+1)).bind λs64=>(fx n63 s64 r59.2).bind λr65=>((r65.1).asAgg 2).bind λl66=>(l66[0]?).bind λv67=>((v67).asI .i64).bind λn68=>(l66[1]?).bind λv69=>((v69).asSl).bind λs70=>(if aq r59.2 r65.2 then ((hQ n61 s62 n68 s70 r65.2).bind λr71=>((r71.1).asB).bind λb72=>(bif (!b72) then (some ((.bool false),r71.2)) else ((Hp.ldI r71.2 .i64 r46.2.length 0).bind λn73=>(Hp.ldSl r71.2 r46.2.length (0+1)).bind λs74=>(Hp.ldI r71.2 .i64 H5.length 0).bind λn75=>(Hp.ldSl r71.2 H5.length (0+1)).bind λs76=>(fx n75 s76 r71.2).bind λr77=>((r77.1).asAgg 2).bind λl78=>(l78[0]?).bind λv79=>((v79).asI .i64).bind λn80=>(l78[1]?).bind λv81=>((v81).asSl).bind λs82=>(if aq r71.2 r77.2 then ((hQ n73 s74 n80 s82 r77.2).bind λr83=>((r83.1).asB).bind λb84=>(bif (!b84) then (some ((.bool false),r83.2)) else (some ((.bool true),r83.2)))) else none)))) else none)))) else none)))))
def ch.tw:=ch.twX F (cj.tw F) (bQ.tw F) (ck.tw F) (cl.tw F) (cA.tw F)
def ch.pn:Nat->List Nat:=cG [(8,[3,4]),(14,[3]),(16,[3])]
def ch.tb:Nat->List (List Nat):=cG [(8,[[],[0],[],[0,1,2],[0,1,2,3],[0,1,2,3,4]]),(14,[[],[],[1],[0,1,2],[0,1,2,3]]),(16,[[],[],[1],[0,1,2],[0,1,2,3]])]
def ch.cs (F:Nat) (hP:Bu) (fx:Bi) (jn:Bj) (jo:Bj) (hQ:Bj):Cs:=[(32,mk1 hP),(34,mk3 fx),(41,mk8 jn),(42,mk8 jo),(37,mk8 hQ)]
theorem ch.eqX (hP:Bu) (fx:Bi) (jn:Bj) (jo:Bj) (hQ:Bj) (aa:Int) (ar:Sl) (ak:Int) (bS:Sl) (H:Hp):EX (a_ (ch.cs F hP fx jn jo hQ)) ch.pn lh0 F Try.f7 [(.agg [(.int .i64 aa),(.sl ar)]),(.agg [(.int .i64 ak),(.sl bS)])] H=ch.twX F hP fx jn jo hQ aa ar ak bS H:=by kernel_rfl
theorem ch.k:Ok Try.prog 7 (mk8 (ch.tw F)):=by
 intro args H v H' h
 unfold mk8 at h
 split at h
 ·exact okT (TB:=ch.tb) Try.func7 (bf (cj.k F) (bf (bQ.k F) (bf (ck.k F) (bf (cl.k F) (bf (cA.k F) bN))))) ac.no ((ch.eqX F (cj.tw F) (bQ.tw F) (ck.tw F) (cl.tw F) (cA.tw F) _ _ _ _ H).trans h) (by kernel_rfl)
 ·cases h
theorem ch.T {F:Nat} {aa:Int} {ar:Sl} {ak:Int} {bS:Sl} {H:Hp} {v:AV} {H':Hp} (h:ch.tw F aa ar ak bS H=some (v,H')):Go.AE.T Try.prog 7 [(.agg [(.int .i64 aa),(.sl ar)]),(.agg [(.int .i64 ak),(.sl bS)])] H v H':=ch.k F _ _ _ _ ((mk8_E (ch.tw F) aa ar ak bS H).trans h)
end
end Go.Proofs.Ytodfdhnlhiaohaa.AE
