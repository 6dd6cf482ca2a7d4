import Derived.Test.YteeahaikelpkpaaTab1
set_option linter.unusedVariables false
set_option linter.unusedSimpArgs false
namespace Go.Proofs.Yteeahaikelpkpaa.AE
open Go Go.AE Go.Proofs
set_option linter.unusedVariables false
set_option maxHeartbeats 4000000
set_option maxRecDepth 100000
noncomputable section
def cw.twX (F:Nat) (aa:Sl) (H:Hp):OA:=some ((.bool (decide ((aa.n:Int)>4096))),H)
def cw.tw (F:Nat) (aa:Sl) (H:Hp):OA:=cw.twX F aa H
def cw.mk (g:Sl->Hp->OA) (args:List AV) (H:Hp):OA:=match args with
 | [(.sl aa)]=>g aa H
 | _=>none
theorem cw.eqX (F:Nat) (aa:Sl) (H:Hp):EX (aR []) aG lh0 F Try.f13 [(.sl aa)] H=cw.twX F aa H:=by kernel_rfl
theorem cw.k (F:Nat):Ok Try.prog 13 (cw.mk (cw.tw F)):=by
 intro args H v H' h
 unfold cw.mk at h
 split at h
 ·exact okT (TB:=aG) Try.func13 bk af.no ((cw.eqX F _ H).trans h) (by kernel_rfl)
 ·cases h
def aP.l29 (F:Nat) :Nat->Sl->Nat->Nat->Int->Hp->OA
 | 0,_,_,_,_,_=>none
 | fW+1,bL,bF,cG,bh,H7=>(bif (decide (bh<(bL.n:Int))) then ((bif (decide (bh<64)) then ((Hp.ldI H7 .i64 bF (cG+2)).bind λn12=>(Sl.idx bL bh 1).bind λp13=>(Hp.ldI H7 .u8 p13.1 p13.2).bind λn14=>(Hp.st H7 bF (cG+2) (.int .i64 (Int.tmod (IntKind.i64.wrap ((IntKind.i64.wrap (n12 * 37))+(IntKind.i64.wrap n14))) 2147483647))).bind λH15=>aP.l29 F fW bL bF cG (IntKind.i64.wrap (bh+1)) H15) else (some ((.ptr bF cG),H7)))) else (some ((.ptr bF cG),H7)))
termination_by structural n=>n
def aP.twX (F:Nat) (aa:Sl) (H:Hp):OA:=(Hp.new H [(.sl aa),(.int .i64 0),(.int .i64 97531)]).bind λH2=>aP.l29 F F aa H.length 0 0 H2
def aP.tw (F:Nat) (aa:Sl) (H:Hp):OA:=aP.twX F aa H
def aP.lh29 (F:Nat) (ks:List Nat) (n:Nat) (tm:Tm) (H:Hp):OA:=match ks,tm 0,tm 2,tm 3,tm 4 with
 | [],(.sl bL),.nilp,(.ptr bF cG),(.int .i64 bh)=>aP.l29 F n bL bF cG bh H
 | _,_,_,_,_=>none
theorem aP.lh29_inv {F:Nat} {ks:List Nat} {n:Nat} {tm:Tm} {H:Hp} {r:AV×Hp} (h:aP.lh29 F ks n tm H=some r):∃ bL bF cG bh,ks=[]/\dh tm [(0,(.sl bL)),(2,.nilp),(3,(.ptr bF cG)),(4,(.int .i64 bh))]/\aP.l29 F n bL bF cG bh H=some r:=by
 unfold aP.lh29 at h
 split at h
 ·exact ⟨_,_,_,_,rfl,⟨‹_›,‹_›,‹_›,‹_›,trivial⟩,h⟩
 ·cases h
def aP.lh (F:Nat) (p:Nat) (ks:List Nat) (n:Nat) (tm:Tm) (H:Hp):OA:=bif p.beq 29 then aP.lh29 F ks n tm H else (none)
def aP.pn:Nat->List Nat:=eC [(5,[15])]
def aP.tb:Nat->List (List Nat):=eC [(5,[[],[],[1],[1,2],[1,2,3],[1,2,3,4],[],[],[6,7],[6,7,8],[6,7,8,9],[1,2,3,4,5,6,7,8,9,10],[1,2,3,4,5,6,7,8,9,10,11],[0,1,2,3,4,5,6,7,8,9,10,11,12],[0,1,2,3,4,5,6,7,8,9,10,11,12,13],[0,1,2,3,4,5,6,7,8,9,10,11,12,13,14]])]
def aP.mk (g:Sl->Hp->OA) (args:List AV) (H:Hp):OA:=match args with
 | [(.sl aa)]=>g aa H
 | _=>none
theorem aP.loops (F:Nat):LO (aR []) aP.pn (aP.lh F) F Try.f70:=
 (af.rt (af.rt (af.lt (af.rt (af.block (af.loop (λtm H=>dA λr h=>by obtain ⟨bL,bF,cG,bh,hks,e,h⟩:=aP.lh29_inv (show aP.lh29 F [] 0 tm H=some r from h);cases h) (λk29 tm H r h=>by obtain ⟨bL,bF,cG,bh,hks,e,h⟩:=aP.lh29_inv (show aP.lh29 F [] (k29+1) tm H=some r from h);rw [<- dx e];exact Eq.trans (by kernel_rfl) h) λk29=>af.no))))))
theorem aP.eqX (F:Nat) (aa:Sl) (H:Hp):EX (aR []) aP.pn (aP.lh F) F Try.f70 [(.sl aa)] H=aP.twX F aa H:=by kernel_rfl
theorem aP.k (F:Nat):Ok Try.prog 70 (aP.mk (aP.tw F)):=by
 intro args H v H' h
 unfold aP.mk at h
 split at h
 ·exact okT (TB:=aP.tb) Try.func70 bk (aP.loops F) ((aP.eqX F _ H).trans h) (by kernel_rfl)
 ·cases h
def aB.j1 (F:Nat) (hJ:Int) (iY:Int) (H37:Hp):OA:=(if hJ=0 then none else (some ((.int .i64 (Int.tmod iY hJ)),H37)))
def aB.j2 (F:Nat) (iZ:Int) (i_:Int) (H28:Hp):OA:=aB.j1 F iZ i_ H28
def aB.j3 (F:Nat) (ev:Int) (ja:Int) (H45:Hp):OA:=(if ev=0 then none else (some ((.int .i64 (Int.tmod ja ev)),H45)))
def aB.twX (F:Nat) (aa:Nat) (ak:Nat) (ai:Int) (H:Hp):OA:=(bif (decide (ai<=1)) then (some ((.int .i64 0),H)) else ((Hp.ldI H .i64 aa (ak+2)).bind λn4=>(Hp.st H aa (ak+2) (.int .i64 (Int.tmod (IntKind.i64.wrap ((IntKind.i64.wrap (n4 * 48271))+11)) 2147483647))).bind λH5=>(Hp.ldI H5 .i64 aa (ak+2)).bind λn6=>(Hp.ldI H5 .i64 aa (ak+1)).bind λn7=>(Hp.ldSl H5 aa ak).bind λs8=>(bif (decide (n7<(s8.n:Int))) then ((Hp.ldSl H5 aa ak).bind λs9=>(Hp.ldI H5 .i64 aa (ak+1)).bind λn10=>(Sl.idx s9 n10 1).bind λp11=>(Hp.ldI H5 .u8 p11.1 p11.2).bind λn12=>(Hp.ldI H5 .i64 aa (ak+1)).bind λn13=>(Hp.st H5 aa (ak+1) (.int .i64 (IntKind.i64.wrap (n13+1)))).bind λH14=>(bif (decide (ai<=256)) then ((Hp.ldI H14 .i64 aa (ak+1)).bind λn15=>(bif ((Int.tmod n15 2) == 0) then ((Hp.ldSl H14 aa ak).bind λs16=>(Hp.ldI H14 .i64 aa (ak+1)).bind λn17=>(Sl.idx s16 (IntKind.i64.wrap (n17 - 1)) 1).bind λp18=>(Hp.ldI H14 .u8 p18.1 p18.2).bind λn19=>aB.j2 F ai (IntKind.i64.wrap n19) H14) else (aB.j2 F ai (IntKind.i64.wrap ((IntKind.i64.wrap (Int.tdiv n6 11))+(IntKind.i64.wrap n12))) H14))) else (aB.j1 F ai (IntKind.i64.wrap ((IntKind.i64.wrap (Int.tdiv n6 11))+(IntKind.i64.wrap n12))) H14))) else (aB.j3 F ai (IntKind.i64.wrap (Int.tdiv n6 11)) H5))))
def aB.tw (F:Nat) (aa:Nat) (ak:Nat) (ai:Int) (H:Hp):OA:=aB.twX F aa ak ai H
def aB.tb:Nat->List (List Nat):=eC [(5,[[],[0],[0,1],[0,1,2],[],[4],[4,5],[4,5,6],[4,5,6,7],[0,1,2,3,4,5,6,7,8]]),(6,[[],[],[1],[1,2],[1,2,3],[],[5],[5,6],[5,6,7],[1,2,3,4,5,6,7,8],[1,2,3,4,5,6,7,8,9],[1,2,3,4,5,6,7,8,9,10],[0,1,2,3,4,5,6,7,8,9,10,11],[0,1,2,3,4,5,6,7,8,9,10,11,12]]),(9,[[],[0],[0,1],[0,1,2],[],[4],[4,5],[4,5,6],[4,5,6,7],[0,1,2,3,4,5,6,7,8],[0,1,2,3,4,5,6,7,8,9],[0,1,2,3,4,5,6,7,8,9,10],[0,1,2,3,4,5,6,7,8,9,10,11]])]
def aB.mk (g:Nat->Nat->Int->Hp->OA) (args:List AV) (H:Hp):OA:=match args with
 | [(.ptr aa ak),(.int .i64 ai)]=>g aa ak ai H
 | _=>none
theorem aB.eqX (F:Nat) (aa:Nat) (ak:Nat) (ai:Int) (H:Hp):EX (aR []) aG lh0 F Try.f72 [(.ptr aa ak),(.int .i64 ai)] H=aB.twX F aa ak ai H:=by kernel_rfl
theorem aB.k (F:Nat):Ok Try.prog 72 (aB.mk (aB.tw F)):=by
 intro args H v H' h
 unfold aB.mk at h
 split at h
 ·exact okT (TB:=aB.tb) Try.func72 bk af.no ((aB.eqX F _ _ _ H).trans h) (by kernel_rfl)
 ·cases h
def aK.j2 (F:Nat) (aX:Nat->Nat->Int->Hp->OA) (C29_:Nat->Nat->Int->Sl->Int->Hp->OA) (wU:Nat) (wV:Nat) (ev:Int) (wW:Sl) (jb:Int) (hK:Int) (H48:Hp):OA:=(Hp.new H48 [(.int .i64 hK)]).bind λH49=>(Sl.row H49 (⟨some (H48.length,0),1,.ex 1⟩:Sl) 1).bind λxs51=>(Hp.app H49 1 8 wW (⟨some (H48.length,0),1,.ex 1⟩:Sl).n xs51).bind λa50=>C29_ wU wV ev a50.1 (IntKind.i64.wrap (jb - 1)) a50.2
def aK.l29 (F:Nat) (aX:Nat->Nat->Int->Hp->OA) :Nat->Nat->Nat->Int->Sl->Int->Hp->OA
 | 0,_,_,_,_,_,_=>none
 | fW+1,fz,fA,dB,fB,dT,H15=>(bif (decide (dT>0)) then ((bif (decide (dB>0)) then ((aX fz fA dB H15).bind λr34=>((r34.1).asI .i64).bind λn35=>(aX fz fA 2 r34.2).bind λr36=>((r36.1).asI .i64).bind λn37=>(bif (n37 == 0) then (aK.j2 F aX (aK.l29 F aX fW) fz fA dB fB dT (IntKind.i64.wrap (0 - (IntKind.i64.wrap (1+n35)))) r36.2) else (aK.j2 F aX (aK.l29 F aX fW) fz fA dB fB dT (IntKind.i64.wrap (1+n35)) r36.2))) else (some ((.sl fB),H15)))) else (some ((.sl fB),H15)))
termination_by structural n=>n
def aK.twX (F:Nat) (aX:Nat->Nat->Int->Hp->OA) (aa:Nat) (ak:Nat) (ai:Int) (eX:Int) (H:Hp):OA:=(Hp.new H []).bind λH5=>(aX aa ak (IntKind.i64.wrap (eX+1)) H5).bind λr6=>((r6.1).asI .i64).bind λn7=>aK.l29 F aX F aa ak ai (⟨some (H.length,0),0,.ex 0⟩:Sl) n7 r6.2
def aK.tw (F:Nat) (aa:Nat) (ak:Nat) (ai:Int) (eX:Int) (H:Hp):OA:=aK.twX F (aB.tw F) aa ak ai eX H
def aK.lh29 (F:Nat) (aX:Nat->Nat->Int->Hp->OA) (ks:List Nat) (n:Nat) (tm:Tm) (H:Hp):OA:=match ks,tm 0,tm 1,tm 7,tm 8 with
 | [],(.ptr fz fA),(.int .i64 dB),(.sl fB),(.int .i64 dT)=>aK.l29 F aX n fz fA dB fB dT H
 | _,_,_,_,_=>none
theorem aK.lh29_inv {F:Nat} {aX:Nat->Nat->Int->Hp->OA} {ks:List Nat} {n:Nat} {tm:Tm} {H:Hp} {r:AV×Hp} (h:aK.lh29 F aX ks n tm H=some r):∃ fz fA dB fB dT,ks=[]/\dh tm [(0,(.ptr fz fA)),(1,(.int .i64 dB)),(7,(.sl fB)),(8,(.int .i64 dT))]/\aK.l29 F aX n fz fA dB fB dT H=some r:=by
 unfold aK.lh29 at h
 split at h
 ·exact ⟨_,_,_,_,_,rfl,⟨‹_›,‹_›,‹_›,‹_›,trivial⟩,h⟩
 ·cases h
def aK.lh (F:Nat) (aX:Nat->Nat->Int->Hp->OA) (p:Nat) (ks:List Nat) (n:Nat) (tm:Tm) (H:Hp):OA:=bif p.beq 29 then aK.lh29 F aX ks n tm H else (none)
def aK.mk (g:Nat->Nat->Int->Int->Hp->OA) (args:List AV) (H:Hp):OA:=match args with
 | [(.ptr aa ak),(.int .i64 ai),(.int .i64 eX)]=>g aa ak ai eX H
 | _=>none
def aK.cs (F:Nat) (aX:Nat->Nat->Int->Hp->OA):Cs:=[(72,aB.mk aX)]
theorem aK.loops (F:Nat) (aX:Nat->Nat->Int->Hp->OA):LO (aR (aK.cs F aX)) aG (aK.lh F aX) F Try.f150:=
 (af.rt (af.rt (af.lt (af.rt (af.block (af.loop (λtm H=>dA λr h=>by obtain ⟨fz,fA,dB,fB,dT,hks,e,h⟩:=aK.lh29_inv (show aK.lh29 F aX [] 0 tm H=some r from h);cases h) (λk29 tm H r h=>by obtain ⟨fz,fA,dB,fB,dT,hks,e,h⟩:=aK.lh29_inv (show aK.lh29 F aX [] (k29+1) tm H=some r from h);rw [<- dx e];exact Eq.trans (by kernel_rfl) h) λk29=>af.no))))))
theorem aK.eqX (F:Nat) (aX:Nat->Nat->Int->Hp->OA) (aa:Nat) (ak:Nat) (ai:Int) (eX:Int) (H:Hp):EX (aR (aK.cs F aX)) aG (aK.lh F aX) F Try.f150 [(.ptr aa ak),(.int .i64 ai),(.int .i64 eX)] H=aK.twX F aX aa ak ai eX H:=by kernel_rfl
theorem aK.k (F:Nat):Ok Try.prog 150 (aK.mk (aK.tw F)):=by
 intro args H v H' h
 unfold aK.mk at h
 split at h
 ·exact okT (TB:=aG) Try.func150 (aS (aB.k F) bk) (aK.loops F (aB.tw F)) ((aK.eqX F (aB.tw F) _ _ _ _ H).trans h) (by kernel_rfl)
 ·cases h
def aQ.l1915 (F:Nat) (di:Nat->Nat->Int->Int->Hp->OA) (aX:Nat->Nat->Int->Hp->OA) :Nat->Sl->Int->Hp->OA
 | 0,_,_,_=>none
 | wX+1,fC,dU,H26=>(bif (decide (dU<(fC.n:Int))) then ((Sl.idx fC dU 1).bind λp29=>(Hp.st H26 p29.1 p29.2 (.int .i64 1)).bind λH30=>aQ.l1915 F di aX wX fC (IntKind.i64.wrap (dU+1)) H30) else (some ((.sl fC),H26)))
termination_by structural n=>n
def aQ.twX (F:Nat) (di:Nat->Nat->Int->Int->Hp->OA) (aX:Nat->Nat->Int->Hp->OA) (aa:Nat) (ak:Nat) (H:Hp):OA:=(di aa ak 3 8 H).bind λr3=>((r3.1).asSl).bind λs4=>(aX aa ak 20 r3.2).bind λr5=>((r5.1).asI .i64).bind λn6=>(bif (n6 == 0) then ((Hp.new r5.2 [(.int .i64 0),(.int .i64 24),(.int .i64 25),(.int .i64 (-24)),(.int .i64 (-25))]).bind λH7=>(aX aa ak 5 H7).bind λr8=>((r8.1).asI .i64).bind λn9=>(Sl.idx (⟨some (r5.2.length,0),5,.ex 5⟩:Sl) n9 1).bind λp10=>(Hp.ldI r8.2 .i64 p10.1 p10.2).bind λn11=>(Hp.new r8.2 [(.int .i64 n11)]).bind λH12=>(Sl.row H12 (⟨some (r8.2.length,0),1,.ex 1⟩:Sl) 1).bind λxs14=>(Hp.app H12 1 8 s4 (⟨some (r8.2.length,0),1,.ex 1⟩:Sl).n xs14).bind λa13=>some ((.sl a13.1),a13.2)) else ((bif (n6 == 1) then ((aX aa ak 3 r5.2).bind λr15=>((r15.1).asI .i64).bind λn16=>(Hp.mk r15.2 [.int .i64 0] 8 (IntKind.i64.wrap (119+n16)) (IntKind.i64.wrap (119+n16))).bind λm17=>aQ.l1915 F di aX F m17.1 0 m17.2) else (some ((.sl s4),r5.2)))))
def aQ.tw (F:Nat) (aa:Nat) (ak:Nat) (H:Hp):OA:=aQ.twX F (aK.tw F) (aB.tw F) aa ak H
def aQ.lh1915 (F:Nat) (di:Nat->Nat->Int->Int->Hp->OA) (aX:Nat->Nat->Int->Hp->OA) (ks:List Nat) (n:Nat) (tm:Tm) (H:Hp):OA:=match ks,tm 3,tm 4 with
 | [],(.sl fC),(.int .i64 dU)=>aQ.l1915 F di aX n fC dU H
 | _,_,_=>none
theorem aQ.lh1915_inv {F:Nat} {di:Nat->Nat->Int->Int->Hp->OA} {aX:Nat->Nat->Int->Hp->OA} {ks:List Nat} {n:Nat} {tm:Tm} {H:Hp} {r:AV×Hp} (h:aQ.lh1915 F di aX ks n tm H=some r):∃ fC dU,ks=[]/\dh tm [(3,(.sl fC)),(4,(.int .i64 dU))]/\aQ.l1915 F di aX n fC dU H=some r:=by
 unfold aQ.lh1915 at h
 split at h
 ·exact ⟨_,_,rfl,⟨‹_›,‹_›,trivial⟩,h⟩
 ·cases h
def aQ.lh (F:Nat) (di:Nat->Nat->Int->Int->Hp->OA) (aX:Nat->Nat->Int->Hp->OA) (p:Nat) (ks:List Nat) (n:Nat) (tm:Tm) (H:Hp):OA:=bif p.beq 1915 then aQ.lh1915 F di aX ks n tm H else (none)
def aQ.mk (g:Nat->Nat->Hp->OA) (args:List AV) (H:Hp):OA:=match args with
 | [(.ptr aa ak)]=>g aa ak H
 | _=>none
def aQ.cs (F:Nat) (di:Nat->Nat->Int->Int->Hp->OA) (aX:Nat->Nat->Int->Hp->OA):Cs:=[(150,aK.mk di),(72,aB.mk aX)]
theorem aQ.loops (F:Nat) (di:Nat->Nat->Int->Int->Hp->OA) (aX:Nat->Nat->Int->Hp->OA):LO (aR (aQ.cs F di aX)) aG (aQ.lh F di aX) F Try.f97:=
 (af.rt (af.rt (af.lt (af.rt (af.block (af.rt (af.cond af.no (af.rt (af.cond (af.rt (af.rt (af.block (af.loop (λtm H=>dA λr h=>by obtain ⟨fC,dU,hks,e,h⟩:=aQ.lh1915_inv (show aQ.lh1915 F di aX [] 0 tm H=some r from h);cases h) (λk1915 tm H r h=>by obtain ⟨fC,dU,hks,e,h⟩:=aQ.lh1915_inv (show aQ.lh1915 F di aX [] (k1915+1) tm H=some r from h);rw [<- dx e];exact Eq.trans (by kernel_rfl) h) λk1915=>af.no)))) af.no)))))))))
theorem aQ.eqX (F:Nat) (di:Nat->Nat->Int->Int->Hp->OA) (aX:Nat->Nat->Int->Hp->OA) (aa:Nat) (ak:Nat) (H:Hp):EX (aR (aQ.cs F di aX)) aG (aQ.lh F di aX) F Try.f97 [(.ptr aa ak)] H=aQ.twX F di aX aa ak H:=by kernel_rfl
theorem aQ.k (F:Nat):Ok Try.prog 97 (aQ.mk (aQ.tw F)):=by
 intro args H v H' h
 unfold aQ.mk at h
 split at h
 ·exact okT (TB:=aG) Try.func97 (aS (aK.k F) (aS (aB.k F) bk)) (aQ.loops F (aK.tw F) (aB.tw F)) ((aQ.eqX F (aK.tw F) (aB.tw F) _ _ H).trans h) (by kernel_rfl)
 ·cases h
def bV.twX (F:Nat) (eY:Sl->Hp->OA) (aX:Nat->Nat->Int->Hp->OA) (eG:Nat->Nat->Hp->OA) (aa:Sl) (H:Hp):OA:=(eY aa H).bind λr2=>((r2.1).asP).bind λp3=>(aX p3.1 p3.2 10 r2.2).bind λr4=>((r4.1).asI .i64).bind λn5=>(bif (n5 == 0) then ((eG p3.1 p3.2 r4.2).bind λr6=>((r6.1).asSl).bind λs7=>(aX p3.1 p3.2 2 r6.2).bind λr8=>((r8.1).asI .i64).bind λn9=>some ((.tup [(.sl s7),(.int .i64 (IntKind.i64.wrap (25 * n9)))]),r8.2)) else ((eG p3.1 p3.2 r4.2).bind λr10=>((r10.1).asSl).bind λs11=>(aX p3.1 p3.2 3 r10.2).bind λr12=>((r12.1).asI .i64).bind λn13=>some ((.tup [(.sl s11),(.int .i64 (IntKind.i64.wrap (1+n13)))]),r12.2)))
def bV.tw (F:Nat) (aa:Sl) (H:Hp):OA:=bV.twX F (aP.tw F) (aB.tw F) (aQ.tw F) aa H
def bV.mk (g:Sl->Hp->OA) (args:List AV) (H:Hp):OA:=match args with
 | [(.sl aa)]=>g aa H
 | _=>none
def bV.cs (F:Nat) (eY:Sl->Hp->OA) (aX:Nat->Nat->Int->Hp->OA) (eG:Nat->Nat->Hp->OA):Cs:=[(70,aP.mk eY),(72,aB.mk aX),(97,aQ.mk eG)]
theorem bV.eqX (F:Nat) (eY:Sl->Hp->OA) (aX:Nat->Nat->Int->Hp->OA) (eG:Nat->Nat->Hp->OA) (aa:Sl) (H:Hp):EX (aR (bV.cs F eY aX eG)) aG lh0 F Try.f33 [(.sl aa)] H=bV.twX F eY aX eG aa H:=by kernel_rfl
theorem bV.k (F:Nat):Ok Try.prog 33 (bV.mk (bV.tw F)):=by
 intro args H v H' h
 unfold bV.mk at h
 split at h
 ·exact okT (TB:=aG) Try.func33 (aS (aP.k F) (aS (aB.k F) (aS (aQ.k F) bk))) af.no ((bV.eqX F (aP.tw F) (aB.tw F) (aQ.tw F) _ H).trans h) (by kernel_rfl)
 ·cases h
def cz.twX (F:Nat) (aa:Sl) (ah:Int) (H:Hp):OA:=(Hp.new H [(.int .u8 ah),(.int .u8 (IntKind.u8.wrap (ah+7))),(.int .u8 (IntKind.u8.wrap (3 * ah)))]).bind λH3=>(Sl.row H3 aa 1).bind λxs5=>(Hp.app H3 1 1 (⟨some (H.length,0),3,.ex 3⟩:Sl) aa.n xs5).bind λa4=>some ((.sl a4.1),a4.2)
def cz.tw (F:Nat) (aa:Sl) (ah:Int) (H:Hp):OA:=cz.twX F aa ah H
def cz.mk (g:Sl->Int->Hp->OA) (args:List AV) (H:Hp):OA:=match args with
 | [(.sl aa),(.int .u8 ah)]=>g aa ah H
 | _=>none
theorem cz.eqX (F:Nat) (aa:Sl) (ah:Int) (H:Hp):EX (aR []) aG lh0 F Try.f35 [(.sl aa),(.int .u8 ah)] H=cz.twX F aa ah H:=by kernel_rfl
theorem cz.k (F:Nat):Ok Try.prog 35 (cz.mk (cz.tw F)):=by
 intro args H v H' h
 unfold cz.mk at h
 split at h
 ·exact okT (TB:=aG) Try.func35 bk af.no ((cz.eqX F _ _ H).trans h) (by kernel_rfl)
 ·cases h
def bW.twX (F:Nat) (eY:Sl->Hp->OA) (eG:Nat->Nat->Hp->OA) (aa:Sl) (H:Hp):OA:=(eY aa H).bind λr2=>((r2.1).asP).bind λp3=>(eG p3.1 p3.2 r2.2).bind λr4=>((r4.1).asSl).bind λs5=>some ((.sl s5),r4.2)
def bW.tw (F:Nat) (aa:Sl) (H:Hp):OA:=bW.twX F (aP.tw F) (aQ.tw F) aa H
def bW.mk (g:Sl->Hp->OA) (args:List AV) (H:Hp):OA:=match args with
 | [(.sl aa)]=>g aa H
 | _=>none
def bW.cs (F:Nat) (eY:Sl->Hp->OA) (eG:Nat->Nat->Hp->OA):Cs:=[(70,aP.mk eY),(97,aQ.mk eG)]
theorem bW.eqX (F:Nat) (eY:Sl->Hp->OA) (eG:Nat->Nat->Hp->OA) (aa:Sl) (H:Hp):EX (aR (bW.cs F eY eG)) aG lh0 F Try.f34 [(.sl aa)] H=bW.twX F eY eG aa H:=by kernel_rfl
theorem bW.k (F:Nat):Ok Try.prog 34 (bW.mk (bW.tw F)):=by
 intro args H v H' h
 unfold bW.mk at h
 split at h
 ·exact okT (TB:=aG) Try.func34 (aS (aP.k F) (aS (aQ.k F) bk)) af.no ((bW.eqX F (aP.tw F) (aQ.tw F) _ H).trans h) (by kernel_rfl)
 ·cases h
def bf.twX (F:Nat) (aa:Int) (ah:Int) (cW:Int) (H:Hp):OA:=(bif (decide (aa>=ah)) then (some ((.bool (decide (aa<=cW))),H)) else (some ((.bool false),H)))
def bf.tw (F:Nat) (aa:Int) (ah:Int) (cW:Int) (H:Hp):OA:=bf.twX F aa ah cW H
def bf.mk (g:Int->Int->Int->Hp->OA) (args:List AV) (H:Hp):OA:=match args with
 | [(.int .i64 aa),(.int .i64 ah),(.int .i64 cW)]=>g aa ah cW H
 | _=>none
theorem bf.eqX (F:Nat) (aa:Int) (ah:Int) (cW:Int) (H:Hp):EX (aR []) aG lh0 F Try.f79 [(.int .i64 aa),(.int .i64 ah),(.int .i64 cW)] H=bf.twX F aa ah cW H:=by kernel_rfl
theorem bf.k (F:Nat):Ok Try.prog 79 (bf.mk (bf.tw F)):=by
 intro args H v H' h
 unfold bf.mk at h
 split at h
 ·exact okT (TB:=aG) Try.func79 bk af.no ((bf.eqX F _ _ _ H).trans h) (by kernel_rfl)
 ·cases h
def aD.j1 (F:Nat) (aY:Int->Int->Int->Hp->OA) (wY:Sl) (H16:Hp):OA:=some ((.bool (decide ((wY.n:Int)<=120))),H16)
def aD.l13 (F:Nat) (aY:Int->Int->Int->Hp->OA) :Nat->Sl->Int->Hp->OA
 | 0,_,_,_=>none
 | iy+1,cg,bF,H5=>(bif (decide (bF<(cg.n:Int))) then ((Sl.idx cg bF 1).bind λp17=>(Hp.ldI H5 .i64 p17.1 p17.2).bind λn18=>(bif (n18 == 0) then (some ((.bool false),H5)) else ((Sl.idx cg bF 1).bind λp19=>(Hp.ldI H5 .i64 p19.1 p19.2).bind λn20=>(aY n20 (-24) 24 H5).bind λr21=>((r21.1).asB).bind λb22=>(bif (!b22) then (some ((.bool false),r21.2)) else (aD.l13 F aY iy cg (IntKind.i64.wrap (bF+1)) r21.2))))) else (aD.j1 F aY cg H5))
termination_by structural n=>n
def aD.twX (F:Nat) (aY:Int->Int->Int->Hp->OA) (aa:Sl) (H:Hp):OA:=aD.l13 F aY F aa 0 H
def aD.tw (F:Nat) (aa:Sl) (H:Hp):OA:=aD.twX F (bf.tw F) aa H
def aD.lh13 (F:Nat) (aY:Int->Int->Int->Hp->OA) (ks:List Nat) (n:Nat) (tm:Tm) (H:Hp):OA:=match ks,tm 0,tm 3 with
 | [],(.sl cg),(.int .i64 bF)=>aD.l13 F aY n cg bF H
 | _,_,_=>none
theorem aD.lh13_inv {F:Nat} {aY:Int->Int->Int->Hp->OA} {ks:List Nat} {n:Nat} {tm:Tm} {H:Hp} {r:AV×Hp} (h:aD.lh13 F aY ks n tm H=some r):∃ cg bF,ks=[]/\dh tm [(0,(.sl cg)),(3,(.int .i64 bF))]/\aD.l13 F aY n cg bF H=some r:=by
 unfold aD.lh13 at h
 split at h
 ·exact ⟨_,_,rfl,⟨‹_›,‹_›,trivial⟩,h⟩
 ·cases h
def aD.lh (F:Nat) (aY:Int->Int->Int->Hp->OA) (p:Nat) (ks:List Nat) (n:Nat) (tm:Tm) (H:Hp):OA:=bif p.beq 13 then aD.lh13 F aY ks n tm H else (none)
def aD.mk (g:Sl->Hp->OA) (args:List AV) (H:Hp):OA:=match args with
 | [(.sl aa)]=>g aa H
 | _=>none
def aD.cs (F:Nat) (aY:Int->Int->Int->Hp->OA):Cs:=[(79,bf.mk aY)]
theorem aD.loops (F:Nat) (aY:Int->Int->Int->Hp->OA):LO (aR (aD.cs F aY)) aG (aD.lh F aY) F Try.f36:=
 (af.rt (af.lt (af.rt (af.block (af.loop (λtm H=>dA λr h=>by obtain ⟨cg,bF,hks,e,h⟩:=aD.lh13_inv (show aD.lh13 F aY [] 0 tm H=some r from h);cases h) (λk13 tm H r h=>by obtain ⟨cg,bF,hks,e,h⟩:=aD.lh13_inv (show aD.lh13 F aY [] (k13+1) tm H=some r from h);rw [<- dx e];exact Eq.trans (by kernel_rfl) h) λk13=>af.no)))))
theorem aD.eqX (F:Nat) (aY:Int->Int->Int->Hp->OA) (aa:Sl) (H:Hp):EX (aR (aD.cs F aY)) aG (aD.lh F aY) F Try.f36 [(.sl aa)] H=aD.twX F aY aa H:=by kernel_rfl
theorem aD.k (F:Nat):Ok Try.prog 36 (aD.mk (aD.tw F)):=by
 intro args H v H' h
 unfold aD.mk at h
 split at h
 ·exact okT (TB:=aG) Try.func36 (aS (bf.k F) bk) (aD.loops F (bf.tw F)) ((aD.eqX F (bf.tw F) _ H).trans h) (by kernel_rfl)
 ·cases h
def cZ.twX (F:Nat) (aa:Int) (H:Hp):OA:=(bif (decide (aa<0)) then (some ((.int .i64 (IntKind.i64.wrap (0 - aa))),H)) else (some ((.int .i64 aa),H)))
def cZ.tw (F:Nat) (aa:Int) (H:Hp):OA:=cZ.twX F aa H
def cZ.mk (g:Int->Hp->OA) (args:List AV) (H:Hp):OA:=match args with
 | [(.int .i64 aa)]=>g aa H
 | _=>none
theorem cZ.eqX (F:Nat) (aa:Int) (H:Hp):EX (aR []) aG lh0 F Try.f84 [(.int .i64 aa)] H=cZ.twX F aa H:=by kernel_rfl
theorem cZ.k (F:Nat):Ok Try.prog 84 (cZ.mk (cZ.tw F)):=by
 intro args H v H' h
 unfold cZ.mk at h
 split at h
 ·exact okT (TB:=aG) Try.func84 bk af.no ((cZ.eqX F _ H).trans h) (by kernel_rfl)
 ·cases h
def bX.twX (F:Nat) (jc:Int->Hp->OA) (aa:Int) (ah:Nat) (ai:Nat) (H:Hp):OA:=(bif (aa == 0) then (some ((.bool true),H)) else ((jc aa H).bind λr4=>((r4.1).asI .i64).bind λn5=>(if aI H r4.2 then ((Hp.ldI r4.2 .i64 ah ai).bind λn6=>(bif (decide (n5>n6)) then (some ((.bool true),r4.2)) else ((Hp.ldI r4.2 .i64 ah ai).bind λn7=>some ((.bool (decide (aa<(IntKind.i64.wrap (0 - n7))))),r4.2)))) else none)))
def bX.tw (F:Nat) (aa:Int) (ah:Nat) (ai:Nat) (H:Hp):OA:=bX.twX F (cZ.tw F) aa ah ai H
def bX.tb:Nat->List (List Nat):=eC [(1,[[],[0],[0,1],[0,1,2],[0,1,2,3],[0,1,2],[0,1,2,3,4,5],[0,1,2,3,4,5,6],[0,1,2,3,4,5,6,7],[0,1,2,3,4,5,6,7,8],[0,1,2,3,4,5,6,7,8],[0,1,2,3,4,5,6,7,8,10],[0,1,2,3,4,5,6,7,8,9,10,11],[0,1,2,3,4,5,6,7,8,9,10,11,12],[0,1,2,3,4,5,6,7,8,9,10,11,12,13]])]
def bX.mk (g:Int->Nat->Nat->Hp->OA) (args:List AV) (H:Hp):OA:=match args with
 | [(.int .i64 aa),(.ptr ah ai)]=>g aa ah ai H
 | _=>none
def bX.cs (F:Nat) (jc:Int->Hp->OA):Cs:=[(84,cZ.mk jc)]
theorem bX.eqX (F:Nat) (jc:Int->Hp->OA) (aa:Int) (ah:Nat) (ai:Nat) (H:Hp):EX (aR (bX.cs F jc)) aG lh0 F Try.f181 [(.int .i64 aa),(.ptr ah ai)] H=bX.twX F jc aa ah ai H:=by kernel_rfl
theorem bX.k (F:Nat):Ok Try.prog 181 (bX.mk (bX.tw F)):=by
 intro args H v H' h
 unfold bX.mk at h
 split at h
 ·exact okT (TB:=bX.tb) Try.func181 (aS (cZ.k F) bk) af.no ((bX.eqX F (cZ.tw F) _ _ _ H).trans h) (by kernel_rfl)
 ·cases h
def aU.l13 (F:Nat) (dj:Int->Nat->Nat->Hp->OA) :Nat->Sl->Nat->Nat->Int->Int->Hp->OA
 | 0,_,_,_,_,_,_=>none
 | iy+1,cH,ah,ai,el,dC,H8=>(bif (decide (dC<el)) then ((Sl.idx cH dC 1).bind λp13=>(Hp.ldI H8 .i64 p13.1 p13.2).bind λn14=>(dj n14 ah ai H8).bind λr15=>((r15.1).asB).bind λb16=>(bif b16 then (some ((.int .i64 dC),r15.2)) else (aU.l13 F dj iy cH ah ai el (IntKind.i64.wrap (dC+1)) r15.2))) else (some ((.int .i64 (-1)),H8)))
termination_by structural n=>n
def aU.twX (F:Nat) (dj:Int->Nat->Nat->Hp->OA) (aa:Sl) (ah:Nat) (ai:Nat) (H:Hp):OA:=aU.l13 F dj F aa ah ai (aa.n:Int) 0 H
def aU.tw (F:Nat) (aa:Sl) (ah:Nat) (ai:Nat) (H:Hp):OA:=aU.twX F (bX.tw F) aa ah ai H
def aU.lh13 (F:Nat) (dj:Int->Nat->Nat->Hp->OA) (ks:List Nat) (n:Nat) (tm:Tm) (H:Hp):OA:=match ks,tm 0,tm 1,tm 7,tm 8 with
 | [],(.sl cH),(.fn 181 [(.ptr ah ai)]),(.int .i64 el),(.int .i64 dC)=>aU.l13 F dj n cH ah ai el dC H
 | _,_,_,_,_=>none
theorem aU.lh13_inv {F:Nat} {dj:Int->Nat->Nat->Hp->OA} {ks:List Nat} {n:Nat} {tm:Tm} {H:Hp} {r:AV×Hp} (h:aU.lh13 F dj ks n tm H=some r):∃ cH ah ai el dC,ks=[]/\dh tm [(0,(.sl cH)),(1,(.fn 181 [(.ptr ah ai)])),(7,(.int .i64 el)),(8,(.int .i64 dC))]/\aU.l13 F dj n cH ah ai el dC H=some r:=by
 unfold aU.lh13 at h
 split at h
 ·exact ⟨_,_,_,_,_,rfl,⟨‹_›,‹_›,‹_›,‹_›,trivial⟩,h⟩
 ·cases h
def aU.lh (F:Nat) (dj:Int->Nat->Nat->Hp->OA) (p:Nat) (ks:List Nat) (n:Nat) (tm:Tm) (H:Hp):OA:=bif p.beq 13 then aU.lh13 F dj ks n tm H else (none)
def aU.mk (g:Sl->Nat->Nat->Hp->OA) (args:List AV) (H:Hp):OA:=match args with
 | [(.sl aa),(.fn 181 [(.ptr ah ai)])]=>g aa ah ai H
 | _=>none
def aU.cs (F:Nat) (dj:Int->Nat->Nat->Hp->OA):Cs:=[(181,bX.mk dj)]
theorem aU.loops (F:Nat) (dj:Int->Nat->Nat->Hp->OA):LO (aR (aU.cs F dj)) aG (aU.lh F dj) F Try.f180:=
 (af.rt (af.lt (af.rt (af.block (af.loop (λtm H=>dA λr h=>by obtain ⟨cH,ah,ai,el,dC,hks,e,h⟩:=aU.lh13_inv (show aU.lh13 F dj [] 0 tm H=some r from h);cases h) (λk13 tm H r h=>by obtain ⟨cH,ah,ai,el,dC,hks,e,h⟩:=aU.lh13_inv (show aU.lh13 F dj [] (k13+1) tm H=some r from h);rw [<- dx e];exact Eq.trans (by kernel_rfl) h) λk13=>af.no)))))
theorem aU.eqX (F:Nat) (dj:Int->Nat->Nat->Hp->OA) (aa:Sl) (ah:Nat) (ai:Nat) (H:Hp):EX (aR (aU.cs F dj)) aG (aU.lh F dj) F Try.f180 [(.sl aa),(.fn 181 [(.ptr ah ai)])] H=aU.twX F dj aa ah ai H:=by kernel_rfl
theorem aU.k (F:Nat):Ok Try.prog 180 (aU.mk (aU.tw F)):=by
 intro args H v H' h
 unfold aU.mk at h
 split at h
 ·exact okT (TB:=aG) Try.func180 (aS (bX.k F) bk) (aU.loops F (bX.tw F)) ((aU.eqX F (bX.tw F) _ _ _ H).trans h) (by kernel_rfl)
 ·cases h
def cI.twX (F:Nat) (jd:Sl->Nat->Nat->Hp->OA) (aa:Sl) (ah:Nat) (ai:Nat) (H:Hp):OA:=(jd aa ah ai H).bind λr4=>((r4.1).asI .i64).bind λn5=>some ((.bool (decide (n5>=0))),r4.2)
def cI.tw (F:Nat) (aa:Sl) (ah:Nat) (ai:Nat) (H:Hp):OA:=cI.twX F (aU.tw F) aa ah ai H
def cI.mk (g:Sl->Nat->Nat->Hp->OA) (args:List AV) (H:Hp):OA:=match args with
 | [(.sl aa),(.fn 181 [(.ptr ah ai)])]=>g aa ah ai H
 | _=>none
def cI.cs (F:Nat) (jd:Sl->Nat->Nat->Hp->OA):Cs:=[(180,aU.mk jd)]
theorem cI.eqX (F:Nat) (jd:Sl->Nat->Nat->Hp->OA) (aa:Sl) (ah:Nat) (ai:Nat) (H:Hp):EX (aR (cI.cs F jd)) aG lh0 F Try.f140 [(.sl aa),(.fn 181 [(.ptr ah ai)])] H=cI.twX F jd aa ah ai H:=by kernel_rfl
theorem cI.k (F:Nat):Ok Try.prog 140 (cI.mk (cI.tw F)):=by
 intro args H v H' h
 unfold cI.mk at h
 split at h
 ·exact okT (TB:=aG) Try.func140 (aS (aU.k F) bk) af.no ((cI.eqX F (aU.tw F) _ _ _ H).trans h) (by kernel_rfl)
 ·cases h
def cJ.twX (F:Nat) (je:Sl->Nat->Nat->Hp->OA) (aa:Sl) (ah:Int) (H:Hp):OA:=(Hp.new H [(.int .i64 ah)]).bind λH3=>(bif (decide ((aa.n:Int)<=120)) then ((je aa H.length 0 H3).bind λr4=>((r4.1).asB).bind λb5=>some ((.bool (!b5)),r4.2)) else (some ((.bool false),H3)))
def cJ.tw (F:Nat) (aa:Sl) (ah:Int) (H:Hp):OA:=cJ.twX F (cI.tw F) aa ah H
def cJ.mk (g:Sl->Int->Hp->OA) (args:List AV) (H:Hp):OA:=match args with
 | [(.sl aa),(.int .i64 ah)]=>g aa ah H
 | _=>none
def cJ.cs (F:Nat) (je:Sl->Nat->Nat->Hp->OA):Cs:=[(140,cI.mk je)]
theorem cJ.eqX (F:Nat) (je:Sl->Nat->Nat->Hp->OA) (aa:Sl) (ah:Int) (H:Hp):EX (aR (cJ.cs F je)) aG lh0 F Try.f143 [(.sl aa),(.int .i64 ah)] H=cJ.twX F je aa ah H:=by kernel_rfl
theorem cJ.k (F:Nat):Ok Try.prog 143 (cJ.mk (cJ.tw F)):=by
 intro args H v H' h
 unfold cJ.mk at h
 split at h
 ·exact okT (TB:=aG) Try.func143 (aS (cI.k F) bk) af.no ((cJ.eqX F (cI.tw F) _ _ H).trans h) (by kernel_rfl)
 ·cases h
def cC.twX (F:Nat) (jf:Sl->Int->Hp->OA) (aa:Sl) (H:Hp):OA:=(jf aa 24 H).bind λr2=>((r2.1).asB).bind λb3=>some ((.bool b3),r2.2)
def cC.tw (F:Nat) (aa:Sl) (H:Hp):OA:=cC.twX F (cJ.tw F) aa H
def cC.mk (g:Sl->Hp->OA) (args:List AV) (H:Hp):OA:=match args with
 | [(.sl aa)]=>g aa H
 | _=>none
def cC.cs (F:Nat) (jf:Sl->Int->Hp->OA):Cs:=[(143,cJ.mk jf)]
theorem cC.eqX (F:Nat) (jf:Sl->Int->Hp->OA) (aa:Sl) (H:Hp):EX (aR (cC.cs F jf)) aG lh0 F Try.f87 [(.sl aa)] H=cC.twX F jf aa H:=by kernel_rfl
theorem cC.k (F:Nat):Ok Try.prog 87 (cC.mk (cC.tw F)):=by
 intro args H v H' h
 unfold cC.mk at h
 split at h
 ·exact okT (TB:=aG) Try.func87 (aS (cJ.k F) bk) af.no ((cC.eqX F (cJ.tw F) _ H).trans h) (by kernel_rfl)
 ·cases h
def bY.twX (F:Nat) (aa:Int) (ah:Int) (cW:Int) (H:Hp):OA:=(bif (decide (ah<=aa)) then (some ((.bool (decide (aa<=cW))),H)) else (some ((.bool false),H)))
def bY.tw (F:Nat) (aa:Int) (ah:Int) (cW:Int) (H:Hp):OA:=bY.twX F aa ah cW H
def bY.mk (g:Int->Int->Int->Hp->OA) (args:List AV) (H:Hp):OA:=match args with
 | [(.int .i64 aa),(.int .i64 ah),(.int .i64 cW)]=>g aa ah cW H
 | _=>none
theorem bY.eqX (F:Nat) (aa:Int) (ah:Int) (cW:Int) (H:Hp):EX (aR []) aG lh0 F Try.f73 [(.int .i64 aa),(.int .i64 ah),(.int .i64 cW)] H=bY.twX F aa ah cW H:=by kernel_rfl
theorem bY.k (F:Nat):Ok Try.prog 73 (bY.mk (bY.tw F)):=by
 intro args H v H' h
 unfold bY.mk at h
 split at h
 ·exact okT (TB:=aG) Try.func73 bk af.no ((bY.eqX F _ _ _ H).trans h) (by kernel_rfl)
 ·cases h
def cn.twX (F:Nat) (aa:Sl) (H:Hp):OA:=(bif (aa.a.isNone) then (some ((.sl (⟨none,0,.ex 0⟩:Sl)),H)) else ((Hp.new H []).bind λH2=>(Sl.row H2 aa 1).bind λxs4=>(Hp.app H2 1 8 (⟨some (H.length,0),0,.ex 0⟩:Sl) aa.n xs4).bind λa3=>some ((.sl a3.1),a3.2)))
def cn.tw (F:Nat) (aa:Sl) (H:Hp):OA:=cn.twX F aa H
def cn.mk (g:Sl->Hp->OA) (args:List AV) (H:Hp):OA:=match args with
 | [(.sl aa)]=>g aa H
 | _=>none
theorem cn.eqX (F:Nat) (aa:Sl) (H:Hp):EX (aR []) aG lh0 F Try.f76 [(.sl aa)] H=cn.twX F aa H:=by kernel_rfl
theorem cn.k (F:Nat):Ok Try.prog 76 (cn.mk (cn.tw F)):=by
 intro args H v H' h
 unfold cn.mk at h
 split at h
 ·exact okT (TB:=aG) Try.func76 bk af.no ((cn.eqX F _ H).trans h) (by kernel_rfl)
 ·cases h
def au.j1 (F:Nat) (bC:Sl->Hp->OA) (jg:Nat) (nH:Nat) (fD:Nat) (hM:Nat) (H54:Hp):OA:=(Hp.ldSl H54 jg (nH+1)).bind λs55=>(bif ((s55.n:Int) == 0) then ((Hp.st H54 fD hM (.int .i64 0)).bind λH56=>(Hp.st H56 fD (hM+1) (.sl (⟨none,0,.ex 0⟩:Sl))).bind λH57=>(Hp.ldI H57 .i64 fD hM).bind λn58=>(Hp.ldSl H57 fD (hM+1)).bind λs59=>some ((.agg [(.int .i64 n58),(.sl s59)]),H57)) else ((Hp.ldI H54 .i64 jg nH).bind λn60=>(Hp.ldSl H54 jg (nH+1)).bind λs61=>(bC s61 H54).bind λr62=>((r62.1).asSl).bind λs63=>(if aI H54 r62.2 then ((Hp.st r62.2 fD hM (.int .i64 n60)).bind λH64=>(Hp.st H64 fD (hM+1) (.sl s63)).bind λH65=>(Hp.ldI H65 .i64 fD hM).bind λn66=>(Hp.ldSl H65 fD (hM+1)).bind λs67=>some ((.agg [(.int .i64 n66),(.sl s67)]),H65)) else none)))
def au.l14 (F:Nat) (bC:Sl->Hp->OA) :Nat->Nat->Nat->Nat->Nat->Hp->OA
 | 0,_,_,_,_,_=>none
 | nI+1,dD,en,eH,fX,H36=>(Hp.ldSl H36 dD (en+1)).bind λs68=>(bif (decide ((s68.n:Int)>0)) then ((Hp.ldSl H36 dD (en+1)).bind λs69=>(Hp.ldSl H36 dD (en+1)).bind λs70=>(Sl.idx s69 (IntKind.i64.wrap ((s70.n:Int) - 1)) 1).bind λp71=>(Hp.ldI H36 .i64 p71.1 p71.2).bind λn72=>(bif (n72 == 0) then ((Hp.ldSl H36 dD (en+1)).bind λs73=>(Hp.ldSl H36 dD (en+1)).bind λs74=>(Sl.cut s73 1 0 (IntKind.i64.wrap ((s74.n:Int) - 1))).bind λs75=>(Hp.st H36 dD (en+1) (.sl s75)).bind λH76=>au.l14 F bC nI dD en eH fX H76) else (au.j1 F bC dD en eH fX H36))) else (au.j1 F bC dD en eH fX H36))
termination_by structural n=>n
def au.j2 (F:Nat) (bC:Sl->Hp->OA) (lH:Nat) (wZ:Nat) (lI:Nat) (w_:Nat) (H28:Hp):OA:=au.l14 F bC F lH wZ lI w_ H28
def au.l6 (F:Nat) (bC:Sl->Hp->OA) :Nat->Nat->Nat->Nat->Nat->Hp->OA
 | 0,_,_,_,_,_=>none
 | xa+1,dE,bN,eJ,fY,H11=>(Hp.ldSl H11 dE (bN+1)).bind λs77=>(bif (decide ((s77.n:Int)>0)) then ((Hp.ldSl H11 dE (bN+1)).bind λs78=>(Sl.idx s78 0 1).bind λp79=>(Hp.ldI H11 .i64 p79.1 p79.2).bind λn80=>(bif (n80 == 0) then ((Hp.ldI H11 .i64 dE bN).bind λn81=>(Hp.st H11 dE bN (.int .i64 (IntKind.i64.wrap (n81+1)))).bind λH82=>(Hp.ldSl H82 dE (bN+1)).bind λs83=>(Sl.cut s83 1 1 (s83.n:Int)).bind λs84=>(Hp.st H82 dE (bN+1) (.sl s84)).bind λH85=>au.l6 F bC xa dE bN eJ fY H85) else (au.j2 F bC dE bN eJ fY H11))) else (au.j2 F bC dE bN eJ fY H11))
termination_by structural n=>n
def au.twX (F:Nat) (bC:Sl->Hp->OA) (aa:Int) (ak:Sl) (H:Hp):OA:=(Hp.new H [(.int .i64 aa),(.sl ak)]).bind λH3=>(Hp.new H3 [.int .i64 0,.sl ⟨none,0,.ex 0⟩]).bind λH4=>au.l6 F bC F H.length 0 H3.length 0 H4
def au.tw (F:Nat) (aa:Int) (ak:Sl) (H:Hp):OA:=au.twX F (cn.tw F) aa ak H
def au.lh6 (F:Nat) (bC:Sl->Hp->OA) (ks:List Nat) (n:Nat) (tm:Tm) (H:Hp):OA:=match ks,tm 1,tm 2 with
 | [],(.ptr dE bN),(.ptr eJ fY)=>au.l6 F bC n dE bN eJ fY H
 | _,_,_=>none
theorem au.lh6_inv {F:Nat} {bC:Sl->Hp->OA} {ks:List Nat} {n:Nat} {tm:Tm} {H:Hp} {r:AV×Hp} (h:au.lh6 F bC ks n tm H=some r):∃ dE bN eJ fY,ks=[]/\dh tm [(1,(.ptr dE bN)),(2,(.ptr eJ fY))]/\au.l6 F bC n dE bN eJ fY H=some r:=by
 unfold au.lh6 at h
 split at h
 ·exact ⟨_,_,_,_,rfl,⟨‹_›,‹_›,trivial⟩,h⟩
 ·cases h
def au.lh14 (F:Nat) (bC:Sl->Hp->OA) (ks:List Nat) (n:Nat) (tm:Tm) (H:Hp):OA:=match ks,tm 1,tm 2 with
 | [],(.ptr dD en),(.ptr eH fX)=>au.l14 F bC n dD en eH fX H
 | _,_,_=>none
theorem au.lh14_inv {F:Nat} {bC:Sl->Hp->OA} {ks:List Nat} {n:Nat} {tm:Tm} {H:Hp} {r:AV×Hp} (h:au.lh14 F bC ks n tm H=some r):∃ dD en eH fX,ks=[]/\dh tm [(1,(.ptr dD en)),(2,(.ptr eH fX))]/\au.l14 F bC n dD en eH fX H=some r:=by
 unfold au.lh14 at h
 split at h
 ·exact ⟨_,_,_,_,rfl,⟨‹_›,‹_›,trivial⟩,h⟩
 ·cases h
def au.lh (F:Nat) (bC:Sl->Hp->OA) (p:Nat) (ks:List Nat) (n:Nat) (tm:Tm) (H:Hp):OA:=bif p.beq 14 then au.lh14 F bC ks n tm H else (bif p.beq 6 then au.lh6 F bC ks n tm H else (none))
def au.pn:Nat->List Nat:=eC [(8,[6])]
def au.tb:Nat->List (List Nat):=eC [(8,[[],[0],[],[2],[2,3],[0,1,2,3,4],[0,1,2,3,4,5]])]
def au.mk (g:Int->Sl->Hp->OA) (args:List AV) (H:Hp):OA:=match args with
 | [(.agg [(.int .i64 aa),(.sl ak)])]=>g aa ak H
 | _=>none
def au.cs (F:Nat) (bC:Sl->Hp->OA):Cs:=[(76,cn.mk bC)]
theorem au.loops (F:Nat) (bC:Sl->Hp->OA):LO (aR (au.cs F bC)) au.pn (au.lh F bC) F Try.f183:=
 (af.rt (af.seq (af.block (af.loop (λtm H=>dA λr h=>by obtain ⟨dE,bN,eJ,fY,hks,e,h⟩:=au.lh6_inv (show au.lh6 F bC [] 0 tm H=some r from h);cases h) (λk6 tm H r h=>by obtain ⟨dE,bN,eJ,fY,hks,e,h⟩:=au.lh6_inv (show au.lh6 F bC [] (k6+1) tm H=some r from h);rw [<- dx e];exact Eq.trans (by kernel_rfl) h) λk6=>af.no)) (af.lt (af.block (af.loop (λtm H=>dA λr h=>by obtain ⟨dD,en,eH,fX,hks,e,h⟩:=au.lh14_inv (show au.lh14 F bC [] 0 tm H=some r from h);cases h) (λk14 tm H r h=>by obtain ⟨dD,en,eH,fX,hks,e,h⟩:=au.lh14_inv (show au.lh14 F bC [] (k14+1) tm H=some r from h);rw [<- dx e];exact Eq.trans (by kernel_rfl) h) λk14=>af.no)))))
theorem au.eqX (F:Nat) (bC:Sl->Hp->OA) (aa:Int) (ak:Sl) (H:Hp):EX (aR (au.cs F bC)) au.pn (au.lh F bC) F Try.f183 [(.agg [(.int .i64 aa),(.sl ak)])] H=au.twX F bC aa ak H:=by kernel_rfl
theorem au.k (F:Nat):Ok Try.prog 183 (au.mk (au.tw F)):=by
 intro args H v H' h
 unfold au.mk at h
 split at h
 ·exact okT (TB:=au.tb) Try.func183 (aS (cn.k F) bk) (au.loops F (cn.tw F)) ((au.eqX F (cn.tw F) _ _ H).trans h) (by kernel_rfl)
 ·cases h
def bG.twX (F:Nat) (eZ:Int->Sl->Hp->OA) (aa:Int) (ah:Int) (H:Hp):OA:=(Hp.new H [.int .i64 0,.sl ⟨none,0,.ex 0⟩]).bind λH3=>(Hp.new H3 [(.int .i64 aa)]).bind λH4=>(eZ ah (⟨some (H3.length,0),1,.ex 1⟩:Sl) H4).bind λr5=>((r5.1).asAgg 2).bind λl6=>(l6[0]?).bind λv7=>((v7).asI .i64).bind λn8=>(l6[1]?).bind λv9=>((v9).asSl).bind λs10=>(Hp.st r5.2 H.length 0 (.int .i64 n8)).bind λH11=>(Hp.st H11 H.length (0+1) (.sl s10)).bind λH12=>(Hp.ldI H12 .i64 H.length 0).bind λn13=>(Hp.ldSl H12 H.length (0+1)).bind λs14=>some ((.agg [(.int .i64 n13),(.sl s14)]),H12)
def bG.tw (F:Nat) (aa:Int) (ah:Int) (H:Hp):OA:=bG.twX F (au.tw F) aa ah H
def bG.mk (g:Int->Int->Hp->OA) (args:List AV) (H:Hp):OA:=match args with
 | [(.int .i64 aa),(.int .i64 ah)]=>g aa ah H
 | _=>none
def bG.cs (F:Nat) (eZ:Int->Sl->Hp->OA):Cs:=[(183,au.mk eZ)]
theorem bG.eqX (F:Nat) (eZ:Int->Sl->Hp->OA) (aa:Int) (ah:Int) (H:Hp):EX (aR (bG.cs F eZ)) aG lh0 F Try.f145 [(.int .i64 aa),(.int .i64 ah)] H=bG.twX F eZ aa ah H:=by kernel_rfl
theorem bG.k (F:Nat):Ok Try.prog 145 (bG.mk (bG.tw F)):=by
 intro args H v H' h
 unfold bG.mk at h
 split at h
 ·exact okT (TB:=aG) Try.func145 (aS (au.k F) bk) af.no ((bG.eqX F (au.tw F) _ _ H).trans h) (by kernel_rfl)
 ·cases h
def c_.twX (F:Nat) (aa:Sl) (H:Hp):OA:=some ((.int .i64 (aa.n:Int)),H)
def c_.tw (F:Nat) (aa:Sl) (H:Hp):OA:=c_.twX F aa H
def c_.mk (g:Sl->Hp->OA) (args:List AV) (H:Hp):OA:=match args with
 | [(.sl aa)]=>g aa H
 | _=>none
theorem c_.eqX (F:Nat) (aa:Sl) (H:Hp):EX (aR []) aG lh0 F Try.f74 [(.sl aa)] H=c_.twX F aa H:=by kernel_rfl
theorem c_.k (F:Nat):Ok Try.prog 74 (c_.mk (c_.tw F)):=by
 intro args H v H' h
 unfold c_.mk at h
 split at h
 ·exact okT (TB:=aG) Try.func74 bk af.no ((c_.eqX F _ H).trans h) (by kernel_rfl)
 ·cases h
def bp.twX (F:Nat) (jh:Sl->Hp->OA) (aa:Int) (ak:Sl) (H:Hp):OA:=(Hp.new H [(.int .i64 aa),(.sl ak)]).bind λH3=>(Hp.ldI H3 .i64 H.length 0).bind λn4=>(Hp.ldSl H3 H.length 1).bind λs5=>(jh s5 H3).bind λr6=>((r6.1).asI .i64).bind λn7=>(if aI H3 r6.2 then (some ((.int .i64 (IntKind.i64.wrap ((IntKind.i64.wrap (n4+n7)) - 1))),r6.2)) else none)
def bp.tw (F:Nat) (aa:Int) (ak:Sl) (H:Hp):OA:=bp.twX F (c_.tw F) aa ak H
def bp.tb:Nat->List (List Nat):=eC [(1,[[],[0],[],[2],[2,3],[0,1,2,3,4],[0,1,2,3,4,5],[0,1,2,3,4,5,6]])]
def bp.mk (g:Int->Sl->Hp->OA) (args:List AV) (H:Hp):OA:=match args with
 | [(.agg [(.int .i64 aa),(.sl ak)])]=>g aa ak H
 | _=>none
def bp.cs (F:Nat) (jh:Sl->Hp->OA):Cs:=[(74,c_.mk jh)]
theorem bp.eqX (F:Nat) (jh:Sl->Hp->OA) (aa:Int) (ak:Sl) (H:Hp):EX (aR (bp.cs F jh)) aG lh0 F Try.f202 [(.agg [(.int .i64 aa),(.sl ak)])] H=bp.twX F jh aa ak H:=by kernel_rfl
theorem bp.k (F:Nat):Ok Try.prog 202 (bp.mk (bp.tw F)):=by
 intro args H v H' h
 unfold bp.mk at h
 split at h
 ·exact okT (TB:=bp.tb) Try.func202 (aS (c_.k F) bk) af.no ((bp.eqX F (c_.tw F) _ _ H).trans h) (by kernel_rfl)
 ·cases h
def cA.twX (F:Nat) (e_:Int->Int->Int->Hp->OA) (aa:Int) (H:Hp):OA:=(e_ aa (-1000000000000) 1000000000000 H).bind λr2=>((r2.1).asB).bind λb3=>some ((.bool (!b3)),r2.2)
def cA.tw (F:Nat) (aa:Int) (H:Hp):OA:=cA.twX F (bY.tw F) aa H
def cA.mk (g:Int->Hp->OA) (args:List AV) (H:Hp):OA:=match args with
 | [(.int .i64 aa)]=>g aa H
 | _=>none
def cA.cs (F:Nat) (e_:Int->Int->Int->Hp->OA):Cs:=[(73,bY.mk e_)]
theorem cA.eqX (F:Nat) (e_:Int->Int->Int->Hp->OA) (aa:Int) (H:Hp):EX (aR (cA.cs F e_)) aG lh0 F Try.f226 [(.int .i64 aa)] H=cA.twX F e_ aa H:=by kernel_rfl
theorem cA.k (F:Nat):Ok Try.prog 226 (cA.mk (cA.tw F)):=by
 intro args H v H' h
 unfold cA.mk at h
 split at h
 ·exact okT (TB:=aG) Try.func226 (aS (bY.k F) bk) af.no ((cA.eqX F (bY.tw F) _ H).trans h) (by kernel_rfl)
 ·cases h
def aV.l13 (F:Nat) (dk:Int->Hp->OA) :Nat->Sl->Int->Int->Hp->OA
 | 0,_,_,_,_=>none
 | iy+1,cg,bZ,bv,H6=>(bif (decide (bv<bZ)) then ((Sl.idx cg bv 1).bind λp11=>(Hp.ldI H6 .i64 p11.1 p11.2).bind λn12=>(dk n12 H6).bind λr13=>((r13.1).asB).bind λb14=>(bif b14 then (some ((.int .i64 bv),r13.2)) else (aV.l13 F dk iy cg bZ (IntKind.i64.wrap (bv+1)) r13.2))) else (some ((.int .i64 (-1)),H6)))
termination_by structural n=>n
def aV.twX (F:Nat) (dk:Int->Hp->OA) (aa:Sl) (H:Hp):OA:=aV.l13 F dk F aa (aa.n:Int) 0 H
def aV.tw (F:Nat) (aa:Sl) (H:Hp):OA:=aV.twX F (cA.tw F) aa H
def aV.lh13 (F:Nat) (dk:Int->Hp->OA) (ks:List Nat) (n:Nat) (tm:Tm) (H:Hp):OA:=match ks,tm 0,tm 1,tm 7,tm 8 with
 | [],(.sl cg),(.fn 226 []),(.int .i64 bZ),(.int .i64 bv)=>aV.l13 F dk n cg bZ bv H
 | _,_,_,_,_=>none
theorem aV.lh13_inv {F:Nat} {dk:Int->Hp->OA} {ks:List Nat} {n:Nat} {tm:Tm} {H:Hp} {r:AV×Hp} (h:aV.lh13 F dk ks n tm H=some r):∃ cg bZ bv,ks=[]/\dh tm [(0,(.sl cg)),(1,(.fn 226 [])),(7,(.int .i64 bZ)),(8,(.int .i64 bv))]/\aV.l13 F dk n cg bZ bv H=some r:=by
 unfold aV.lh13 at h
 split at h
 ·exact ⟨_,_,_,rfl,⟨‹_›,‹_›,‹_›,‹_›,trivial⟩,h⟩
 ·cases h
def aV.lh (F:Nat) (dk:Int->Hp->OA) (p:Nat) (ks:List Nat) (n:Nat) (tm:Tm) (H:Hp):OA:=bif p.beq 13 then aV.lh13 F dk ks n tm H else (none)
def aV.mk (g:Sl->Hp->OA) (args:List AV) (H:Hp):OA:=match args with
 | [(.sl aa),(.fn 226 [])]=>g aa H
 | _=>none
def aV.cs (F:Nat) (dk:Int->Hp->OA):Cs:=[(226,cA.mk dk)]
theorem aV.loops (F:Nat) (dk:Int->Hp->OA):LO (aR (aV.cs F dk)) aG (aV.lh F dk) F Try.f180:=
 (af.rt (af.lt (af.rt (af.block (af.loop (λtm H=>dA λr h=>by obtain ⟨cg,bZ,bv,hks,e,h⟩:=aV.lh13_inv (show aV.lh13 F dk [] 0 tm H=some r from h);cases h) (λk13 tm H r h=>by obtain ⟨cg,bZ,bv,hks,e,h⟩:=aV.lh13_inv (show aV.lh13 F dk [] (k13+1) tm H=some r from h);rw [<- dx e];exact Eq.trans (by kernel_rfl) h) λk13=>af.no)))))
theorem aV.eqX (F:Nat) (dk:Int->Hp->OA) (aa:Sl) (H:Hp):EX (aR (aV.cs F dk)) aG (aV.lh F dk) F Try.f180 [(.sl aa),(.fn 226 [])] H=aV.twX F dk aa H:=by kernel_rfl
theorem aV.k (F:Nat):Ok Try.prog 180 (aV.mk (aV.tw F)):=by
 intro args H v H' h
 unfold aV.mk at h
 split at h
 ·exact okT (TB:=aG) Try.func180 (aS (cA.k F) bk) (aV.loops F (cA.tw F)) ((aV.eqX F (cA.tw F) _ H).trans h) (by kernel_rfl)
 ·cases h
def cK.twX (F:Nat) (ji:Sl->Hp->OA) (aa:Sl) (H:Hp):OA:=(ji aa H).bind λr2=>((r2.1).asI .i64).bind λn3=>some ((.bool (decide (n3>=0))),r2.2)
def cK.tw (F:Nat) (aa:Sl) (H:Hp):OA:=cK.twX F (aV.tw F) aa H
def cK.mk (g:Sl->Hp->OA) (args:List AV) (H:Hp):OA:=match args with
 | [(.sl aa),(.fn 226 [])]=>g aa H
 | _=>none
def cK.cs (F:Nat) (ji:Sl->Hp->OA):Cs:=[(180,aV.mk ji)]
theorem cK.eqX (F:Nat) (ji:Sl->Hp->OA) (aa:Sl) (H:Hp):EX (aR (cK.cs F ji)) aG lh0 F Try.f140 [(.sl aa),(.fn 226 [])] H=cK.twX F ji aa H:=by kernel_rfl
theorem cK.k (F:Nat):Ok Try.prog 140 (cK.mk (cK.tw F)):=by
 intro args H v H' h
 unfold cK.mk at h
 split at h
 ·exact okT (TB:=aG) Try.func140 (aS (aV.k F) bk) af.no ((cK.eqX F (aV.tw F) _ H).trans h) (by kernel_rfl)
 ·cases h
def bO.twX (F:Nat) (bi:Int->Sl->Hp->OA) (jj:Sl->Hp->OA) (aa:Int) (ak:Sl) (H:Hp):OA:=(Hp.new H [(.int .i64 aa),(.sl ak)]).bind λH3=>(Hp.ldSl H3 H.length 1).bind λs4=>(bif ((s4.n:Int) == 0) then ((Hp.ldI H3 .i64 H.length 0).bind λn5=>some ((.bool (n5 == 0)),H3)) else ((bif (decide ((s4.n:Int)<=160)) then ((Hp.ldSl H3 H.length 1).bind λs6=>(Sl.idx s6 0 1).bind λp7=>(Hp.ldI H3 .i64 p7.1 p7.2).bind λn8=>(bif (n8 != 0) then ((Hp.ldSl H3 H.length 1).bind λs9=>(Sl.idx s9 (IntKind.i64.wrap ((s4.n:Int) - 1)) 1).bind λp10=>(Hp.ldI H3 .i64 p10.1 p10.2).bind λn11=>(bif (n11 != 0) then ((Hp.ldI H3 .i64 H.length 0).bind λn12=>(bif (decide (n12>=(-240))) then ((Hp.ldI H3 .i64 H.length 0).bind λn13=>(Hp.ldSl H3 H.length (0+1)).bind λs14=>(bi n13 s14 H3).bind λr15=>((r15.1).asI .i64).bind λn16=>(bif (decide (n16<=240)) then ((Hp.ldI r15.2 .i64 H.length 0).bind λn17=>(bif (decide (n17<=240)) then ((Hp.ldSl r15.2 H.length 1).bind λs18=>(jj s18 r15.2).bind λr19=>((r19.1).asB).bind λb20=>some ((.bool (!b20)),r19.2)) else (some ((.bool false),r15.2)))) else (some ((.bool false),r15.2)))) else (some ((.bool false),H3)))) else (some ((.bool false),H3)))) else (some ((.bool false),H3)))) else (some ((.bool false),H3)))))
def bO.tw (F:Nat) (aa:Int) (ak:Sl) (H:Hp):OA:=bO.twX F (bp.tw F) (cK.tw F) aa ak H
def bO.mk (g:Int->Sl->Hp->OA) (args:List AV) (H:Hp):OA:=match args with
 | [(.agg [(.int .i64 aa),(.sl ak)])]=>g aa ak H
 | _=>none
def bO.cs (F:Nat) (bi:Int->Sl->Hp->OA) (jj:Sl->Hp->OA):Cs:=[(202,bp.mk bi),(140,cK.mk jj)]
theorem bO.eqX (F:Nat) (bi:Int->Sl->Hp->OA) (jj:Sl->Hp->OA) (aa:Int) (ak:Sl) (H:Hp):EX (aR (bO.cs F bi jj)) aG lh0 F Try.f215 [(.agg [(.int .i64 aa),(.sl ak)])] H=bO.twX F bi jj aa ak H:=by kernel_rfl
theorem bO.k (F:Nat):Ok Try.prog 215 (bO.mk (bO.tw F)):=by
 intro args H v H' h
 unfold bO.mk at h
 split at h
 ·exact okT (TB:=aG) Try.func215 (aS (bp.k F) (aS (cK.k F) bk)) af.no ((bO.eqX F (bp.tw F) (cK.tw F) _ _ H).trans h) (by kernel_rfl)
 ·cases h
def cp.twX (F:Nat) (fa:Int->Sl->Hp->OA) (aa:Int) (ak:Sl) (H:Hp):OA:=(Hp.new H [(.int .i64 aa),(.sl ak)]).bind λH3=>(Hp.ldI H3 .i64 H.length 0).bind λn4=>(Hp.ldSl H3 H.length (0+1)).bind λs5=>(fa n4 s5 H3).bind λr6=>((r6.1).asB).bind λb7=>some ((.bool (!b7)),r6.2)
def cp.tw (F:Nat) (aa:Int) (ak:Sl) (H:Hp):OA:=cp.twX F (bO.tw F) aa ak H
def cp.mk (g:Int->Sl->Hp->OA) (args:List AV) (H:Hp):OA:=match args with
 | [(.agg [(.int .i64 aa),(.sl ak)])]=>g aa ak H
 | _=>none
def cp.cs (F:Nat) (fa:Int->Sl->Hp->OA):Cs:=[(215,bO.mk fa)]
theorem cp.eqX (F:Nat) (fa:Int->Sl->Hp->OA) (aa:Int) (ak:Sl) (H:Hp):EX (aR (cp.cs F fa)) aG lh0 F Try.f214 [(.agg [(.int .i64 aa),(.sl ak)])] H=cp.twX F fa aa ak H:=by kernel_rfl
theorem cp.k (F:Nat):Ok Try.prog 214 (cp.mk (cp.tw F)):=by
 intro args H v H' h
 unfold cp.mk at h
 split at h
 ·exact okT (TB:=aG) Try.func214 (aS (bO.k F) bk) af.no ((cp.eqX F (bO.tw F) _ _ H).trans h) (by kernel_rfl)
 ·cases h
def aT.l13 (F:Nat) (dl:Int->Sl->Hp->OA) :Nat->Sl->Int->Int->Hp->OA
 | 0,_,_,_,_=>none
 | iy+1,cg,bZ,bv,H6=>(bif (decide (bv<bZ)) then ((Sl.idx cg bv 2).bind λp12=>(Hp.ldI H6 .i64 p12.1 p12.2).bind λn13=>(Hp.ldSl H6 p12.1 (p12.2+1)).bind λs14=>(dl n13 s14 H6).bind λr15=>((r15.1).asB).bind λb16=>(bif b16 then (some ((.int .i64 bv),r15.2)) else (aT.l13 F dl iy cg bZ (IntKind.i64.wrap (bv+1)) r15.2))) else (some ((.int .i64 (-1)),H6)))
termination_by structural n=>n
def aT.twX (F:Nat) (dl:Int->Sl->Hp->OA) (aa:Sl) (H:Hp):OA:=aT.l13 F dl F aa (aa.n:Int) 0 H
def aT.tw (F:Nat) (aa:Sl) (H:Hp):OA:=aT.twX F (cp.tw F) aa H
def aT.lh13 (F:Nat) (dl:Int->Sl->Hp->OA) (ks:List Nat) (n:Nat) (tm:Tm) (H:Hp):OA:=match ks,tm 0,tm 1,tm 7,tm 8 with
 | [],(.sl cg),(.fn 214 []),(.int .i64 bZ),(.int .i64 bv)=>aT.l13 F dl n cg bZ bv H
 | _,_,_,_,_=>none
theorem aT.lh13_inv {F:Nat} {dl:Int->Sl->Hp->OA} {ks:List Nat} {n:Nat} {tm:Tm} {H:Hp} {r:AV×Hp} (h:aT.lh13 F dl ks n tm H=some r):∃ cg bZ bv,ks=[]/\dh tm [(0,(.sl cg)),(1,(.fn 214 [])),(7,(.int .i64 bZ)),(8,(.int .i64 bv))]/\aT.l13 F dl n cg bZ bv H=some r:=by
 unfold aT.lh13 at h
 split at h
 ·exact ⟨_,_,_,rfl,⟨‹_›,‹_›,‹_›,‹_›,trivial⟩,h⟩
 ·cases h
def aT.lh (F:Nat) (dl:Int->Sl->Hp->OA) (p:Nat) (ks:List Nat) (n:Nat) (tm:Tm) (H:Hp):OA:=bif p.beq 13 then aT.lh13 F dl ks n tm H else (none)
def aT.mk (g:Sl->Hp->OA) (args:List AV) (H:Hp):OA:=match args with
 | [(.sl aa),(.fn 214 [])]=>g aa H
 | _=>none
def aT.cs (F:Nat) (dl:Int->Sl->Hp->OA):Cs:=[(214,cp.mk dl)]
theorem aT.loops (F:Nat) (dl:Int->Sl->Hp->OA):LO (aR (aT.cs F dl)) aG (aT.lh F dl) F Try.f225:=
 (af.rt (af.lt (af.rt (af.block (af.loop (λtm H=>dA λr h=>by obtain ⟨cg,bZ,bv,hks,e,h⟩:=aT.lh13_inv (show aT.lh13 F dl [] 0 tm H=some r from h);cases h) (λk13 tm H r h=>by obtain ⟨cg,bZ,bv,hks,e,h⟩:=aT.lh13_inv (show aT.lh13 F dl [] (k13+1) tm H=some r from h);rw [<- dx e];exact Eq.trans (by kernel_rfl) h) λk13=>af.no)))))
theorem aT.eqX (F:Nat) (dl:Int->Sl->Hp->OA) (aa:Sl) (H:Hp):EX (aR (aT.cs F dl)) aG (aT.lh F dl) F Try.f225 [(.sl aa),(.fn 214 [])] H=aT.twX F dl aa H:=by kernel_rfl
theorem aT.k (F:Nat):Ok Try.prog 225 (aT.mk (aT.tw F)):=by
 intro args H v H' h
 unfold aT.mk at h
 split at h
 ·exact okT (TB:=aG) Try.func225 (aS (cp.k F) bk) (aT.loops F (cp.tw F)) ((aT.eqX F (cp.tw F) _ H).trans h) (by kernel_rfl)
 ·cases h
def cL.twX (F:Nat) (jk:Sl->Hp->OA) (aa:Sl) (H:Hp):OA:=(jk aa H).bind λr2=>((r2.1).asI .i64).bind λn3=>some ((.bool (decide (n3>=0))),r2.2)
def cL.tw (F:Nat) (aa:Sl) (H:Hp):OA:=cL.twX F (aT.tw F) aa H
def cL.mk (g:Sl->Hp->OA) (args:List AV) (H:Hp):OA:=match args with
 | [(.sl aa),(.fn 214 [])]=>g aa H
 | _=>none
def cL.cs (F:Nat) (jk:Sl->Hp->OA):Cs:=[(225,aT.mk jk)]
theorem cL.eqX (F:Nat) (jk:Sl->Hp->OA) (aa:Sl) (H:Hp):EX (aR (cL.cs F jk)) aG lh0 F Try.f213 [(.sl aa),(.fn 214 [])] H=cL.twX F jk aa H:=by kernel_rfl
theorem cL.k (F:Nat):Ok Try.prog 213 (cL.mk (cL.tw F)):=by
 intro args H v H' h
 unfold cL.mk at h
 split at h
 ·exact okT (TB:=aG) Try.func213 (aS (aT.k F) bk) af.no ((cL.eqX F (aT.tw F) _ H).trans h) (by kernel_rfl)
 ·cases h
def bP.twX (F:Nat) (jl:Sl->Hp->OA) (aa:Sl) (H:Hp):OA:=(jl aa H).bind λr2=>((r2.1).asB).bind λb3=>some ((.bool (!b3)),r2.2)
def bP.tw (F:Nat) (aa:Sl) (H:Hp):OA:=bP.twX F (cL.tw F) aa H
def bP.mk (g:Sl->Hp->OA) (args:List AV) (H:Hp):OA:=match args with
 | [(.sl aa)]=>g aa H
 | _=>none
def bP.cs (F:Nat) (jl:Sl->Hp->OA):Cs:=[(213,cL.mk jl)]
theorem bP.eqX (F:Nat) (jl:Sl->Hp->OA) (aa:Sl) (H:Hp):EX (aR (bP.cs F jl)) aG lh0 F Try.f201 [(.sl aa)] H=bP.twX F jl aa H:=by kernel_rfl
theorem bP.k (F:Nat):Ok Try.prog 201 (bP.mk (bP.tw F)):=by
 intro args H v H' h
 unfold bP.mk at h
 split at h
 ·exact okT (TB:=aG) Try.func201 (aS (cL.k F) bk) af.no ((bP.eqX F (cL.tw F) _ H).trans h) (by kernel_rfl)
 ·cases h
def bS.twX (F:Nat) (eZ:Int->Sl->Hp->OA) (fa:Int->Sl->Hp->OA) (aa:Int) (ak:Sl) (H:Hp):OA:=(Hp.new H [(.int .i64 aa),(.sl ak)]).bind λH3=>(Hp.new H3 [.int .i64 0,.sl ⟨none,0,.ex 0⟩]).bind λH4=>(Hp.ldI H4 .i64 H.length 0).bind λn5=>(Hp.ldSl H4 H.length (0+1)).bind λs6=>(eZ n5 s6 H4).bind λr7=>((r7.1).asAgg 2).bind λl8=>(l8[0]?).bind λv9=>((v9).asI .i64).bind λn10=>(l8[1]?).bind λv11=>((v11).asSl).bind λs12=>(Hp.st r7.2 H.length 0 (.int .i64 n10)).bind λH13=>(Hp.st H13 H.length (0+1) (.sl s12)).bind λH14=>(Hp.ldI H14 .i64 H.length 0).bind λn15=>(Hp.ldSl H14 H.length (0+1)).bind λs16=>(fa n15 s16 H14).bind λr17=>((r17.1).asB).bind λb18=>(bif (!b18) then ((Hp.st r17.2 H3.length 0 (.int .i64 0)).bind λH19=>(Hp.st H19 H3.length (0+1) (.sl (⟨none,0,.ex 0⟩:Sl))).bind λH20=>(Hp.ldI H20 .i64 H3.length 0).bind λn21=>(Hp.ldSl H20 H3.length (0+1)).bind λs22=>some ((.tup [(.agg [(.int .i64 n21),(.sl s22)]),(.int .i64 3)]),H20)) else ((Hp.ldI r17.2 .i64 H.length 0).bind λn23=>(Hp.ldSl r17.2 H.length (0+1)).bind λs24=>(Hp.st r17.2 H3.length 0 (.int .i64 n23)).bind λH25=>(Hp.st H25 H3.length (0+1) (.sl s24)).bind λH26=>(Hp.ldI H26 .i64 H3.length 0).bind λn27=>(Hp.ldSl H26 H3.length (0+1)).bind λs28=>some ((.tup [(.agg [(.int .i64 n27),(.sl s28)]),(.int .i64 0)]),H26)))
def bS.tw (F:Nat) (aa:Int) (ak:Sl) (H:Hp):OA:=bS.twX F (au.tw F) (bO.tw F) aa ak H
def bS.mk (g:Int->Sl->Hp->OA) (args:List AV) (H:Hp):OA:=match args with
 | [(.agg [(.int .i64 aa),(.sl ak)])]=>g aa ak H
 | _=>none
def bS.cs (F:Nat) (eZ:Int->Sl->Hp->OA) (fa:Int->Sl->Hp->OA):Cs:=[(183,au.mk eZ),(215,bO.mk fa)]
theorem bS.eqX (F:Nat) (eZ:Int->Sl->Hp->OA) (fa:Int->Sl->Hp->OA) (aa:Int) (ak:Sl) (H:Hp):EX (aR (bS.cs F eZ fa)) aG lh0 F Try.f203 [(.agg [(.int .i64 aa),(.sl ak)])] H=bS.twX F eZ fa aa ak H:=by kernel_rfl
theorem bS.k (F:Nat):Ok Try.prog 203 (bS.mk (bS.tw F)):=by
 intro args H v H' h
 unfold bS.mk at h
 split at h
 ·exact okT (TB:=aG) Try.func203 (aS (au.k F) (aS (bO.k F) bk)) af.no ((bS.eqX F (au.tw F) (bO.tw F) _ _ H).trans h) (by kernel_rfl)
 ·cases h
def ap.j3 (F:Nat) (bw:Sl->Hp->OA) (bi:Int->Sl->Hp->OA) (bx:Int->Sl->Hp->OA) (iz:Nat) (lJ:Nat) (kB:Nat) (rV:Nat) (H176:Hp):OA:=(Hp.ldI H176 .i64 kB rV).bind λn177=>(Hp.ldSl H176 kB (rV+1)).bind λs178=>(bx n177 s178 H176).bind λr179=>((r179.1).asTup 2).bind λl180=>(l180[0]?).bind λv181=>((v181).asAgg 2).bind λl182=>(l182[0]?).bind λv183=>((v183).asI .i64).bind λn184=>(l182[1]?).bind λv185=>((v185).asSl).bind λs186=>(l180[1]?).bind λv187=>((v187).asI .i64).bind λn188=>(Hp.st r179.2 iz lJ (.int .i64 n184)).bind λH189=>(Hp.st H189 iz (lJ+1) (.sl s186)).bind λH190=>(Hp.ldI H190 .i64 iz lJ).bind λn191=>(Hp.ldSl H190 iz (lJ+1)).bind λs192=>some ((.tup [(.agg [(.int .i64 n191),(.sl s192)]),(.int .i64 n188)]),H190)
def ap.j4 (F:Nat) (bw:Sl->Hp->OA) (bi:Int->Sl->Hp->OA) (bx:Int->Sl->Hp->OA) (C125_:Nat->Nat->Int->Nat->Nat->Sl->Int->Int->Hp->OA) (lK:Nat) (xb:Nat) (jm:Int) (lL:Nat) (xc:Nat) (xd:Sl) (jn:Int) (jo:Int) (H284:Hp):OA:=C125_ lK xb jm lL xc xd jn (IntKind.i64.wrap (jo+1)) H284
def ap.j5 (F:Nat) (bw:Sl->Hp->OA) (bi:Int->Sl->Hp->OA) (bx:Int->Sl->Hp->OA) (C125_:Nat->Nat->Int->Nat->Nat->Sl->Int->Int->Hp->OA) (lM:Nat) (xe:Nat) (jp:Int) (lN:Nat) (xf:Nat) (xg:Sl) (jq:Int) (jr:Int) (H258:Hp):OA:=ap.j4 F bw bi bx C125_ lM xe jp lN xf xg jq jr H258
def ap.l8027 (F:Nat) (bw:Sl->Hp->OA) (bi:Int->Sl->Hp->OA) (bx:Int->Sl->Hp->OA) (C125_:Nat->Nat->Int->Nat->Nat->Sl->Int->Int->Hp->OA):Nat->Nat->Nat->Int->Nat->Nat->Sl->Int->Int->Nat->Nat->Sl->Int->Int->Hp->OA
 | 0,_,_,_,_,_,_,_,_,_,_,_,_,_,_=>none
 | xh+1,fb,gD,dF,eK,fZ,gE,eo,er,fc,gF,gG,es,dn,H224=>(bif (decide (dn<es)) then ((Sl.idx gG dn 1).bind λp285=>(Hp.ldI H224 .i64 p285.1 p285.2).bind λn286=>(Hp.ldSl H224 eK (fZ+1)).bind λs287=>(Hp.ldI H224 .i64 fc gF).bind λn288=>(Sl.idx s287 (IntKind.i64.wrap ((IntKind.i64.wrap (n288 - dF))+dn)) 1).bind λp289=>(Hp.ldI H224 .i64 p289.1 p289.2).bind λn290=>(Sl.idx s287 (IntKind.i64.wrap ((IntKind.i64.wrap (n288 - dF))+dn)) 1).bind λp291=>(Hp.st H224 p291.1 p291.2 (.int .i64 (IntKind.i64.wrap (n290+n286)))).bind λH292=>ap.l8027 F bw bi bx C125_ xh fb gD dF eK fZ gE eo er fc gF gG es (IntKind.i64.wrap (dn+1)) H292) else (ap.j5 F bw bi bx C125_ fb gD dF eK fZ gE eo er H224))
termination_by structural n=>n
def ap.l125 (F:Nat) (bw:Sl->Hp->OA) (bi:Int->Sl->Hp->OA) (bx:Int->Sl->Hp->OA) :Nat->Nat->Nat->Int->Nat->Nat->Sl->Int->Int->Hp->OA
 | 0,_,_,_,_,_,_,_,_,_=>none
 | f_+1,fd,gH,eL,fe,gI,gJ,et,dV,H56=>(bif (decide (dV<et)) then ((Sl.idx gJ dV 2).bind λp193=>(Hp.ldI H56 .i64 p193.1 p193.2).bind λn194=>(Hp.ldSl H56 p193.1 (p193.2+1)).bind λs195=>(Hp.new H56 [.int .i64 0,.sl ⟨none,0,.ex 0⟩]).bind λH196=>(Hp.st H196 H56.length 0 (.int .i64 n194)).bind λH197=>(Hp.st H197 H56.length (0+1) (.sl s195)).bind λH198=>(Hp.ldSl H198 H56.length 1).bind λs199=>ap.l8027 F bw bi bx (ap.l125 F bw bi bx f_) F fd gH eL fe gI gJ et dV H56.length 0 s199 (s199.n:Int) 0 H198) else (ap.j3 F bw bi bx fd gH fe gI H56))
termination_by structural n=>n
def ap.twX (F:Nat) (bw:Sl->Hp->OA) (bi:Int->Sl->Hp->OA) (bx:Int->Sl->Hp->OA) (aa:Int) (ak:Sl) (ai:Int) (br:Sl) (H:Hp):OA:=(Hp.new H [(.int .i64 aa),(.sl ak)]).bind λH5=>(Hp.new H5 [(.int .i64 ai),(.sl br)]).bind λH6=>(Hp.new H6 [.int .i64 0,.sl ⟨none,0,.ex 0⟩]).bind λH7=>(Hp.ldI H7 .i64 H.length 0).bind λn8=>(Hp.ldSl H7 H.length (0+1)).bind λs9=>(Hp.ldI H7 .i64 H5.length 0).bind λn10=>(Hp.ldSl H7 H5.length (0+1)).bind λs11=>(Hp.new H7 [(.int .i64 n8),(.sl s9),(.int .i64 n10),(.sl s11)]).bind λH12=>(bw (⟨some (H7.length,0),2,.ex 2⟩:Sl) H12).bind λr13=>((r13.1).asB).bind λb14=>(bif (!b14) then ((Hp.st r13.2 H6.length 0 (.int .i64 0)).bind λH15=>(Hp.st H15 H6.length (0+1) (.sl (⟨none,0,.ex 0⟩:Sl))).bind λH16=>(Hp.ldI H16 .i64 H6.length 0).bind λn17=>(Hp.ldSl H16 H6.length (0+1)).bind λs18=>some ((.tup [(.agg [(.int .i64 n17),(.sl s18)]),(.int .i64 1)]),H16)) else ((Hp.ldI r13.2 .i64 H.length 0).bind λn19=>(Hp.ldI r13.2 .i64 H5.length 0).bind λn20=>(Hp.ldI r13.2 .i64 H.length 0).bind λn21=>(Hp.ldSl r13.2 H.length (0+1)).bind λs22=>(bi n21 s22 r13.2).bind λr23=>((r23.1).asI .i64).bind λn24=>(if aI r13.2 r23.2 then ((Hp.ldI r23.2 .i64 H5.length 0).bind λn25=>(Hp.ldSl r23.2 H5.length (0+1)).bind λs26=>(bi n25 s26 r23.2).bind λr27=>((r27.1).asI .i64).bind λn28=>(if aI r23.2 r27.2 then ((Hp.mk r27.2 [.int .i64 0] 8 (IntKind.i64.wrap ((IntKind.i64.wrap ((if (if n20<n19 then n20 else n19)>(if n28>n24 then n28 else n24) then (if n20<n19 then n20 else n19) else (if n28>n24 then n28 else n24)) - (if n20<n19 then n20 else n19)))+1)) (IntKind.i64.wrap ((IntKind.i64.wrap ((if (if n20<n19 then n20 else n19)>(if n28>n24 then n28 else n24) then (if n20<n19 then n20 else n19) else (if n28>n24 then n28 else n24)) - (if n20<n19 then n20 else n19)))+1))).bind λm29=>(Hp.new m29.2 [.int .i64 0,.sl ⟨none,0,.ex 0⟩]).bind λH30=>(Hp.st H30 m29.2.length 0 (.int .i64 (if n20<n19 then n20 else n19))).bind λH31=>(Hp.st H31 m29.2.length (0+1) (.sl m29.1)).bind λH32=>(Hp.ldI H32 .i64 H.length 0).bind λn33=>(Hp.ldSl H32 H.length (0+1)).bind λs34=>(Hp.ldI H32 .i64 H5.length 0).bind λn35=>(Hp.ldSl H32 H5.length (0+1)).bind λs36=>(Hp.new H32 [(.int .i64 n33),(.sl s34),(.int .i64 n35),(.sl s36)]).bind λH37=>ap.l125 F bw bi bx F H6.length 0 (if n20<n19 then n20 else n19) m29.2.length 0 (⟨some (H32.length,0),2,.ex 2⟩:Sl) ((⟨some (H32.length,0),2,.ex 2⟩:Sl).n:Int) 0 H37) else none)) else none)))
def ap.tw (F:Nat) (aa:Int) (ak:Sl) (ai:Int) (br:Sl) (H:Hp):OA:=ap.twX F (bP.tw F) (bp.tw F) (bS.tw F) aa ak ai br H
def ap.lh125 (F:Nat) (bw:Sl->Hp->OA) (bi:Int->Sl->Hp->OA) (bx:Int->Sl->Hp->OA) (ks:List Nat) (n:Nat) (tm:Tm) (H:Hp):OA:=match ks,tm 4,tm 6,tm 7,tm 37,tm 38,tm 39 with
 | [],(.ptr fd gH),(.int .i64 eL),(.ptr fe gI),(.sl gJ),(.int .i64 et),(.int .i64 dV)=>ap.l125 F bw bi bx n fd gH eL fe gI gJ et dV H
 | _,_,_,_,_,_,_=>none
theorem ap.lh125_inv {F:Nat} {bw:Sl->Hp->OA} {bi:Int->Sl->Hp->OA} {bx:Int->Sl->Hp->OA} {ks:List Nat} {n:Nat} {tm:Tm} {H:Hp} {r:AV×Hp} (h:ap.lh125 F bw bi bx ks n tm H=some r):∃ fd gH eL fe gI gJ et dV,ks=[]/\dh tm [(4,(.ptr fd gH)),(6,(.int .i64 eL)),(7,(.ptr fe gI)),(37,(.sl gJ)),(38,(.int .i64 et)),(39,(.int .i64 dV))]/\ap.l125 F bw bi bx n fd gH eL fe gI gJ et dV H=some r:=by
 unfold ap.lh125 at h
 split at h
 ·exact ⟨_,_,_,_,_,_,_,_,rfl,⟨‹_›,‹_›,‹_›,‹_›,‹_›,‹_›,trivial⟩,h⟩
 ·cases h
def ap.lh8027 (F:Nat) (bw:Sl->Hp->OA) (bi:Int->Sl->Hp->OA) (bx:Int->Sl->Hp->OA) (ks:List Nat) (n:Nat) (tm:Tm) (H:Hp):OA:=match ks,tm 4,tm 6,tm 7,tm 9,tm 37,tm 38,tm 39,tm 44,tm 45,tm 46 with
 | [f_],(.ptr fb gD),(.int .i64 dF),(.ptr eK fZ),(.ptr fc gF),(.sl gE),(.int .i64 eo),(.int .i64 er),(.sl gG),(.int .i64 es),(.int .i64 dn)=>ap.l8027 F bw bi bx (ap.l125 F bw bi bx f_) n fb gD dF eK fZ gE eo er fc gF gG es dn H
 | _,_,_,_,_,_,_,_,_,_,_=>none
theorem ap.lh8027_inv {F:Nat} {bw:Sl->Hp->OA} {bi:Int->Sl->Hp->OA} {bx:Int->Sl->Hp->OA} {ks:List Nat} {n:Nat} {tm:Tm} {H:Hp} {r:AV×Hp} (h:ap.lh8027 F bw bi bx ks n tm H=some r):∃ f_ fb gD dF eK fZ fc gF gE eo er gG es dn,ks=[f_]/\dh tm [(4,(.ptr fb gD)),(6,(.int .i64 dF)),(7,(.ptr eK fZ)),(9,(.ptr fc gF)),(37,(.sl gE)),(38,(.int .i64 eo)),(39,(.int .i64 er)),(44,(.sl gG)),(45,(.int .i64 es)),(46,(.int .i64 dn))]/\ap.l8027 F bw bi bx (ap.l125 F bw bi bx f_) n fb gD dF eK fZ gE eo er fc gF gG es dn H=some r:=by
 unfold ap.lh8027 at h
 split at h
 ·exact ⟨_,_,_,_,_,_,_,_,_,_,_,_,_,_,rfl,⟨‹_›,‹_›,‹_›,‹_›,‹_›,‹_›,‹_›,‹_›,‹_›,‹_›,trivial⟩,h⟩
 ·cases h
def ap.lh (F:Nat) (bw:Sl->Hp->OA) (bi:Int->Sl->Hp->OA) (bx:Int->Sl->Hp->OA) (p:Nat) (ks:List Nat) (n:Nat) (tm:Tm) (H:Hp):OA:=bif p.beq 8027 then ap.lh8027 F bw bi bx ks n tm H else (bif p.beq 125 then ap.lh125 F bw bi bx ks n tm H else (none))
def ap.pn:Nat->List Nat:=eC [(4,[13])]
def ap.tb:Nat->List (List Nat):=eC [(4,[[],[],[1],[],[1,2,3],[],[1,2,3,4,5],[],[1,2,3,4,5,6,7],[1,2,3,4,5,6,7,8],[1,2,3,4,5,6,7,8,9],[0,1,2,3,4,5,6,7,8,9,10],[],[0,1,2,3,4,5,6,7,8,9,10,11,12]])]
def ap.mk (g:Int->Sl->Int->Sl->Hp->OA) (args:List AV) (H:Hp):OA:=match args with
 | [(.agg [(.int .i64 aa),(.sl ak)]),(.agg [(.int .i64 ai),(.sl br)])]=>g aa ak ai br H
 | _=>none
def ap.cs (F:Nat) (bw:Sl->Hp->OA) (bi:Int->Sl->Hp->OA) (bx:Int->Sl->Hp->OA):Cs:=[(201,bP.mk bw),(202,bp.mk bi),(203,bS.mk bx)]
theorem ap.loops (F:Nat) (bw:Sl->Hp->OA) (bi:Int->Sl->Hp->OA) (bx:Int->Sl->Hp->OA):LO (aR (ap.cs F bw bi bx)) ap.pn (ap.lh F bw bi bx) F Try.f182:=
 (af.rt (af.rt (af.rt (af.rt (af.lt (af.rt (af.block (af.loop (λtm H=>dA λr h=>by obtain ⟨fd,gH,eL,fe,gI,gJ,et,dV,hks,e,h⟩:=ap.lh125_inv (show ap.lh125 F bw bi bx [] 0 tm H=some r from h);cases h) (λk125 tm H r h=>by obtain ⟨fd,gH,eL,fe,gI,gJ,et,dV,hks,e,h⟩:=ap.lh125_inv (show ap.lh125 F bw bi bx [] (k125+1) tm H=some r from h);rw [<- dx e];exact Eq.trans (by kernel_rfl) h) λk125=>(af.rt (af.rt (af.lt (af.block (af.rt (af.rt (af.block (af.loop (λtm H=>dA λr h=>by obtain ⟨f_,fb,gD,dF,eK,fZ,fc,gF,gE,eo,er,gG,es,dn,hks,e,h⟩:=ap.lh8027_inv (show ap.lh8027 F bw bi bx [k125] 0 tm H=some r from h);cases h) (λk8027 tm H r h=>by obtain ⟨f_,fb,gD,dF,eK,fZ,fc,gF,gE,eo,er,gG,es,dn,hks,e,h⟩:=ap.lh8027_inv (show ap.lh8027 F bw bi bx [k125] (k8027+1) tm H=some r from h);cases hks;rw [<- dx e];exact Eq.trans (by kernel_rfl) h) λk8027=>af.no))))))))))))))))
theorem ap.eqX (F:Nat) (bw:Sl->Hp->OA) (bi:Int->Sl->Hp->OA) (bx:Int->Sl->Hp->OA) (aa:Int) (ak:Sl) (ai:Int) (br:Sl) (H:Hp):EX (aR (ap.cs F bw bi bx)) ap.pn (ap.lh F bw bi bx) F Try.f182 [(.agg [(.int .i64 aa),(.sl ak)]),(.agg [(.int .i64 ai),(.sl br)])] H=ap.twX F bw bi bx aa ak ai br H:=by kernel_rfl
theorem ap.k (F:Nat):Ok Try.prog 182 (ap.mk (ap.tw F)):=by
 intro args H v H' h
 unfold ap.mk at h
 split at h
 ·exact okT (TB:=ap.tb) Try.func182 (aS (bP.k F) (aS (bp.k F) (aS (bS.k F) bk))) (ap.loops F (bP.tw F) (bp.tw F) (bS.tw F)) ((ap.eqX F (bP.tw F) (bp.tw F) (bS.tw F) _ _ _ _ H).trans h) (by kernel_rfl)
 ·cases h
def bH.twX (F:Nat) (js:Int->Sl->Int->Sl->Hp->OA) (aa:Int) (ak:Sl) (ai:Int) (br:Sl) (H:Hp):OA:=(Hp.new H [(.int .i64 aa),(.sl ak)]).bind λH5=>(Hp.new H5 [(.int .i64 ai),(.sl br)]).bind λH6=>(Hp.new H6 [.int .i64 0,.sl ⟨none,0,.ex 0⟩]).bind λH7=>(Hp.ldI H7 .i64 H.length 0).bind λn8=>(Hp.ldSl H7 H.length (0+1)).bind λs9=>(Hp.ldI H7 .i64 H5.length 0).bind λn10=>(Hp.ldSl H7 H5.length (0+1)).bind λs11=>(js n8 s9 n10 s11 H7).bind λr12=>((r12.1).asTup 2).bind λl13=>(l13[0]?).bind λv14=>((v14).asAgg 2).bind λl15=>(l15[0]?).bind λv16=>((v16).asI .i64).bind λn17=>(l15[1]?).bind λv18=>((v18).asSl).bind λs19=>(l13[1]?).bind λv20=>((v20).asI .i64).bind λn21=>(Hp.new r12.2 [.int .i64 0,.sl ⟨none,0,.ex 0⟩]).bind λH22=>(Hp.st H22 r12.2.length 0 (.int .i64 n17)).bind λH23=>(Hp.st H23 r12.2.length (0+1) (.sl s19)).bind λH24=>(Hp.ldI H24 .i64 r12.2.length 0).bind λn25=>(Hp.ldSl H24 r12.2.length (0+1)).bind λs26=>(Hp.st H24 H6.length 0 (.int .i64 n25)).bind λH27=>(Hp.st H27 H6.length (0+1) (.sl s26)).bind λH28=>(Hp.ldI H28 .i64 H6.length 0).bind λn29=>(Hp.ldSl H28 H6.length (0+1)).bind λs30=>some ((.agg [(.int .i64 n29),(.sl s30)]),H28)
def bH.tw (F:Nat) (aa:Int) (ak:Sl) (ai:Int) (br:Sl) (H:Hp):OA:=bH.twX F (ap.tw F) aa ak ai br H
def bH.mk (g:Int->Sl->Int->Sl->Hp->OA) (args:List AV) (H:Hp):OA:=match args with
 | [(.agg [(.int .i64 aa),(.sl ak)]),(.agg [(.int .i64 ai),(.sl br)])]=>g aa ak ai br H
 | _=>none
def bH.cs (F:Nat) (js:Int->Sl->Int->Sl->Hp->OA):Cs:=[(182,ap.mk js)]
theorem bH.eqX (F:Nat) (js:Int->Sl->Int->Sl->Hp->OA) (aa:Int) (ak:Sl) (ai:Int) (br:Sl) (H:Hp):EX (aR (bH.cs F js)) aG lh0 F Try.f144 [(.agg [(.int .i64 aa),(.sl ak)]),(.agg [(.int .i64 ai),(.sl br)])] H=bH.twX F js aa ak ai br H:=by kernel_rfl
theorem bH.k (F:Nat):Ok Try.prog 144 (bH.mk (bH.tw F)):=by
 intro args H v H' h
 unfold bH.mk at h
 split at h
 ·exact okT (TB:=aG) Try.func144 (aS (ap.k F) bk) af.no ((bH.eqX F (ap.tw F) _ _ _ _ H).trans h) (by kernel_rfl)
 ·cases h
def bT.twX (F:Nat) (aa:Int) (H:Hp):OA:=(bif (decide (aa<0)) then (some ((.int .i64 (-1)),H)) else (some ((.int .i64 1),H)))
def bT.tw (F:Nat) (aa:Int) (H:Hp):OA:=bT.twX F aa H
def bT.mk (g:Int->Hp->OA) (args:List AV) (H:Hp):OA:=match args with
 | [(.int .i64 aa)]=>g aa H
 | _=>none
theorem bT.eqX (F:Nat) (aa:Int) (H:Hp):EX (aR []) aG lh0 F Try.f146 [(.int .i64 aa)] H=bT.twX F aa H:=by kernel_rfl
theorem bT.k (F:Nat):Ok Try.prog 146 (bT.mk (bT.tw F)):=by
 intro args H v H' h
 unfold bT.mk at h
 split at h
 ·exact okT (TB:=aG) Try.func146 bk af.no ((bT.eqX F _ H).trans h) (by kernel_rfl)
 ·cases h
def aw.j4 (F:Nat) (ch:Int->Int->Hp->OA) (ci:Int->Sl->Int->Sl->Hp->OA) (cj:Int->Hp->OA) (C61_:Int->Nat->Nat->Nat->Nat->Int->Sl->Int->Int->Hp->OA) (jt:Int) (lO:Nat) (xi:Nat) (lP:Nat) (xj:Nat) (ju:Int) (jv:Int) (xk:Sl) (jw:Int) (jx:Int) (H139:Hp):OA:=(cj jv H139).bind λr140=>((r140.1).asI .i64).bind λn141=>C61_ jt lO xi lP xj (IntKind.i64.wrap (ju+n141)) xk jw (IntKind.i64.wrap (jx+1)) r140.2
def aw.j5 (F:Nat) (ch:Int->Int->Hp->OA) (ci:Int->Sl->Int->Sl->Hp->OA) (cj:Int->Hp->OA) (C61_:Int->Nat->Nat->Nat->Nat->Int->Sl->Int->Int->Hp->OA) (jy:Int) (lQ:Nat) (xl:Nat) (lR:Nat) (xm:Nat) (jz:Int) (jA:Int) (xn:Sl) (jB:Int) (jC:Int) (H189:Hp):OA:=(cj jA H189).bind λr190=>((r190.1).asI .i64).bind λn191=>C61_ jy lQ xl lR xm (IntKind.i64.wrap (jz+n191)) xn jB (IntKind.i64.wrap (jC+1)) r190.2
def aw.j6 (F:Nat) (ch:Int->Int->Hp->OA) (ci:Int->Sl->Int->Sl->Hp->OA) (cj:Int->Hp->OA) (C61_:Int->Nat->Nat->Nat->Nat->Int->Sl->Int->Int->Hp->OA) (jD:Int) (lS:Nat) (xo:Nat) (lT:Nat) (xp:Nat) (jE:Int) (jF:Int) (xq:Sl) (jG:Int) (jH:Int) (H173:Hp):OA:=aw.j5 F ch ci cj C61_ jD lS xo lT xp jE jF xq jG jH H173
def aw.l61 (F:Nat) (ch:Int->Int->Hp->OA) (ci:Int->Sl->Int->Sl->Hp->OA) (cj:Int->Hp->OA) :Nat->Int->Nat->Nat->Nat->Nat->Int->Sl->Int->Int->Hp->OA
 | 0,_,_,_,_,_,_,_,_,_,_=>none
 | jI+1,dp,cD,eM,db,dG,dq,fE,dH,dr,H15=>(bif (decide (dr<dH)) then ((Sl.idx fE dr 1).bind λp107=>(Hp.ldI H15 .i64 p107.1 p107.2).bind λn108=>(bif (n108 == dp) then ((Hp.ldI H15 .i64 db dG).bind λn109=>(Hp.ldSl H15 db (dG+1)).bind λs110=>(ch 1 dq H15).bind λr111=>((r111.1).asAgg 2).bind λl112=>(l112[0]?).bind λv113=>((v113).asI .i64).bind λn114=>(l112[1]?).bind λv115=>((v115).asSl).bind λs116=>(if aI H15 r111.2 then ((ci n109 s110 n114 s116 r111.2).bind λr117=>((r117.1).asAgg 2).bind λl118=>(l118[0]?).bind λv119=>((v119).asI .i64).bind λn120=>(l118[1]?).bind λv121=>((v121).asSl).bind λs122=>(Hp.st r117.2 db dG (.int .i64 n120)).bind λH123=>(Hp.st H123 db (dG+1) (.sl s122)).bind λH124=>aw.j4 F ch ci cj (aw.l61 F ch ci cj jI) dp cD eM db dG dq n108 fE dH dr H124) else none)) else ((bif (n108 == (IntKind.i64.wrap (0 - dp))) then ((Hp.ldI H15 .i64 db dG).bind λn142=>(Hp.ldSl H15 db (dG+1)).bind λs143=>(ch (-1) (IntKind.i64.wrap (dq - 1)) H15).bind λr144=>((r144.1).asAgg 2).bind λl145=>(l145[0]?).bind λv146=>((v146).asI .i64).bind λn147=>(l145[1]?).bind λv148=>((v148).asSl).bind λs149=>(if aI H15 r144.2 then ((ci n142 s143 n147 s149 r144.2).bind λr150=>((r150.1).asAgg 2).bind λl151=>(l151[0]?).bind λv152=>((v152).asI .i64).bind λn153=>(l151[1]?).bind λv154=>((v154).asSl).bind λs155=>(Hp.st r150.2 db dG (.int .i64 n153)).bind λH156=>(Hp.st H156 db (dG+1) (.sl s155)).bind λH157=>aw.j6 F ch ci cj (aw.l61 F ch ci cj jI) dp cD eM db dG dq n108 fE dH dr H157) else none)) else (aw.j6 F ch ci cj (aw.l61 F ch ci cj jI) dp cD eM db dG dq n108 fE dH dr H15))))) else ((Hp.ldI H15 .i64 db dG).bind λn192=>(Hp.ldSl H15 db (dG+1)).bind λs193=>(Hp.st H15 cD eM (.int .i64 n192)).bind λH194=>(Hp.st H194 cD (eM+1) (.sl s193)).bind λH195=>(Hp.ldI H195 .i64 cD eM).bind λn196=>(Hp.ldSl H195 cD (eM+1)).bind λs197=>some ((.agg [(.int .i64 n196),(.sl s197)]),H195)))
termination_by structural n=>n
def aw.twX (F:Nat) (ch:Int->Int->Hp->OA) (ci:Int->Sl->Int->Sl->Hp->OA) (cj:Int->Hp->OA) (aa:Sl) (ah:Int) (H:Hp):OA:=(Hp.new H [.int .i64 0,.sl ⟨none,0,.ex 0⟩]).bind λH3=>(Hp.new H3 [.int .i64 0,.sl ⟨none,0,.ex 0⟩]).bind λH4=>aw.l61 F ch ci cj F ah H.length 0 H3.length 0 0 aa (aa.n:Int) 0 H4
def aw.tw (F:Nat) (aa:Sl) (ah:Int) (H:Hp):OA:=aw.twX F (bG.tw F) (bH.tw F) (bT.tw F) aa ah H
def aw.lh61 (F:Nat) (ch:Int->Int->Hp->OA) (ci:Int->Sl->Int->Sl->Hp->OA) (cj:Int->Hp->OA) (ks:List Nat) (n:Nat) (tm:Tm) (H:Hp):OA:=match ks,tm 1,tm 4,tm 5,tm 6,tm 9,tm 10,tm 11 with
 | [],(.int .i64 dp),(.ptr cD eM),(.ptr db dG),(.int .i64 dq),(.sl fE),(.int .i64 dH),(.int .i64 dr)=>aw.l61 F ch ci cj n dp cD eM db dG dq fE dH dr H
 | _,_,_,_,_,_,_,_=>none
theorem aw.lh61_inv {F:Nat} {ch:Int->Int->Hp->OA} {ci:Int->Sl->Int->Sl->Hp->OA} {cj:Int->Hp->OA} {ks:List Nat} {n:Nat} {tm:Tm} {H:Hp} {r:AV×Hp} (h:aw.lh61 F ch ci cj ks n tm H=some r):∃ dp cD eM db dG dq fE dH dr,ks=[]/\dh tm [(1,(.int .i64 dp)),(4,(.ptr cD eM)),(5,(.ptr db dG)),(6,(.int .i64 dq)),(9,(.sl fE)),(10,(.int .i64 dH)),(11,(.int .i64 dr))]/\aw.l61 F ch ci cj n dp cD eM db dG dq fE dH dr H=some r:=by
 unfold aw.lh61 at h
 split at h
 ·exact ⟨_,_,_,_,_,_,_,_,_,rfl,⟨‹_›,‹_›,‹_›,‹_›,‹_›,‹_›,‹_›,trivial⟩,h⟩
 ·cases h
def aw.lh (F:Nat) (ch:Int->Int->Hp->OA) (ci:Int->Sl->Int->Sl->Hp->OA) (cj:Int->Hp->OA) (p:Nat) (ks:List Nat) (n:Nat) (tm:Tm) (H:Hp):OA:=bif p.beq 61 then aw.lh61 F ch ci cj ks n tm H else (none)
def aw.pn:Nat->List Nat:=eC [(8,[3,4]),(10,[4,5])]
def aw.tb:Nat->List (List Nat):=eC [(8,[[],[],[1],[0,1,2],[0,1,2,3]]),(10,[[],[],[1],[1,2],[0,1,2,3],[0,1,2,3,4]])]
def aw.mk (g:Sl->Int->Hp->OA) (args:List AV) (H:Hp):OA:=match args with
 | [(.sl aa),(.int .i64 ah)]=>g aa ah H
 | _=>none
def aw.cs (F:Nat) (ch:Int->Int->Hp->OA) (ci:Int->Sl->Int->Sl->Hp->OA) (cj:Int->Hp->OA):Cs:=[(145,bG.mk ch),(144,bH.mk ci),(146,bT.mk cj)]
theorem aw.loops (F:Nat) (ch:Int->Int->Hp->OA) (ci:Int->Sl->Int->Sl->Hp->OA) (cj:Int->Hp->OA):LO (aR (aw.cs F ch ci cj)) aw.pn (aw.lh F ch ci cj) F Try.f88:=
 (af.rt (af.rt (af.rt (af.lt (af.rt (af.block (af.loop (λtm H=>dA λr h=>by obtain ⟨dp,cD,eM,db,dG,dq,fE,dH,dr,hks,e,h⟩:=aw.lh61_inv (show aw.lh61 F ch ci cj [] 0 tm H=some r from h);cases h) (λk61 tm H r h=>by obtain ⟨dp,cD,eM,db,dG,dq,fE,dH,dr,hks,e,h⟩:=aw.lh61_inv (show aw.lh61 F ch ci cj [] (k61+1) tm H=some r from h);rw [<- dx e];exact Eq.trans (by kernel_rfl) h) λk61=>af.no)))))))
theorem aw.eqX (F:Nat) (ch:Int->Int->Hp->OA) (ci:Int->Sl->Int->Sl->Hp->OA) (cj:Int->Hp->OA) (aa:Sl) (ah:Int) (H:Hp):EX (aR (aw.cs F ch ci cj)) aw.pn (aw.lh F ch ci cj) F Try.f88 [(.sl aa),(.int .i64 ah)] H=aw.twX F ch ci cj aa ah H:=by kernel_rfl
theorem aw.k (F:Nat):Ok Try.prog 88 (aw.mk (aw.tw F)):=by
 intro args H v H' h
 unfold aw.mk at h
 split at h
 ·exact okT (TB:=aw.tb) Try.func88 (aS (bG.k F) (aS (bH.k F) (aS (bT.k F) bk))) (aw.loops F (bG.tw F) (bH.tw F) (bT.tw F)) ((aw.eqX F (bG.tw F) (bH.tw F) (bT.tw F) _ _ H).trans h) (by kernel_rfl)
 ·cases h
def bz.twX (F:Nat) (jJ:Sl->Hp->OA) (e_:Int->Int->Int->Hp->OA) (jK:Sl->Int->Hp->OA) (aa:Sl) (ah:Int) (H:Hp):OA:=(Hp.new H [.int .i64 0,.sl ⟨none,0,.ex 0⟩]).bind λH3=>(jJ aa H3).bind λr4=>((r4.1).asB).bind λb5=>(bif (!b5) then ((Hp.st r4.2 H.length 0 (.int .i64 0)).bind λH6=>(Hp.st H6 H.length (0+1) (.sl (⟨none,0,.ex 0⟩:Sl))).bind λH7=>(Hp.ldI H7 .i64 H.length 0).bind λn8=>(Hp.ldSl H7 H.length (0+1)).bind λs9=>some ((.tup [(.agg [(.int .i64 n8),(.sl s9)]),(.int .i64 1)]),H7)) else ((e_ ah 1 24 r4.2).bind λr10=>((r10.1).asB).bind λb11=>(bif (!b11) then ((Hp.st r10.2 H.length 0 (.int .i64 0)).bind λH12=>(Hp.st H12 H.length (0+1) (.sl (⟨none,0,.ex 0⟩:Sl))).bind λH13=>(Hp.ldI H13 .i64 H.length 0).bind λn14=>(Hp.ldSl H13 H.length (0+1)).bind λs15=>some ((.tup [(.agg [(.int .i64 n14),(.sl s15)]),(.int .i64 2)]),H13)) else ((jK aa ah r10.2).bind λr16=>((r16.1).asAgg 2).bind λl17=>(l17[0]?).bind λv18=>((v18).asI .i64).bind λn19=>(l17[1]?).bind λv20=>((v20).asSl).bind λs21=>(Hp.st r16.2 H.length 0 (.int .i64 n19)).bind λH22=>(Hp.st H22 H.length (0+1) (.sl s21)).bind λH23=>(Hp.ldI H23 .i64 H.length 0).bind λn24=>(Hp.ldSl H23 H.length (0+1)).bind λs25=>some ((.tup [(.agg [(.int .i64 n24),(.sl s25)]),(.int .i64 0)]),H23)))))
def bz.tw (F:Nat) (aa:Sl) (ah:Int) (H:Hp):OA:=bz.twX F (cC.tw F) (bY.tw F) (aw.tw F) aa ah H
def bz.mk (g:Sl->Int->Hp->OA) (args:List AV) (H:Hp):OA:=match args with
 | [(.sl aa),(.int .i64 ah)]=>g aa ah H
 | _=>none
def bz.cs (F:Nat) (jJ:Sl->Hp->OA) (e_:Int->Int->Int->Hp->OA) (jK:Sl->Int->Hp->OA):Cs:=[(87,cC.mk jJ),(73,bY.mk e_),(88,aw.mk jK)]
theorem bz.eqX (F:Nat) (jJ:Sl->Hp->OA) (e_:Int->Int->Int->Hp->OA) (jK:Sl->Int->Hp->OA) (aa:Sl) (ah:Int) (H:Hp):EX (aR (bz.cs F jJ e_ jK)) aG lh0 F Try.f21 [(.sl aa),(.int .i64 ah)] H=bz.twX F jJ e_ jK aa ah H:=by kernel_rfl
theorem bz.k (F:Nat):Ok Try.prog 21 (bz.mk (bz.tw F)):=by
 intro args H v H' h
 unfold bz.mk at h
 split at h
 ·exact okT (TB:=aG) Try.func21 (aS (cC.k F) (aS (bY.k F) (aS (aw.k F) bk))) af.no ((bz.eqX F (cC.tw F) (bY.tw F) (aw.tw F) _ _ H).trans h) (by kernel_rfl)
 ·cases h
def aL.l125 (F:Nat) (aY:Int->Int->Int->Hp->OA) :Nat->Nat->Nat->Int->Hp->OA
 | 0,_,_,_,_=>none
 | f_+1,eN,ga,cE,H25=>(Hp.ldSl H25 eN (ga+1)).bind λs32=>(bif (decide (cE<(s32.n:Int))) then ((Hp.ldSl H25 eN (ga+1)).bind λs33=>(Sl.idx s33 cE 1).bind λp34=>(Hp.ldI H25 .i64 p34.1 p34.2).bind λn35=>(aY n35 (-1000000000000) 1000000000000 H25).bind λr36=>((r36.1).asB).bind λb37=>(bif (!b37) then (some ((.bool false),r36.2)) else (aL.l125 F aY f_ eN ga (IntKind.i64.wrap (cE+1)) r36.2))) else (some ((.bool true),H25)))
termination_by structural n=>n
def aL.twX (F:Nat) (aY:Int->Int->Int->Hp->OA) (aa:Int) (ak:Sl) (H:Hp):OA:=(Hp.new H [(.int .i64 aa),(.sl ak)]).bind λH3=>(Hp.ldSl H3 H.length 1).bind λs4=>(bif ((s4.n:Int) == 0) then ((Hp.ldI H3 .i64 H.length 0).bind λn5=>some ((.bool (n5 == 0)),H3)) else ((bif (decide ((s4.n:Int)>160)) then (some ((.bool false),H3)) else ((Hp.ldI H3 .i64 H.length 0).bind λn6=>(aY n6 (-240) 240 H3).bind λr7=>((r7.1).asB).bind λb8=>(bif (!b8) then (some ((.bool false),r7.2)) else ((Hp.ldI r7.2 .i64 H.length 0).bind λn9=>(bif (decide ((IntKind.i64.wrap ((IntKind.i64.wrap (n9+(s4.n:Int))) - 1))>240)) then (some ((.bool false),r7.2)) else ((Hp.ldSl r7.2 H.length 1).bind λs10=>(Sl.idx s10 0 1).bind λp11=>(Hp.ldI r7.2 .i64 p11.1 p11.2).bind λn12=>(bif (n12 == 0) then (some ((.bool false),r7.2)) else ((Hp.ldSl r7.2 H.length 1).bind λs13=>(Sl.idx s13 (IntKind.i64.wrap ((s4.n:Int) - 1)) 1).bind λp14=>(Hp.ldI r7.2 .i64 p14.1 p14.2).bind λn15=>(bif (n15 == 0) then (some ((.bool false),r7.2)) else (aL.l125 F aY F H.length 0 0 r7.2))))))))))))
def aL.tw (F:Nat) (aa:Int) (ak:Sl) (H:Hp):OA:=aL.twX F (bf.tw F) aa ak H
def aL.lh125 (F:Nat) (aY:Int->Int->Int->Hp->OA) (ks:List Nat) (n:Nat) (tm:Tm) (H:Hp):OA:=match ks,tm 1,tm 4 with
 | [],(.ptr eN ga),(.int .i64 cE)=>aL.l125 F aY n eN ga cE H
 | _,_,_=>none
theorem aL.lh125_inv {F:Nat} {aY:Int->Int->Int->Hp->OA} {ks:List Nat} {n:Nat} {tm:Tm} {H:Hp} {r:AV×Hp} (h:aL.lh125 F aY ks n tm H=some r):∃ eN ga cE,ks=[]/\dh tm [(1,(.ptr eN ga)),(4,(.int .i64 cE))]/\aL.l125 F aY n eN ga cE H=some r:=by
 unfold aL.lh125 at h
 split at h
 ·exact ⟨_,_,_,rfl,⟨‹_›,‹_›,trivial⟩,h⟩
 ·cases h
def aL.lh (F:Nat) (aY:Int->Int->Int->Hp->OA) (p:Nat) (ks:List Nat) (n:Nat) (tm:Tm) (H:Hp):OA:=bif p.beq 125 then aL.lh125 F aY ks n tm H else (none)
def aL.mk (g:Int->Sl->Hp->OA) (args:List AV) (H:Hp):OA:=match args with
 | [(.agg [(.int .i64 aa),(.sl ak)])]=>g aa ak H
 | _=>none
def aL.cs (F:Nat) (aY:Int->Int->Int->Hp->OA):Cs:=[(79,bf.mk aY)]
theorem aL.loops (F:Nat) (aY:Int->Int->Int->Hp->OA):LO (aR (aL.cs F aY)) aG (aL.lh F aY) F Try.f98:=
 (af.rt (af.rt (af.rt (af.rt (af.lt (af.rt (af.block (af.loop (λtm H=>dA λr h=>by obtain ⟨eN,ga,cE,hks,e,h⟩:=aL.lh125_inv (show aL.lh125 F aY [] 0 tm H=some r from h);cases h) (λk125 tm H r h=>by obtain ⟨eN,ga,cE,hks,e,h⟩:=aL.lh125_inv (show aL.lh125 F aY [] (k125+1) tm H=some r from h);rw [<- dx e];exact Eq.trans (by kernel_rfl) h) λk125=>af.no))))))))
theorem aL.eqX (F:Nat) (aY:Int->Int->Int->Hp->OA) (aa:Int) (ak:Sl) (H:Hp):EX (aR (aL.cs F aY)) aG (aL.lh F aY) F Try.f98 [(.agg [(.int .i64 aa),(.sl ak)])] H=aL.twX F aY aa ak H:=by kernel_rfl
theorem aL.k (F:Nat):Ok Try.prog 98 (aL.mk (aL.tw F)):=by
 intro args H v H' h
 unfold aL.mk at h
 split at h
 ·exact okT (TB:=aG) Try.func98 (aS (bf.k F) bk) (aL.loops F (bf.tw F)) ((aL.eqX F (bf.tw F) _ _ H).trans h) (by kernel_rfl)
 ·cases h
def ar.j1 (F:Nat) (jL:Int) (xr:Sl) (fF:Nat) (hN:Nat) (gc:Int) (hO:Int) (H39:Hp):OA:=(bif (gc == hO) then ((Hp.st H39 fF hN (.int .i64 0)).bind λH40=>(Hp.st H40 fF (hN+1) (.sl (⟨none,0,.ex 0⟩:Sl))).bind λH41=>(Hp.ldI H41 .i64 fF hN).bind λn42=>(Hp.ldSl H41 fF (hN+1)).bind λs43=>some ((.agg [(.int .i64 n42),(.sl s43)]),H41)) else ((Hp.new H39 []).bind λH44=>(Sl.cut xr 1 gc hO).bind λs45=>(Sl.row H44 s45 1).bind λxs47=>(Hp.app H44 1 8 (⟨some (H39.length,0),0,.ex 0⟩:Sl) s45.n xs47).bind λa46=>(Hp.st a46.2 fF hN (.int .i64 (IntKind.i64.wrap (jL+gc)))).bind λH48=>(Hp.st H48 fF (hN+1) (.sl a46.1)).bind λH49=>(Hp.ldI H49 .i64 fF hN).bind λn50=>(Hp.ldSl H49 fF (hN+1)).bind λs51=>some ((.agg [(.int .i64 n50),(.sl s51)]),H49)))
def ar.l30 (F:Nat) :Nat->Int->Sl->Nat->Nat->Int->Int->Hp->OA
 | 0,_,_,_,_,_,_,_=>none
 | xt+1,dW,fG,eO,cE,dI,dt,H28=>(bif (decide (dI<dt)) then ((Sl.idx fG (IntKind.i64.wrap (dt - 1)) 1).bind λp52=>(Hp.ldI H28 .i64 p52.1 p52.2).bind λn53=>(bif (n53 == 0) then (ar.l30 F xt dW fG eO cE dI (IntKind.i64.wrap (dt - 1)) H28) else (ar.j1 F dW fG eO cE dI dt H28))) else (ar.j1 F dW fG eO cE dI dt H28))
termination_by structural n=>n
def ar.j2 (F:Nat) (jM:Int) (xu:Sl) (lU:Nat) (xv:Nat) (jN:Int) (jO:Int) (H20:Hp):OA:=ar.l30 F F jM xu lU xv jN jO H20
def ar.l14 (F:Nat) :Nat->Int->Sl->Nat->Nat->Int->Int->Hp->OA
 | 0,_,_,_,_,_,_,_=>none
 | nI+1,cH,fH,bh,cD,du,dJ,H10=>(bif (decide (du<dJ)) then ((Sl.idx fH du 1).bind λp54=>(Hp.ldI H10 .i64 p54.1 p54.2).bind λn55=>(bif (n55 == 0) then (ar.l14 F nI cH fH bh cD (IntKind.i64.wrap (du+1)) dJ H10) else (ar.j2 F cH fH bh cD du dJ H10))) else (ar.j2 F cH fH bh cD du dJ H10))
termination_by structural n=>n
def ar.twX (F:Nat) (aa:Int) (ah:Sl) (H:Hp):OA:=(Hp.new H [.int .i64 0,.sl ⟨none,0,.ex 0⟩]).bind λH3=>ar.l14 F F aa ah H.length 0 0 (ah.n:Int) H3
def ar.tw (F:Nat) (aa:Int) (ah:Sl) (H:Hp):OA:=ar.twX F aa ah H
def ar.lh14 (F:Nat) (ks:List Nat) (n:Nat) (tm:Tm) (H:Hp):OA:=match ks,tm 0,tm 1,tm 4,tm 5,tm 6 with
 | [],(.int .i64 cH),(.sl fH),(.ptr bh cD),(.int .i64 du),(.int .i64 dJ)=>ar.l14 F n cH fH bh cD du dJ H
 | _,_,_,_,_,_=>none
theorem ar.lh14_inv {F:Nat} {ks:List Nat} {n:Nat} {tm:Tm} {H:Hp} {r:AV×Hp} (h:ar.lh14 F ks n tm H=some r):∃ cH fH bh cD du dJ,ks=[]/\dh tm [(0,(.int .i64 cH)),(1,(.sl fH)),(4,(.ptr bh cD)),(5,(.int .i64 du)),(6,(.int .i64 dJ))]/\ar.l14 F n cH fH bh cD du dJ H=some r:=by
 unfold ar.lh14 at h
 split at h
 ·exact ⟨_,_,_,_,_,_,rfl,⟨‹_›,‹_›,‹_›,‹_›,‹_›,trivial⟩,h⟩
 ·cases h
def ar.lh30 (F:Nat) (ks:List Nat) (n:Nat) (tm:Tm) (H:Hp):OA:=match ks,tm 0,tm 1,tm 4,tm 5,tm 6 with
 | [],(.int .i64 dW),(.sl fG),(.ptr eO cE),(.int .i64 dI),(.int .i64 dt)=>ar.l30 F n dW fG eO cE dI dt H
 | _,_,_,_,_,_=>none
theorem ar.lh30_inv {F:Nat} {ks:List Nat} {n:Nat} {tm:Tm} {H:Hp} {r:AV×Hp} (h:ar.lh30 F ks n tm H=some r):∃ dW fG eO cE dI dt,ks=[]/\dh tm [(0,(.int .i64 dW)),(1,(.sl fG)),(4,(.ptr eO cE)),(5,(.int .i64 dI)),(6,(.int .i64 dt))]/\ar.l30 F n dW fG eO cE dI dt H=some r:=by
 unfold ar.lh30 at h
 split at h
 ·exact ⟨_,_,_,_,_,_,rfl,⟨‹_›,‹_›,‹_›,‹_›,‹_›,trivial⟩,h⟩
 ·cases h
def ar.lh (F:Nat) (p:Nat) (ks:List Nat) (n:Nat) (tm:Tm) (H:Hp):OA:=bif p.beq 30 then ar.lh30 F ks n tm H else (bif p.beq 14 then ar.lh14 F ks n tm H else (none))
def ar.mk (g:Int->Sl->Hp->OA) (args:List AV) (H:Hp):OA:=match args with
 | [(.int .i64 aa),(.sl ah)]=>g aa ah H
 | _=>none
theorem ar.loops (F:Nat):LO (aR []) aG (ar.lh F) F Try.f100:=
 (af.rt (af.rt (af.seq (af.block (af.loop (λtm H=>dA λr h=>by obtain ⟨cH,fH,bh,cD,du,dJ,hks,e,h⟩:=ar.lh14_inv (show ar.lh14 F [] 0 tm H=some r from h);cases h) (λk14 tm H r h=>by obtain ⟨cH,fH,bh,cD,du,dJ,hks,e,h⟩:=ar.lh14_inv (show ar.lh14 F [] (k14+1) tm H=some r from h);rw [<- dx e];exact Eq.trans (by kernel_rfl) h) λk14=>af.no)) (af.lt (af.block (af.loop (λtm H=>dA λr h=>by obtain ⟨dW,fG,eO,cE,dI,dt,hks,e,h⟩:=ar.lh30_inv (show ar.lh30 F [] 0 tm H=some r from h);cases h) (λk30 tm H r h=>by obtain ⟨dW,fG,eO,cE,dI,dt,hks,e,h⟩:=ar.lh30_inv (show ar.lh30 F [] (k30+1) tm H=some r from h);rw [<- dx e];exact Eq.trans (by kernel_rfl) h) λk30=>af.no))))))
theorem ar.eqX (F:Nat) (aa:Int) (ah:Sl) (H:Hp):EX (aR []) aG (ar.lh F) F Try.f100 [(.int .i64 aa),(.sl ah)] H=ar.twX F aa ah H:=by kernel_rfl
theorem ar.k (F:Nat):Ok Try.prog 100 (ar.mk (ar.tw F)):=by
 intro args H v H' h
 unfold ar.mk at h
 split at h
 ·exact okT (TB:=aG) Try.func100 bk (ar.loops F) ((ar.eqX F _ _ H).trans h) (by kernel_rfl)
 ·cases h
def bQ.twX (F:Nat) (dy:Int->Sl->Hp->OA) (aa:Int) (ak:Sl) (H:Hp):OA:=(Hp.new H [(.int .i64 aa),(.sl ak)]).bind λH3=>(Hp.new H3 [.int .i64 0,.sl ⟨none,0,.ex 0⟩]).bind λH4=>(Hp.ldI H4 .i64 H.length 0).bind λn5=>(Hp.ldSl H4 H.length (0+1)).bind λs6=>(dy n5 s6 H4).bind λr7=>((r7.1).asB).bind λb8=>(bif (!b8) then ((Hp.st r7.2 H3.length 0 (.int .i64 0)).bind λH9=>(Hp.st H9 H3.length (0+1) (.sl (⟨none,0,.ex 0⟩:Sl))).bind λH10=>(Hp.ldI H10 .i64 H3.length 0).bind λn11=>(Hp.ldSl H10 H3.length (0+1)).bind λs12=>some ((.tup [(.agg [(.int .i64 n11),(.sl s12)]),(.int .i64 3)]),H10)) else ((Hp.ldI r7.2 .i64 H.length 0).bind λn13=>(Hp.ldSl r7.2 H.length (0+1)).bind λs14=>(Hp.st r7.2 H3.length 0 (.int .i64 n13)).bind λH15=>(Hp.st H15 H3.length (0+1) (.sl s14)).bind λH16=>(Hp.ldI H16 .i64 H3.length 0).bind λn17=>(Hp.ldSl H16 H3.length (0+1)).bind λs18=>some ((.tup [(.agg [(.int .i64 n17),(.sl s18)]),(.int .i64 0)]),H16)))
def bQ.tw (F:Nat) (aa:Int) (ak:Sl) (H:Hp):OA:=bQ.twX F (aL.tw F) aa ak H
def bQ.mk (g:Int->Sl->Hp->OA) (args:List AV) (H:Hp):OA:=match args with
 | [(.agg [(.int .i64 aa),(.sl ak)])]=>g aa ak H
 | _=>none
def bQ.cs (F:Nat) (dy:Int->Sl->Hp->OA):Cs:=[(98,aL.mk dy)]
theorem bQ.eqX (F:Nat) (dy:Int->Sl->Hp->OA) (aa:Int) (ak:Sl) (H:Hp):EX (aR (bQ.cs F dy)) aG lh0 F Try.f99 [(.agg [(.int .i64 aa),(.sl ak)])] H=bQ.twX F dy aa ak H:=by kernel_rfl
theorem bQ.k (F:Nat):Ok Try.prog 99 (bQ.mk (bQ.tw F)):=by
 intro args H v H' h
 unfold bQ.mk at h
 split at h
 ·exact okT (TB:=aG) Try.func99 (aS (aL.k F) bk) af.no ((bQ.eqX F (aL.tw F) _ _ H).trans h) (by kernel_rfl)
 ·cases h
def b_.twX (F:Nat) (dy:Int->Sl->Hp->OA) (aY:Int->Int->Int->Hp->OA) (bm:Int->Sl->Hp->OA) (ff:Int->Sl->Hp->OA) (aa:Int) (ak:Sl) (ai:Int) (H:Hp):OA:=(Hp.new H [(.int .i64 aa),(.sl ak)]).bind λH4=>(Hp.new H4 [.int .i64 0,.sl ⟨none,0,.ex 0⟩]).bind λH5=>(Hp.ldI H5 .i64 H.length 0).bind λn6=>(Hp.ldSl H5 H.length (0+1)).bind λs7=>(dy n6 s7 H5).bind λr8=>((r8.1).asB).bind λb9=>(bif (!b9) then ((Hp.st r8.2 H4.length 0 (.int .i64 0)).bind λH10=>(Hp.st H10 H4.length (0+1) (.sl (⟨none,0,.ex 0⟩:Sl))).bind λH11=>(Hp.ldI H11 .i64 H4.length 0).bind λn12=>(Hp.ldSl H11 H4.length (0+1)).bind λs13=>some ((.tup [(.agg [(.int .i64 n12),(.sl s13)]),(.int .i64 1)]),H11)) else ((aY ai (-480) 480 r8.2).bind λr14=>((r14.1).asB).bind λb15=>(bif (!b15) then ((Hp.st r14.2 H4.length 0 (.int .i64 0)).bind λH16=>(Hp.st H16 H4.length (0+1) (.sl (⟨none,0,.ex 0⟩:Sl))).bind λH17=>(Hp.ldI H17 .i64 H4.length 0).bind λn18=>(Hp.ldSl H17 H4.length (0+1)).bind λs19=>some ((.tup [(.agg [(.int .i64 n18),(.sl s19)]),(.int .i64 2)]),H17)) else ((Hp.ldI r14.2 .i64 H.length 0).bind λn20=>(Hp.ldSl r14.2 H.length 1).bind λs21=>(bm (IntKind.i64.wrap (n20+ai)) s21 r14.2).bind λr22=>((r22.1).asAgg 2).bind λl23=>(l23[0]?).bind λv24=>((v24).asI .i64).bind λn25=>(l23[1]?).bind λv26=>((v26).asSl).bind λs27=>(ff n25 s27 r22.2).bind λr28=>((r28.1).asTup 2).bind λl29=>(l29[0]?).bind λv30=>((v30).asAgg 2).bind λl31=>(l31[0]?).bind λv32=>((v32).asI .i64).bind λn33=>(l31[1]?).bind λv34=>((v34).asSl).bind λs35=>(l29[1]?).bind λv36=>((v36).asI .i64).bind λn37=>(Hp.st r28.2 H4.length 0 (.int .i64 n33)).bind λH38=>(Hp.st H38 H4.length (0+1) (.sl s35)).bind λH39=>(Hp.ldI H39 .i64 H4.length 0).bind λn40=>(Hp.ldSl H39 H4.length (0+1)).bind λs41=>some ((.tup [(.agg [(.int .i64 n40),(.sl s41)]),(.int .i64 n37)]),H39)))))
def b_.tw (F:Nat) (aa:Int) (ak:Sl) (ai:Int) (H:Hp):OA:=b_.twX F (aL.tw F) (bf.tw F) (ar.tw F) (bQ.tw F) aa ak ai H
def b_.mk (g:Int->Sl->Int->Hp->OA) (args:List AV) (H:Hp):OA:=match args with
 | [(.agg [(.int .i64 aa),(.sl ak)]),(.int .i64 ai)]=>g aa ak ai H
 | _=>none
def b_.cs (F:Nat) (dy:Int->Sl->Hp->OA) (aY:Int->Int->Int->Hp->OA) (bm:Int->Sl->Hp->OA) (ff:Int->Sl->Hp->OA):Cs:=[(98,aL.mk dy),(79,bf.mk aY),(100,ar.mk bm),(99,bQ.mk ff)]
theorem b_.eqX (F:Nat) (dy:Int->Sl->Hp->OA) (aY:Int->Int->Int->Hp->OA) (bm:Int->Sl->Hp->OA) (ff:Int->Sl->Hp->OA) (aa:Int) (ak:Sl) (ai:Int) (H:Hp):EX (aR (b_.cs F dy aY bm ff)) aG lh0 F Try.f37 [(.agg [(.int .i64 aa),(.sl ak)]),(.int .i64 ai)] H=b_.twX F dy aY bm ff aa ak ai H:=by kernel_rfl
theorem b_.k (F:Nat):Ok Try.prog 37 (b_.mk (b_.tw F)):=by
 intro args H v H' h
 unfold b_.mk at h
 split at h
 ·exact okT (TB:=aG) Try.func37 (aS (aL.k F) (aS (bf.k F) (aS (ar.k F) (aS (bQ.k F) bk)))) af.no ((b_.eqX F (aL.tw F) (bf.tw F) (ar.tw F) (bQ.tw F) _ _ _ H).trans h) (by kernel_rfl)
 ·cases h
def aq.j1 (F:Nat) (bm:Int->Sl->Hp->OA) (iA:Nat) (lV:Nat) (jP:Int) (xw:Sl) (H132:Hp):OA:=(bm jP xw H132).bind λr133=>((r133.1).asAgg 2).bind λl134=>(l134[0]?).bind λv135=>((v135).asI .i64).bind λn136=>(l134[1]?).bind λv137=>((v137).asSl).bind λs138=>(Hp.st r133.2 iA lV (.int .i64 n136)).bind λH139=>(Hp.st H139 iA (lV+1) (.sl s138)).bind λH140=>(Hp.ldI H140 .i64 iA lV).bind λn141=>(Hp.ldSl H140 iA (lV+1)).bind λs142=>some ((.agg [(.int .i64 n141),(.sl s142)]),H140)
def aq.l1021 (F:Nat) (bm:Int->Sl->Hp->OA) :Nat->Nat->Nat->Nat->Nat->Int->Sl->Int->Hp->OA
 | 0,_,_,_,_,_,_,_,_=>none
 | lW+1,ew,fI,fg,gK,dK,fJ,dv,H103=>(Hp.ldSl H103 ew (fI+1)).bind λs143=>(bif (decide (dv<(s143.n:Int))) then ((Hp.ldI H103 .i64 ew fI).bind λn144=>(Sl.idx fJ (IntKind.i64.wrap ((IntKind.i64.wrap (n144 - dK))+dv)) 1).bind λp145=>(Hp.ldI H103 .i64 p145.1 p145.2).bind λn146=>(Hp.ldSl H103 ew (fI+1)).bind λs147=>(Sl.idx s147 dv 1).bind λp148=>(Hp.ldI H103 .i64 p148.1 p148.2).bind λn149=>(Sl.idx fJ (IntKind.i64.wrap ((IntKind.i64.wrap (n144 - dK))+dv)) 1).bind λp150=>(Hp.st H103 p150.1 p150.2 (.int .i64 (IntKind.i64.wrap (n146+n149)))).bind λH151=>aq.l1021 F bm lW ew fI fg gK dK fJ (IntKind.i64.wrap (dv+1)) H151) else (aq.j1 F bm fg gK dK fJ H103))
termination_by structural n=>n
def aq.j2 (F:Nat) (bm:Int->Sl->Hp->OA) (lX:Nat) (xx:Nat) (lY:Nat) (xy:Nat) (jQ:Int) (xz:Sl) (H84:Hp):OA:=aq.l1021 F bm F lX xx lY xy jQ xz 0 H84
def aq.l509 (F:Nat) (bm:Int->Sl->Hp->OA) :Nat->Nat->Nat->Nat->Nat->Nat->Nat->Int->Sl->Int->Hp->OA
 | 0,_,_,_,_,_,_,_,_,_,_=>none
 | xA+1,ey,fK,fh,gL,fi,gM,dL,fL,dw,H57=>(Hp.ldSl H57 ey (fK+1)).bind λs152=>(bif (decide (dw<(s152.n:Int))) then ((Hp.ldI H57 .i64 ey fK).bind λn153=>(Sl.idx fL (IntKind.i64.wrap ((IntKind.i64.wrap (n153 - dL))+dw)) 1).bind λp154=>(Hp.ldI H57 .i64 p154.1 p154.2).bind λn155=>(Hp.ldSl H57 ey (fK+1)).bind λs156=>(Sl.idx s156 dw 1).bind λp157=>(Hp.ldI H57 .i64 p157.1 p157.2).bind λn158=>(Sl.idx fL (IntKind.i64.wrap ((IntKind.i64.wrap (n153 - dL))+dw)) 1).bind λp159=>(Hp.st H57 p159.1 p159.2 (.int .i64 (IntKind.i64.wrap (n155+n158)))).bind λH160=>aq.l509 F bm xA ey fK fh gL fi gM dL fL (IntKind.i64.wrap (dw+1)) H160) else (aq.j2 F bm fh gL fi gM dL fL H57))
termination_by structural n=>n
def aq.twX (F:Nat) (bm:Int->Sl->Hp->OA) (aa:Int) (ak:Sl) (ai:Int) (br:Sl) (H:Hp):OA:=(Hp.new H [(.int .i64 aa),(.sl ak)]).bind λH5=>(Hp.new H5 [(.int .i64 ai),(.sl br)]).bind λH6=>(Hp.new H6 [.int .i64 0,.sl ⟨none,0,.ex 0⟩]).bind λH7=>(Hp.ldSl H7 H.length 1).bind λs8=>(bif ((s8.n:Int) == 0) then ((Hp.ldI H7 .i64 H5.length 0).bind λn9=>(Hp.ldSl H7 H5.length 1).bind λs10=>(bm n9 s10 H7).bind λr11=>((r11.1).asAgg 2).bind λl12=>(l12[0]?).bind λv13=>((v13).asI .i64).bind λn14=>(l12[1]?).bind λv15=>((v15).asSl).bind λs16=>(Hp.st r11.2 H6.length 0 (.int .i64 n14)).bind λH17=>(Hp.st H17 H6.length (0+1) (.sl s16)).bind λH18=>(Hp.ldI H18 .i64 H6.length 0).bind λn19=>(Hp.ldSl H18 H6.length (0+1)).bind λs20=>some ((.agg [(.int .i64 n19),(.sl s20)]),H18)) else ((Hp.ldSl H7 H5.length 1).bind λs21=>(bif ((s21.n:Int) == 0) then ((Hp.ldI H7 .i64 H.length 0).bind λn22=>(Hp.ldSl H7 H.length 1).bind λs23=>(bm n22 s23 H7).bind λr24=>((r24.1).asAgg 2).bind λl25=>(l25[0]?).bind λv26=>((v26).asI .i64).bind λn27=>(l25[1]?).bind λv28=>((v28).asSl).bind λs29=>(Hp.st r24.2 H6.length 0 (.int .i64 n27)).bind λH30=>(Hp.st H30 H6.length (0+1) (.sl s29)).bind λH31=>(Hp.ldI H31 .i64 H6.length 0).bind λn32=>(Hp.ldSl H31 H6.length (0+1)).bind λs33=>some ((.agg [(.int .i64 n32),(.sl s33)]),H31)) else ((Hp.ldI H7 .i64 H.length 0).bind λn34=>(Hp.ldI H7 .i64 H5.length 0).bind λn35=>(Hp.ldI H7 .i64 H.length 0).bind λn36=>(Hp.ldSl H7 H.length 1).bind λs37=>(Hp.ldI H7 .i64 H5.length 0).bind λn38=>(Hp.ldSl H7 H5.length 1).bind λs39=>(Hp.mk H7 [.int .i64 0] 8 (IntKind.i64.wrap ((if (IntKind.i64.wrap (n38+(s39.n:Int)))>(IntKind.i64.wrap (n36+(s37.n:Int))) then (IntKind.i64.wrap (n38+(s39.n:Int))) else (IntKind.i64.wrap (n36+(s37.n:Int)))) - (if n35<n34 then n35 else n34))) (IntKind.i64.wrap ((if (IntKind.i64.wrap (n38+(s39.n:Int)))>(IntKind.i64.wrap (n36+(s37.n:Int))) then (IntKind.i64.wrap (n38+(s39.n:Int))) else (IntKind.i64.wrap (n36+(s37.n:Int)))) - (if n35<n34 then n35 else n34)))).bind λm40=>aq.l509 F bm F H.length 0 H5.length 0 H6.length 0 (if n35<n34 then n35 else n34) m40.1 0 m40.2))))
def aq.tw (F:Nat) (aa:Int) (ak:Sl) (ai:Int) (br:Sl) (H:Hp):OA:=aq.twX F (ar.tw F) aa ak ai br H
def aq.lh509 (F:Nat) (bm:Int->Sl->Hp->OA) (ks:List Nat) (n:Nat) (tm:Tm) (H:Hp):OA:=match ks,tm 2,tm 3,tm 4,tm 5,tm 7,tm 8 with
 | [],(.ptr ey fK),(.ptr fh gL),(.ptr fi gM),(.int .i64 dL),(.sl fL),(.int .i64 dw)=>aq.l509 F bm n ey fK fh gL fi gM dL fL dw H
 | _,_,_,_,_,_,_=>none
theorem aq.lh509_inv {F:Nat} {bm:Int->Sl->Hp->OA} {ks:List Nat} {n:Nat} {tm:Tm} {H:Hp} {r:AV×Hp} (h:aq.lh509 F bm ks n tm H=some r):∃ ey fK fh gL fi gM dL fL dw,ks=[]/\dh tm [(2,(.ptr ey fK)),(3,(.ptr fh gL)),(4,(.ptr fi gM)),(5,(.int .i64 dL)),(7,(.sl fL)),(8,(.int .i64 dw))]/\aq.l509 F bm n ey fK fh gL fi gM dL fL dw H=some r:=by
 unfold aq.lh509 at h
 split at h
 ·exact ⟨_,_,_,_,_,_,_,_,_,rfl,⟨‹_›,‹_›,‹_›,‹_›,‹_›,‹_›,trivial⟩,h⟩
 ·cases h
def aq.lh1021 (F:Nat) (bm:Int->Sl->Hp->OA) (ks:List Nat) (n:Nat) (tm:Tm) (H:Hp):OA:=match ks,tm 3,tm 4,tm 5,tm 7,tm 9 with
 | [],(.ptr ew fI),(.ptr fg gK),(.int .i64 dK),(.sl fJ),(.int .i64 dv)=>aq.l1021 F bm n ew fI fg gK dK fJ dv H
 | _,_,_,_,_,_=>none
theorem aq.lh1021_inv {F:Nat} {bm:Int->Sl->Hp->OA} {ks:List Nat} {n:Nat} {tm:Tm} {H:Hp} {r:AV×Hp} (h:aq.lh1021 F bm ks n tm H=some r):∃ ew fI fg gK dK fJ dv,ks=[]/\dh tm [(3,(.ptr ew fI)),(4,(.ptr fg gK)),(5,(.int .i64 dK)),(7,(.sl fJ)),(9,(.int .i64 dv))]/\aq.l1021 F bm n ew fI fg gK dK fJ dv H=some r:=by
 unfold aq.lh1021 at h
 split at h
 ·exact ⟨_,_,_,_,_,_,_,rfl,⟨‹_›,‹_›,‹_›,‹_›,‹_›,trivial⟩,h⟩
 ·cases h
def aq.lh (F:Nat) (bm:Int->Sl->Hp->OA) (p:Nat) (ks:List Nat) (n:Nat) (tm:Tm) (H:Hp):OA:=bif p.beq 1021 then aq.lh1021 F bm ks n tm H else (bif p.beq 509 then aq.lh509 F bm ks n tm H else (none))
def aq.pn:Nat->List Nat:=eC [(11,[16]),(15,[16])]
def aq.tb:Nat->List (List Nat):=eC [(11,[[],[],[1],[],[1,2,3],[],[1,2,3,4,5],[0,1,2,3,4,5,6],[0,1,2,3,4,5,6,7],[],[9],[],[9,10,11],[9,10,11,12],[0,1,2,3,4,5,6,7,8,9,10,11,12,13],[0,1,2,3,4,5,6,7,8,9,10,11,12,13,14],[0,1,2,3,4,5,6,7,8,9,10,11,12,13,14,15]]),(15,[[],[],[1],[],[1,2,3],[],[1,2,3,4,5],[0,1,2,3,4,5,6],[0,1,2,3,4,5,6,7],[],[9],[],[9,10,11],[9,10,11,12],[0,1,2,3,4,5,6,7,8,9,10,11,12,13],[0,1,2,3,4,5,6,7,8,9,10,11,12,13,14],[0,1,2,3,4,5,6,7,8,9,10,11,12,13,14,15]])]
def aq.mk (g:Int->Sl->Int->Sl->Hp->OA) (args:List AV) (H:Hp):OA:=match args with
 | [(.agg [(.int .i64 aa),(.sl ak)]),(.agg [(.int .i64 ai),(.sl br)])]=>g aa ak ai br H
 | _=>none
def aq.cs (F:Nat) (bm:Int->Sl->Hp->OA):Cs:=[(100,ar.mk bm)]
theorem aq.loops (F:Nat) (bm:Int->Sl->Hp->OA):LO (aR (aq.cs F bm)) aq.pn (aq.lh F bm) F Try.f101:=
 (af.rt (af.rt (af.rt (af.rt (af.rt (af.rt (af.seq (af.rt (af.block (af.loop (λtm H=>dA λr h=>by obtain ⟨ey,fK,fh,gL,fi,gM,dL,fL,dw,hks,e,h⟩:=aq.lh509_inv (show aq.lh509 F bm [] 0 tm H=some r from h);cases h) (λk509 tm H r h=>by obtain ⟨ey,fK,fh,gL,fi,gM,dL,fL,dw,hks,e,h⟩:=aq.lh509_inv (show aq.lh509 F bm [] (k509+1) tm H=some r from h);rw [<- dx e];exact Eq.trans (by kernel_rfl) h) λk509=>af.no))) (af.lt (af.rt (af.block (af.loop (λtm H=>dA λr h=>by obtain ⟨ew,fI,fg,gK,dK,fJ,dv,hks,e,h⟩:=aq.lh1021_inv (show aq.lh1021 F bm [] 0 tm H=some r from h);cases h) (λk1021 tm H r h=>by obtain ⟨ew,fI,fg,gK,dK,fJ,dv,hks,e,h⟩:=aq.lh1021_inv (show aq.lh1021 F bm [] (k1021+1) tm H=some r from h);rw [<- dx e];exact Eq.trans (by kernel_rfl) h) λk1021=>af.no)))))))))))
theorem aq.eqX (F:Nat) (bm:Int->Sl->Hp->OA) (aa:Int) (ak:Sl) (ai:Int) (br:Sl) (H:Hp):EX (aR (aq.cs F bm)) aq.pn (aq.lh F bm) F Try.f101 [(.agg [(.int .i64 aa),(.sl ak)]),(.agg [(.int .i64 ai),(.sl br)])] H=aq.twX F bm aa ak ai br H:=by kernel_rfl
theorem aq.k (F:Nat):Ok Try.prog 101 (aq.mk (aq.tw F)):=by
 intro args H v H' h
 unfold aq.mk at h
 split at h
 ·exact okT (TB:=aq.tb) Try.func101 (aS (ar.k F) bk) (aq.loops F (ar.tw F)) ((aq.eqX F (ar.tw F) _ _ _ _ H).trans h) (by kernel_rfl)
 ·cases h
def ce.twX (F:Nat) (dy:Int->Sl->Hp->OA) (bA:Int->Sl->Int->Sl->Hp->OA) (ff:Int->Sl->Hp->OA) (aa:Int) (ak:Sl) (ai:Int) (br:Sl) (H:Hp):OA:=(Hp.new H [(.int .i64 aa),(.sl ak)]).bind λH5=>(Hp.new H5 [(.int .i64 ai),(.sl br)]).bind λH6=>(Hp.new H6 [.int .i64 0,.sl ⟨none,0,.ex 0⟩]).bind λH7=>(Hp.ldI H7 .i64 H.length 0).bind λn8=>(Hp.ldSl H7 H.length (0+1)).bind λs9=>(dy n8 s9 H7).bind λr10=>((r10.1).asB).bind λb11=>(bif (!b11) then ((Hp.st r10.2 H6.length 0 (.int .i64 0)).bind λH12=>(Hp.st H12 H6.length (0+1) (.sl (⟨none,0,.ex 0⟩:Sl))).bind λH13=>(Hp.ldI H13 .i64 H6.length 0).bind λn14=>(Hp.ldSl H13 H6.length (0+1)).bind λs15=>some ((.tup [(.agg [(.int .i64 n14),(.sl s15)]),(.int .i64 1)]),H13)) else ((Hp.ldI r10.2 .i64 H5.length 0).bind λn16=>(Hp.ldSl r10.2 H5.length (0+1)).bind λs17=>(dy n16 s17 r10.2).bind λr18=>((r18.1).asB).bind λb19=>(bif (!b19) then ((Hp.st r18.2 H6.length 0 (.int .i64 0)).bind λH20=>(Hp.st H20 H6.length (0+1) (.sl (⟨none,0,.ex 0⟩:Sl))).bind λH21=>(Hp.ldI H21 .i64 H6.length 0).bind λn22=>(Hp.ldSl H21 H6.length (0+1)).bind λs23=>some ((.tup [(.agg [(.int .i64 n22),(.sl s23)]),(.int .i64 1)]),H21)) else ((Hp.ldI r18.2 .i64 H.length 0).bind λn24=>(Hp.ldSl r18.2 H.length (0+1)).bind λs25=>(Hp.ldI r18.2 .i64 H5.length 0).bind λn26=>(Hp.ldSl r18.2 H5.length (0+1)).bind λs27=>(bA n24 s25 n26 s27 r18.2).bind λr28=>((r28.1).asAgg 2).bind λl29=>(l29[0]?).bind λv30=>((v30).asI .i64).bind λn31=>(l29[1]?).bind λv32=>((v32).asSl).bind λs33=>(ff n31 s33 r28.2).bind λr34=>((r34.1).asTup 2).bind λl35=>(l35[0]?).bind λv36=>((v36).asAgg 2).bind λl37=>(l37[0]?).bind λv38=>((v38).asI .i64).bind λn39=>(l37[1]?).bind λv40=>((v40).asSl).bind λs41=>(l35[1]?).bind λv42=>((v42).asI .i64).bind λn43=>(Hp.st r34.2 H6.length 0 (.int .i64 n39)).bind λH44=>(Hp.st H44 H6.length (0+1) (.sl s41)).bind λH45=>(Hp.ldI H45 .i64 H6.length 0).bind λn46=>(Hp.ldSl H45 H6.length (0+1)).bind λs47=>some ((.tup [(.agg [(.int .i64 n46),(.sl s47)]),(.int .i64 n43)]),H45)))))
def ce.tw (F:Nat) (aa:Int) (ak:Sl) (ai:Int) (br:Sl) (H:Hp):OA:=ce.twX F (aL.tw F) (aq.tw F) (bQ.tw F) aa ak ai br H
def ce.mk (g:Int->Sl->Int->Sl->Hp->OA) (args:List AV) (H:Hp):OA:=match args with
 | [(.agg [(.int .i64 aa),(.sl ak)]),(.agg [(.int .i64 ai),(.sl br)])]=>g aa ak ai br H
 | _=>none
def ce.cs (F:Nat) (dy:Int->Sl->Hp->OA) (bA:Int->Sl->Int->Sl->Hp->OA) (ff:Int->Sl->Hp->OA):Cs:=[(98,aL.mk dy),(101,aq.mk bA),(99,bQ.mk ff)]
theorem ce.eqX (F:Nat) (dy:Int->Sl->Hp->OA) (bA:Int->Sl->Int->Sl->Hp->OA) (ff:Int->Sl->Hp->OA) (aa:Int) (ak:Sl) (ai:Int) (br:Sl) (H:Hp):EX (aR (ce.cs F dy bA ff)) aG lh0 F Try.f38 [(.agg [(.int .i64 aa),(.sl ak)]),(.agg [(.int .i64 ai),(.sl br)])] H=ce.twX F dy bA ff aa ak ai br H:=by kernel_rfl
theorem ce.k (F:Nat):Ok Try.prog 38 (ce.mk (ce.tw F)):=by
 intro args H v H' h
 unfold ce.mk at h
 split at h
 ·exact okT (TB:=aG) Try.func38 (aS (aL.k F) (aS (aq.k F) (aS (bQ.k F) bk))) af.no ((ce.eqX F (aL.tw F) (aq.tw F) (bQ.tw F) _ _ _ _ H).trans h) (by kernel_rfl)
 ·cases h
def ax.j4 (F:Nat) (bA:Int->Sl->Int->Sl->Hp->OA) (C61_:Sl->Int->Nat->Nat->Nat->Nat->Int->Int->Hp->OA) (xB:Sl) (jR:Int) (lZ:Nat) (xC:Nat) (l_:Nat) (xD:Nat) (jS:Int) (jT:Int) (H149:Hp):OA:=C61_ xB jR lZ xC l_ xD jS (IntKind.i64.wrap (jT+1)) H149
def ax.j5 (F:Nat) (bA:Int->Sl->Int->Sl->Hp->OA) (C61_:Sl->Int->Nat->Nat->Nat->Nat->Int->Int->Hp->OA) (nJ:Sl) (hP:Int) (kC:Nat) (rW:Nat) (kD:Nat) (rX:Nat) (hQ:Int) (gd:Int) (H134:Hp):OA:=(Sl.idx nJ gd 1).bind λp135=>(Hp.ldI H134 .i64 p135.1 p135.2).bind λn136=>(bif (decide (n136>0)) then (ax.j4 F bA C61_ nJ hP kC rW kD rX (IntKind.i64.wrap (hQ+1)) gd H134) else (ax.j4 F bA C61_ nJ hP kC rW kD rX (IntKind.i64.wrap (hQ - 1)) gd H134))
def ax.j6 (F:Nat) (bA:Int->Sl->Int->Sl->Hp->OA) (C61_:Sl->Int->Nat->Nat->Nat->Nat->Int->Int->Hp->OA) (nK:Sl) (gf:Int) (kE:Nat) (rY:Nat) (gN:Nat) (jU:Nat) (gg:Int) (gh:Int) (H109:Hp):OA:=(Sl.idx nK gh 1).bind λp110=>(Hp.ldI H109 .i64 p110.1 p110.2).bind λn111=>(bif (n111 == (IntKind.i64.wrap (0 - gf))) then ((Hp.ldI H109 .i64 gN jU).bind λn112=>(Hp.ldSl H109 gN (jU+1)).bind λs113=>(Hp.new H109 [(.int .i64 (-1))]).bind λH114=>(bA n112 s113 (IntKind.i64.wrap (gg - 1)) (⟨some (H109.length,0),1,.ex 1⟩:Sl) H114).bind λr115=>((r115.1).asAgg 2).bind λl116=>(l116[0]?).bind λv117=>((v117).asI .i64).bind λn118=>(l116[1]?).bind λv119=>((v119).asSl).bind λs120=>(Hp.st r115.2 gN jU (.int .i64 n118)).bind λH121=>(Hp.st H121 gN (jU+1) (.sl s120)).bind λH122=>ax.j5 F bA C61_ nK gf kE rY gN jU gg gh H122) else (ax.j5 F bA C61_ nK gf kE rY gN jU gg gh H109))
def ax.l61 (F:Nat) (bA:Int->Sl->Int->Sl->Hp->OA) :Nat->Sl->Int->Nat->Nat->Nat->Nat->Int->Int->Hp->OA
 | 0,_,_,_,_,_,_,_,_,_=>none
 | jI+1,fM,bN,ee,fj,dR,ez,dX,dM,H15=>(bif (decide (dM<(fM.n:Int))) then ((Sl.idx fM dM 1).bind λp86=>(Hp.ldI H15 .i64 p86.1 p86.2).bind λn87=>(bif (n87 == bN) then ((Hp.ldI H15 .i64 dR ez).bind λn88=>(Hp.ldSl H15 dR (ez+1)).bind λs89=>(Hp.new H15 [(.int .i64 1)]).bind λH90=>(bA n88 s89 dX (⟨some (H15.length,0),1,.ex 1⟩:Sl) H90).bind λr91=>((r91.1).asAgg 2).bind λl92=>(l92[0]?).bind λv93=>((v93).asI .i64).bind λn94=>(l92[1]?).bind λv95=>((v95).asSl).bind λs96=>(Hp.st r91.2 dR ez (.int .i64 n94)).bind λH97=>(Hp.st H97 dR (ez+1) (.sl s96)).bind λH98=>ax.j6 F bA (ax.l61 F bA jI) fM bN ee fj dR ez dX dM H98) else (ax.j6 F bA (ax.l61 F bA jI) fM bN ee fj dR ez dX dM H15))) else ((Hp.ldI H15 .i64 dR ez).bind λn150=>(Hp.ldSl H15 dR (ez+1)).bind λs151=>(Hp.st H15 ee fj (.int .i64 n150)).bind λH152=>(Hp.st H152 ee (fj+1) (.sl s151)).bind λH153=>(Hp.ldI H153 .i64 ee fj).bind λn154=>(Hp.ldSl H153 ee (fj+1)).bind λs155=>some ((.agg [(.int .i64 n154),(.sl s155)]),H153)))
termination_by structural n=>n
def ax.twX (F:Nat) (bA:Int->Sl->Int->Sl->Hp->OA) (aa:Sl) (ah:Int) (H:Hp):OA:=(Hp.new H [.int .i64 0,.sl ⟨none,0,.ex 0⟩]).bind λH3=>(Hp.new H3 [.int .i64 0,.sl ⟨none,0,.ex 0⟩]).bind λH4=>(Hp.st H4 H3.length 0 (.int .i64 0)).bind λH5=>(Hp.st H5 H3.length (0+1) (.sl (⟨none,0,.ex 0⟩:Sl))).bind λH6=>ax.l61 F bA F aa ah H.length 0 H3.length 0 0 0 H6
def ax.tw (F:Nat) (aa:Sl) (ah:Int) (H:Hp):OA:=ax.twX F (aq.tw F) aa ah H
def ax.lh61 (F:Nat) (bA:Int->Sl->Int->Sl->Hp->OA) (ks:List Nat) (n:Nat) (tm:Tm) (H:Hp):OA:=match ks,tm 0,tm 1,tm 4,tm 5,tm 6,tm 7 with
 | [],(.sl fM),(.int .i64 bN),(.ptr ee fj),(.ptr dR ez),(.int .i64 dX),(.int .i64 dM)=>ax.l61 F bA n fM bN ee fj dR ez dX dM H
 | _,_,_,_,_,_,_=>none
theorem ax.lh61_inv {F:Nat} {bA:Int->Sl->Int->Sl->Hp->OA} {ks:List Nat} {n:Nat} {tm:Tm} {H:Hp} {r:AV×Hp} (h:ax.lh61 F bA ks n tm H=some r):∃ fM bN ee fj dR ez dX dM,ks=[]/\dh tm [(0,(.sl fM)),(1,(.int .i64 bN)),(4,(.ptr ee fj)),(5,(.ptr dR ez)),(6,(.int .i64 dX)),(7,(.int .i64 dM))]/\ax.l61 F bA n fM bN ee fj dR ez dX dM H=some r:=by
 unfold ax.lh61 at h
 split at h
 ·exact ⟨_,_,_,_,_,_,_,_,rfl,⟨‹_›,‹_›,‹_›,‹_›,‹_›,‹_›,trivial⟩,h⟩
 ·cases h
def ax.lh (F:Nat) (bA:Int->Sl->Int->Sl->Hp->OA) (p:Nat) (ks:List Nat) (n:Nat) (tm:Tm) (H:Hp):OA:=bif p.beq 61 then ax.lh61 F bA ks n tm H else (none)
def ax.mk (g:Sl->Int->Hp->OA) (args:List AV) (H:Hp):OA:=match args with
 | [(.sl aa),(.int .i64 ah)]=>g aa ah H
 | _=>none
def ax.cs (F:Nat) (bA:Int->Sl->Int->Sl->Hp->OA):Cs:=[(101,aq.mk bA)]
theorem ax.loops (F:Nat) (bA:Int->Sl->Int->Sl->Hp->OA):LO (aR (ax.cs F bA)) aG (ax.lh F bA) F Try.f86:=
 (af.rt (af.rt (af.rt (af.lt (af.rt (af.block (af.loop (λtm H=>dA λr h=>by obtain ⟨fM,bN,ee,fj,dR,ez,dX,dM,hks,e,h⟩:=ax.lh61_inv (show ax.lh61 F bA [] 0 tm H=some r from h);cases h) (λk61 tm H r h=>by obtain ⟨fM,bN,ee,fj,dR,ez,dX,dM,hks,e,h⟩:=ax.lh61_inv (show ax.lh61 F bA [] (k61+1) tm H=some r from h);rw [<- dx e];exact Eq.trans (by kernel_rfl) h) λk61=>af.no)))))))
theorem ax.eqX (F:Nat) (bA:Int->Sl->Int->Sl->Hp->OA) (aa:Sl) (ah:Int) (H:Hp):EX (aR (ax.cs F bA)) aG (ax.lh F bA) F Try.f86 [(.sl aa),(.int .i64 ah)] H=ax.twX F bA aa ah H:=by kernel_rfl
theorem ax.k (F:Nat):Ok Try.prog 86 (ax.mk (ax.tw F)):=by
 intro args H v H' h
 unfold ax.mk at h
 split at h
 ·exact okT (TB:=aG) Try.func86 (aS (aq.k F) bk) (ax.loops F (aq.tw F)) ((ax.eqX F (aq.tw F) _ _ H).trans h) (by kernel_rfl)
 ·cases h
def bR.twX (F:Nat) (bs:Sl->Hp->OA) (aY:Int->Int->Int->Hp->OA) (jV:Sl->Int->Hp->OA) (aa:Sl) (ah:Int) (H:Hp):OA:=(Hp.new H [.int .i64 0,.sl ⟨none,0,.ex 0⟩]).bind λH3=>(bs aa H3).bind λr4=>((r4.1).asB).bind λb5=>(bif (!b5) then ((Hp.st r4.2 H.length 0 (.int .i64 0)).bind λH6=>(Hp.st H6 H.length (0+1) (.sl (⟨none,0,.ex 0⟩:Sl))).bind λH7=>(Hp.ldI H7 .i64 H.length 0).bind λn8=>(Hp.ldSl H7 H.length (0+1)).bind λs9=>some ((.tup [(.agg [(.int .i64 n8),(.sl s9)]),(.int .i64 1)]),H7)) else ((aY ah 1 24 r4.2).bind λr10=>((r10.1).asB).bind λb11=>(bif (!b11) then ((Hp.st r10.2 H.length 0 (.int .i64 0)).bind λH12=>(Hp.st H12 H.length (0+1) (.sl (⟨none,0,.ex 0⟩:Sl))).bind λH13=>(Hp.ldI H13 .i64 H.length 0).bind λn14=>(Hp.ldSl H13 H.length (0+1)).bind λs15=>some ((.tup [(.agg [(.int .i64 n14),(.sl s15)]),(.int .i64 2)]),H13)) else ((jV aa ah r10.2).bind λr16=>((r16.1).asAgg 2).bind λl17=>(l17[0]?).bind λv18=>((v18).asI .i64).bind λn19=>(l17[1]?).bind λv20=>((v20).asSl).bind λs21=>(Hp.st r16.2 H.length 0 (.int .i64 n19)).bind λH22=>(Hp.st H22 H.length (0+1) (.sl s21)).bind λH23=>(Hp.ldI H23 .i64 H.length 0).bind λn24=>(Hp.ldSl H23 H.length (0+1)).bind λs25=>some ((.tup [(.agg [(.int .i64 n24),(.sl s25)]),(.int .i64 0)]),H23)))))
def bR.tw (F:Nat) (aa:Sl) (ah:Int) (H:Hp):OA:=bR.twX F (aD.tw F) (bf.tw F) (ax.tw F) aa ah H
def bR.mk (g:Sl->Int->Hp->OA) (args:List AV) (H:Hp):OA:=match args with
 | [(.sl aa),(.int .i64 ah)]=>g aa ah H
 | _=>none
def bR.cs (F:Nat) (bs:Sl->Hp->OA) (aY:Int->Int->Int->Hp->OA) (jV:Sl->Int->Hp->OA):Cs:=[(36,aD.mk bs),(79,bf.mk aY),(86,ax.mk jV)]
theorem bR.eqX (F:Nat) (bs:Sl->Hp->OA) (aY:Int->Int->Int->Hp->OA) (jV:Sl->Int->Hp->OA) (aa:Sl) (ah:Int) (H:Hp):EX (aR (bR.cs F bs aY jV)) aG lh0 F Try.f19 [(.sl aa),(.int .i64 ah)] H=bR.twX F bs aY jV aa ah H:=by kernel_rfl
theorem bR.k (F:Nat):Ok Try.prog 19 (bR.mk (bR.tw F)):=by
 intro args H v H' h
 unfold bR.mk at h
 split at h
 ·exact okT (TB:=aG) Try.func19 (aS (aD.k F) (aS (bf.k F) (aS (ax.k F) bk))) af.no ((bR.eqX F (aD.tw F) (bf.tw F) (ax.tw F) _ _ H).trans h) (by kernel_rfl)
 ·cases h
def aW.l29 (F:Nat) :Nat->Sl->Sl->Int->Hp->OA
 | 0,_,_,_,_=>none
 | fW+1,bL,gO,dN,H8=>(bif (decide (dN<(bL.n:Int))) then ((Sl.idx bL dN 1).bind λp13=>(Hp.ldI H8 .i64 p13.1 p13.2).bind λn14=>(Sl.idx gO dN 1).bind λp15=>(Hp.ldI H8 .i64 p15.1 p15.2).bind λn16=>(bif (n14 != n16) then (some ((.bool false),H8)) else (aW.l29 F fW bL gO (IntKind.i64.wrap (dN+1)) H8))) else (some ((.bool true),H8)))
termination_by structural n=>n
def aW.twX (F:Nat) (aa:Sl) (ah:Sl) (H:Hp):OA:=(bif ((aa.n:Int) != (ah.n:Int)) then (some ((.bool false),H)) else (aW.l29 F F aa ah 0 H))
def aW.tw (F:Nat) (aa:Sl) (ah:Sl) (H:Hp):OA:=aW.twX F aa ah H
def aW.lh29 (F:Nat) (ks:List Nat) (n:Nat) (tm:Tm) (H:Hp):OA:=match ks,tm 0,tm 1,tm 5 with
 | [],(.sl bL),(.sl gO),(.int .i64 dN)=>aW.l29 F n bL gO dN H
 | _,_,_,_=>none
theorem aW.lh29_inv {F:Nat} {ks:List Nat} {n:Nat} {tm:Tm} {H:Hp} {r:AV×Hp} (h:aW.lh29 F ks n tm H=some r):∃ bL gO dN,ks=[]/\dh tm [(0,(.sl bL)),(1,(.sl gO)),(5,(.int .i64 dN))]/\aW.l29 F n bL gO dN H=some r:=by
 unfold aW.lh29 at h
 split at h
 ·exact ⟨_,_,_,rfl,⟨‹_›,‹_›,‹_›,trivial⟩,h⟩
 ·cases h
def aW.lh (F:Nat) (p:Nat) (ks:List Nat) (n:Nat) (tm:Tm) (H:Hp):OA:=bif p.beq 29 then aW.lh29 F ks n tm H else (none)
def aW.tb:Nat->List (List Nat):=eC [(6,[[],[],[0,1],[0,1,2],[],[],[4,5],[4,5,6],[0,1,2,3,4,5,6,7]])]
def aW.mk (g:Sl->Sl->Hp->OA) (args:List AV) (H:Hp):OA:=match args with
 | [(.sl aa),(.sl ah)]=>g aa ah H
 | _=>none
theorem aW.loops (F:Nat):LO (aR []) aG (aW.lh F) F Try.f17:=
 (af.rt (af.rt (af.lt (af.rt (af.block (af.loop (λtm H=>dA λr h=>by obtain ⟨bL,gO,dN,hks,e,h⟩:=aW.lh29_inv (show aW.lh29 F [] 0 tm H=some r from h);cases h) (λk29 tm H r h=>by obtain ⟨bL,gO,dN,hks,e,h⟩:=aW.lh29_inv (show aW.lh29 F [] (k29+1) tm H=some r from h);rw [<- dx e];exact Eq.trans (by kernel_rfl) h) λk29=>af.no))))))
theorem aW.eqX (F:Nat) (aa:Sl) (ah:Sl) (H:Hp):EX (aR []) aG (aW.lh F) F Try.f17 [(.sl aa),(.sl ah)] H=aW.twX F aa ah H:=by kernel_rfl
theorem aW.k (F:Nat):Ok Try.prog 17 (aW.mk (aW.tw F)):=by
 intro args H v H' h
 unfold aW.mk at h
 split at h
 ·exact okT (TB:=aW.tb) Try.func17 bk (aW.loops F) ((aW.eqX F _ _ H).trans h) (by kernel_rfl)
 ·cases h
def bI.twX (F:Nat) (jW:Sl->Sl->Hp->OA) (aa:Int) (ak:Sl) (ai:Int) (br:Sl) (H:Hp):OA:=(Hp.new H [(.int .i64 aa),(.sl ak)]).bind λH5=>(Hp.new H5 [(.int .i64 ai),(.sl br)]).bind λH6=>(Hp.ldI H6 .i64 H.length 0).bind λn7=>(Hp.ldI H6 .i64 H5.length 0).bind λn8=>(bif (n7 == n8) then ((Hp.ldSl H6 H.length 1).bind λs9=>(Hp.ldSl H6 H5.length 1).bind λs10=>(jW s9 s10 H6).bind λr11=>((r11.1).asB).bind λb12=>some ((.bool b12),r11.2)) else (some ((.bool false),H6)))
def bI.tw (F:Nat) (aa:Int) (ak:Sl) (ai:Int) (br:Sl) (H:Hp):OA:=bI.twX F (aW.tw F) aa ak ai br H
def bI.mk (g:Int->Sl->Int->Sl->Hp->OA) (args:List AV) (H:Hp):OA:=match args with
 | [(.agg [(.int .i64 aa),(.sl ak)]),(.agg [(.int .i64 ai),(.sl br)])]=>g aa ak ai br H
 | _=>none
def bI.cs (F:Nat) (jW:Sl->Sl->Hp->OA):Cs:=[(17,aW.mk jW)]
theorem bI.eqX (F:Nat) (jW:Sl->Sl->Hp->OA) (aa:Int) (ak:Sl) (ai:Int) (br:Sl) (H:Hp):EX (aR (bI.cs F jW)) aG lh0 F Try.f39 [(.agg [(.int .i64 aa),(.sl ak)]),(.agg [(.int .i64 ai),(.sl br)])] H=bI.twX F jW aa ak ai br H:=by kernel_rfl
theorem bI.k (F:Nat):Ok Try.prog 39 (bI.mk (bI.tw F)):=by
 intro args H v H' h
 unfold bI.mk at h
 split at h
 ·exact okT (TB:=aG) Try.func39 (aS (aW.k F) bk) af.no ((bI.eqX F (aW.tw F) _ _ _ _ H).trans h) (by kernel_rfl)
 ·cases h
def bc.j2 (F:Nat) (C29_:Sl->Sl->Int->Hp->OA) (xE:Sl) (xF:Sl) (xG:Int) (H43:Hp):OA:=C29_ xE xF (IntKind.i64.wrap (xG+1)) H43
def bc.l29 (F:Nat) :Nat->Sl->Sl->Int->Hp->OA
 | 0,_,_,_,_=>none
 | fW+1,bL,cG,bh,H7=>(bif (decide (bh<(bL.n:Int))) then ((bif (decide ((cG.n:Int)>0)) then ((Sl.idx cG (IntKind.i64.wrap ((cG.n:Int) - 1)) 1).bind λp31=>(Hp.ldI H7 .i64 p31.1 p31.2).bind λn32=>(Sl.idx bL bh 1).bind λp33=>(Hp.ldI H7 .i64 p33.1 p33.2).bind λn34=>(bif (n32 == (IntKind.i64.wrap (0 - n34))) then ((Sl.cut cG 1 0 (IntKind.i64.wrap ((cG.n:Int) - 1))).bind λs35=>bc.j2 F (bc.l29 F fW) bL s35 bh H7) else ((Sl.idx bL bh 1).bind λp44=>(Hp.ldI H7 .i64 p44.1 p44.2).bind λn45=>(Hp.new H7 [(.int .i64 n45)]).bind λH46=>(Sl.row H46 (⟨some (H7.length,0),1,.ex 1⟩:Sl) 1).bind λxs48=>(Hp.app H46 1 8 cG (⟨some (H7.length,0),1,.ex 1⟩:Sl).n xs48).bind λa47=>bc.j2 F (bc.l29 F fW) bL a47.1 bh a47.2))) else ((Sl.idx bL bh 1).bind λp49=>(Hp.ldI H7 .i64 p49.1 p49.2).bind λn50=>(Hp.new H7 [(.int .i64 n50)]).bind λH51=>(Sl.row H51 (⟨some (H7.length,0),1,.ex 1⟩:Sl) 1).bind λxs53=>(Hp.app H51 1 8 cG (⟨some (H7.length,0),1,.ex 1⟩:Sl).n xs53).bind λa52=>bc.l29 F fW bL a52.1 (IntKind.i64.wrap (bh+1)) a52.2))) else (some ((.sl cG),H7)))
termination_by structural n=>n
def bc.twX (F:Nat) (aa:Sl) (H:Hp):OA:=(Hp.new H []).bind λH2=>bc.l29 F F aa (⟨some (H.length,0),0,.ex 0⟩:Sl) 0 H2
def bc.tw (F:Nat) (aa:Sl) (H:Hp):OA:=bc.twX F aa H
def bc.lh29 (F:Nat) (ks:List Nat) (n:Nat) (tm:Tm) (H:Hp):OA:=match ks,tm 0,tm 3,tm 4 with
 | [],(.sl bL),(.sl cG),(.int .i64 bh)=>bc.l29 F n bL cG bh H
 | _,_,_,_=>none
theorem bc.lh29_inv {F:Nat} {ks:List Nat} {n:Nat} {tm:Tm} {H:Hp} {r:AV×Hp} (h:bc.lh29 F ks n tm H=some r):∃ bL cG bh,ks=[]/\dh tm [(0,(.sl bL)),(3,(.sl cG)),(4,(.int .i64 bh))]/\bc.l29 F n bL cG bh H=some r:=by
 unfold bc.lh29 at h
 split at h
 ·exact ⟨_,_,_,rfl,⟨‹_›,‹_›,‹_›,trivial⟩,h⟩
 ·cases h
def bc.lh (F:Nat) (p:Nat) (ks:List Nat) (n:Nat) (tm:Tm) (H:Hp):OA:=bif p.beq 29 then bc.lh29 F ks n tm H else (none)
def bc.tb:Nat->List (List Nat):=eC [(6,[[],[0],[0,1],[0,1,2],[0,1,2],[0,1,2,4],[0,1,2,3,4,5],[0,1,2,3,4,5,6],[0,1,2],[0,1,2],[0,1,2,8,9],[0,1,2,8,9,10],[0,1,2,8,9,10,11],[0,1,2,3,4,5,6,7,8,9,10,11,12],[0,1,2,3,4,5,6,7,8,9,10,11,12,13]])]
def bc.mk (g:Sl->Hp->OA) (args:List AV) (H:Hp):OA:=match args with
 | [(.sl aa)]=>g aa H
 | _=>none
theorem bc.loops (F:Nat):LO (aR []) aG (bc.lh F) F Try.f102:=
 (af.rt (af.rt (af.lt (af.rt (af.block (af.loop (λtm H=>dA λr h=>by obtain ⟨bL,cG,bh,hks,e,h⟩:=bc.lh29_inv (show bc.lh29 F [] 0 tm H=some r from h);cases h) (λk29 tm H r h=>by obtain ⟨bL,cG,bh,hks,e,h⟩:=bc.lh29_inv (show bc.lh29 F [] (k29+1) tm H=some r from h);rw [<- dx e];exact Eq.trans (by kernel_rfl) h) λk29=>af.no))))))
theorem bc.eqX (F:Nat) (aa:Sl) (H:Hp):EX (aR []) aG (bc.lh F) F Try.f102 [(.sl aa)] H=bc.twX F aa H:=by kernel_rfl
theorem bc.k (F:Nat):Ok Try.prog 102 (bc.mk (bc.tw F)):=by
 intro args H v H' h
 unfold bc.mk at h
 split at h
 ·exact okT (TB:=bc.tb) Try.func102 bk (bc.loops F) ((bc.eqX F _ H).trans h) (by kernel_rfl)
 ·cases h
def ck.twX (F:Nat) (bs:Sl->Hp->OA) (jX:Sl->Hp->OA) (aa:Sl) (H:Hp):OA:=(bs aa H).bind λr2=>((r2.1).asB).bind λb3=>(bif (!b3) then ((Hp.new r2.2 []).bind λH4=>some ((.sl (⟨some (r2.2.length,0),0,.ex 0⟩:Sl)),H4)) else ((jX aa r2.2).bind λr5=>((r5.1).asSl).bind λs6=>some ((.sl s6),r5.2)))
def ck.tw (F:Nat) (aa:Sl) (H:Hp):OA:=ck.twX F (aD.tw F) (bc.tw F) aa H
def ck.mk (g:Sl->Hp->OA) (args:List AV) (H:Hp):OA:=match args with
 | [(.sl aa)]=>g aa H
 | _=>none
def ck.cs (F:Nat) (bs:Sl->Hp->OA) (jX:Sl->Hp->OA):Cs:=[(36,aD.mk bs),(102,bc.mk jX)]
theorem ck.eqX (F:Nat) (bs:Sl->Hp->OA) (jX:Sl->Hp->OA) (aa:Sl) (H:Hp):EX (aR (ck.cs F bs jX)) aG lh0 F Try.f40 [(.sl aa)] H=ck.twX F bs jX aa H:=by kernel_rfl
theorem ck.k (F:Nat):Ok Try.prog 40 (ck.mk (ck.tw F)):=by
 intro args H v H' h
 unfold ck.mk at h
 split at h
 ·exact okT (TB:=aG) Try.func40 (aS (aD.k F) (aS (bc.k F) bk)) af.no ((ck.eqX F (aD.tw F) (bc.tw F) _ H).trans h) (by kernel_rfl)
 ·cases h
def aC.j2 (F:Nat) (cM:Sl->Hp->OA) (cN:Sl->Hp->OA) (cO:Sl->Int->Hp->OA) (cP:Sl->Hp->OA) (bs:Sl->Hp->OA) (cq:Sl->Int->Hp->OA) (cQ:Int->Sl->Int->Hp->OA) (cR:Int->Sl->Int->Sl->Hp->OA) (cS:Sl->Int->Hp->OA) (cB:Int->Sl->Int->Sl->Hp->OA) (cT:Sl->Hp->OA) (rZ:Sl) (eP:Int) (xH:Sl) (r_:Sl) (jY:Int) (H62:Hp):OA:=(cq rZ eP H62).bind λr63=>((r63.1).asTup 2).bind λl64=>(l64[0]?).bind λv65=>((v65).asAgg 2).bind λl66=>(l66[0]?).bind λv67=>((v67).asI .i64).bind λn68=>(l66[1]?).bind λv69=>((v69).asSl).bind λs70=>(l64[1]?).bind λv71=>((v71).asI .i64).bind λn72=>(Hp.new r63.2 [.int .i64 0,.sl ⟨none,0,.ex 0⟩]).bind λH73=>(Hp.st H73 r63.2.length 0 (.int .i64 n68)).bind λH74=>(Hp.st H74 r63.2.length (0+1) (.sl s70)).bind λH75=>(cq xH eP H75).bind λr76=>((r76.1).asTup 2).bind λl77=>(l77[0]?).bind λv78=>((v78).asAgg 2).bind λl79=>(l79[0]?).bind λv80=>((v80).asI .i64).bind λn81=>(l79[1]?).bind λv82=>((v82).asSl).bind λs83=>(l77[1]?).bind λv84=>((v84).asI .i64).bind λn85=>(Hp.new r76.2 [.int .i64 0,.sl ⟨none,0,.ex 0⟩]).bind λH86=>(Hp.st H86 r76.2.length 0 (.int .i64 n81)).bind λH87=>(Hp.st H87 r76.2.length (0+1) (.sl s83)).bind λH88=>(cq r_ eP H88).bind λr89=>((r89.1).asTup 2).bind λl90=>(l90[0]?).bind λv91=>((v91).asAgg 2).bind λl92=>(l92[0]?).bind λv93=>((v93).asI .i64).bind λn94=>(l92[1]?).bind λv95=>((v95).asSl).bind λs96=>(l90[1]?).bind λv97=>((v97).asI .i64).bind λn98=>(Hp.new r89.2 [.int .i64 0,.sl ⟨none,0,.ex 0⟩]).bind λH99=>(Hp.st H99 r89.2.length 0 (.int .i64 n94)).bind λH100=>(Hp.st H100 r89.2.length (0+1) (.sl s96)).bind λH101=>(Hp.ldI H101 .i64 r76.2.length 0).bind λn102=>(Hp.ldSl H101 r76.2.length (0+1)).bind λs103=>(cQ n102 s103 jY H101).bind λr104=>((r104.1).asTup 2).bind λl105=>(l105[0]?).bind λv106=>((v106).asAgg 2).bind λl107=>(l107[0]?).bind λv108=>((v108).asI .i64).bind λn109=>(l107[1]?).bind λv110=>((v110).asSl).bind λs111=>(l105[1]?).bind λv112=>((v112).asI .i64).bind λn113=>(Hp.new r104.2 [.int .i64 0,.sl ⟨none,0,.ex 0⟩]).bind λH114=>(Hp.st H114 r104.2.length 0 (.int .i64 n109)).bind λH115=>(Hp.st H115 r104.2.length (0+1) (.sl s111)).bind λH116=>(Hp.ldI H116 .i64 r63.2.length 0).bind λn117=>(Hp.ldSl H116 r63.2.length (0+1)).bind λs118=>(Hp.ldI H116 .i64 r104.2.length 0).bind λn119=>(Hp.ldSl H116 r104.2.length (0+1)).bind λs120=>(cR n117 s118 n119 s120 H116).bind λr121=>((r121.1).asTup 2).bind λl122=>(l122[0]?).bind λv123=>((v123).asAgg 2).bind λl124=>(l124[0]?).bind λv125=>((v125).asI .i64).bind λn126=>(l124[1]?).bind λv127=>((v127).asSl).bind λs128=>(l122[1]?).bind λv129=>((v129).asI .i64).bind λn130=>(Hp.new r121.2 [.int .i64 0,.sl ⟨none,0,.ex 0⟩]).bind λH131=>(Hp.st H131 r121.2.length 0 (.int .i64 n126)).bind λH132=>(Hp.st H132 r121.2.length (0+1) (.sl s128)).bind λH133=>(cS rZ eP H133).bind λr134=>((r134.1).asTup 2).bind λl135=>(l135[0]?).bind λv136=>((v136).asAgg 2).bind λl137=>(l137[0]?).bind λv138=>((v138).asI .i64).bind λn139=>(l137[1]?).bind λv140=>((v140).asSl).bind λs141=>(l135[1]?).bind λv142=>((v142).asI .i64).bind λn143=>(Hp.new r134.2 [.int .i64 0,.sl ⟨none,0,.ex 0⟩]).bind λH144=>(Hp.st H144 r134.2.length 0 (.int .i64 n139)).bind λH145=>(Hp.st H145 r134.2.length (0+1) (.sl s141)).bind λH146=>(bif (n72 != n143) then (some ((.bool false),H146)) else ((Hp.ldI H146 .i64 r63.2.length 0).bind λn147=>(Hp.ldSl H146 r63.2.length (0+1)).bind λs148=>(Hp.ldI H146 .i64 r134.2.length 0).bind λn149=>(Hp.ldSl H146 r134.2.length (0+1)).bind λs150=>(cB n147 s148 n149 s150 H146).bind λr151=>((r151.1).asB).bind λb152=>(bif (!b152) then (some ((.bool false),r151.2)) else ((cT r_ r151.2).bind λr153=>((r153.1).asSl).bind λs154=>(cq s154 eP r153.2).bind λr155=>((r155.1).asTup 2).bind λl156=>(l156[0]?).bind λv157=>((v157).asAgg 2).bind λl158=>(l158[0]?).bind λv159=>((v159).asI .i64).bind λn160=>(l158[1]?).bind λv161=>((v161).asSl).bind λs162=>(l156[1]?).bind λv163=>((v163).asI .i64).bind λn164=>(Hp.new r155.2 [.int .i64 0,.sl ⟨none,0,.ex 0⟩]).bind λH165=>(Hp.st H165 r155.2.length 0 (.int .i64 n160)).bind λH166=>(Hp.st H166 r155.2.length (0+1) (.sl s162)).bind λH167=>(bif ((IntKind.i64.wrap ((IntKind.i64.wrap ((IntKind.i64.wrap ((IntKind.i64.wrap ((IntKind.i64.wrap (n72+n85))+n98))+n113))+n130))+n164)) == 0) then ((Hp.ldI H167 .i64 r89.2.length 0).bind λn168=>(Hp.ldSl H167 r89.2.length (0+1)).bind λs169=>(Hp.ldI H167 .i64 r121.2.length 0).bind λn170=>(Hp.ldSl H167 r121.2.length (0+1)).bind λs171=>(cB n168 s169 n170 s171 H167).bind λr172=>((r172.1).asB).bind λb173=>(bif b173 then ((Hp.ldI r172.2 .i64 r155.2.length 0).bind λn174=>(Hp.ldSl r172.2 r155.2.length (0+1)).bind λs175=>(Hp.ldI r172.2 .i64 r89.2.length 0).bind λn176=>(Hp.ldSl r172.2 r89.2.length (0+1)).bind λs177=>(cB n174 s175 n176 s177 r172.2).bind λr178=>((r178.1).asB).bind λb179=>some ((.bool b179),r178.2)) else (some ((.bool false),r172.2)))) else (some ((.bool false),H167)))))))
def aC.j3 (F:Nat) (cM:Sl->Hp->OA) (cN:Sl->Hp->OA) (cO:Sl->Int->Hp->OA) (cP:Sl->Hp->OA) (bs:Sl->Hp->OA) (cq:Sl->Int->Hp->OA) (cQ:Int->Sl->Int->Hp->OA) (cR:Int->Sl->Int->Sl->Hp->OA) (cS:Sl->Int->Hp->OA) (cB:Int->Sl->Int->Sl->Hp->OA) (cT:Sl->Hp->OA) (C1021_:Sl->Int->Sl->Sl->Int->Int->Hp->OA) (xI:Sl) (jZ:Int) (xJ:Sl) (xK:Sl) (j_:Int) (ka:Int) (H194:Hp):OA:=C1021_ xI jZ xJ xK j_ (IntKind.i64.wrap (ka+1)) H194
def aC.l1021 (F:Nat) (cM:Sl->Hp->OA) (cN:Sl->Hp->OA) (cO:Sl->Int->Hp->OA) (cP:Sl->Hp->OA) (bs:Sl->Hp->OA) (cq:Sl->Int->Hp->OA) (cQ:Int->Sl->Int->Hp->OA) (cR:Int->Sl->Int->Sl->Hp->OA) (cS:Sl->Int->Hp->OA) (cB:Int->Sl->Int->Sl->Hp->OA) (cT:Sl->Hp->OA) :Nat->Sl->Int->Sl->Sl->Int->Int->Hp->OA
 | 0,_,_,_,_,_,_,_=>none
 | lW+1,ft,dY,gj,gk,dZ,dO,H35=>(bif (decide (dO<(ft.n:Int))) then ((Sl.idx ft dO 1).bind λp180=>(Hp.ldI H35 .i64 p180.1 p180.2).bind λn181=>(bif (decide (n181>0)) then (aC.j3 F cM cN cO cP bs cq cQ cR cS cB cT (aC.l1021 F cM cN cO cP bs cq cQ cR cS cB cT lW) ft dY gj gk (IntKind.i64.wrap (dZ+1)) dO H35) else (aC.j3 F cM cN cO cP bs cq cQ cR cS cB cT (aC.l1021 F cM cN cO cP bs cq cQ cR cS cB cT lW) ft dY gj gk (IntKind.i64.wrap (dZ - 1)) dO H35))) else (aC.j2 F cM cN cO cP bs cq cQ cR cS cB cT ft dY gj gk dZ H35))
termination_by structural n=>n
def aC.twX (F:Nat) (cM:Sl->Hp->OA) (cN:Sl->Hp->OA) (cO:Sl->Int->Hp->OA) (cP:Sl->Hp->OA) (bs:Sl->Hp->OA) (cq:Sl->Int->Hp->OA) (cQ:Int->Sl->Int->Hp->OA) (cR:Int->Sl->Int->Sl->Hp->OA) (cS:Sl->Int->Hp->OA) (cB:Int->Sl->Int->Sl->Hp->OA) (cT:Sl->Hp->OA) (aa:Sl) (H:Hp):OA:=(cM aa H).bind λr2=>((r2.1).asB).bind λb3=>(bif b3 then (some ((.bool true),r2.2)) else ((cN aa r2.2).bind λr4=>((r4.1).asTup 2).bind λl5=>(l5[0]?).bind λv6=>((v6).asSl).bind λs7=>(l5[1]?).bind λv8=>((v8).asI .i64).bind λn9=>(cO aa 29 r4.2).bind λr10=>((r10.1).asSl).bind λs11=>(cP s11 r10.2).bind λr12=>((r12.1).asSl).bind λs13=>(Hp.new r12.2 []).bind λH14=>(Sl.row H14 s7 1).bind λxs16=>(Hp.app H14 1 8 (⟨some (r12.2.length,0),0,.ex 0⟩:Sl) s7.n xs16).bind λa15=>(Sl.row a15.2 s13 1).bind λxs18=>(Hp.app a15.2 1 8 a15.1 s13.n xs18).bind λa17=>(bs s7 a17.2).bind λr19=>((r19.1).asB).bind λb20=>(bif (!b20) then (some ((.bool true),r19.2)) else ((bs s13 r19.2).bind λr21=>((r21.1).asB).bind λb22=>(bif (!b22) then (some ((.bool true),r21.2)) else ((bs a17.1 r21.2).bind λr23=>((r23.1).asB).bind λb24=>(bif (!b24) then (some ((.bool true),r23.2)) else ((bif (decide (n9<1)) then (some ((.bool true),r23.2)) else ((bif (decide (n9>24)) then (some ((.bool true),r23.2)) else (aC.l1021 F cM cN cO cP bs cq cQ cR cS cB cT F s7 n9 s13 a17.1 0 0 r23.2))))))))))))
def aC.tw (F:Nat) (aa:Sl) (H:Hp):OA:=aC.twX F (cw.tw F) (bV.tw F) (cz.tw F) (bW.tw F) (aD.tw F) (bz.tw F) (b_.tw F) (ce.tw F) (bR.tw F) (bI.tw F) (ck.tw F) aa H
def aC.lh1021 (F:Nat) (cM:Sl->Hp->OA) (cN:Sl->Hp->OA) (cO:Sl->Int->Hp->OA) (cP:Sl->Hp->OA) (bs:Sl->Hp->OA) (cq:Sl->Int->Hp->OA) (cQ:Int->Sl->Int->Hp->OA) (cR:Int->Sl->Int->Sl->Hp->OA) (cS:Sl->Int->Hp->OA) (cB:Int->Sl->Int->Sl->Hp->OA) (cT:Sl->Hp->OA) (ks:List Nat) (n:Nat) (tm:Tm) (H:Hp):OA:=match ks,tm 3,tm 4,tm 5,tm 6,tm 7,tm 8 with
 | [],(.sl ft),(.int .i64 dY),(.sl gj),(.sl gk),(.int .i64 dZ),(.int .i64 dO)=>aC.l1021 F cM cN cO cP bs cq cQ cR cS cB cT n ft dY gj gk dZ dO H
 | _,_,_,_,_,_,_=>none
theorem aC.lh1021_inv {F:Nat} {cM:Sl->Hp->OA} {cN:Sl->Hp->OA} {cO:Sl->Int->Hp->OA} {cP:Sl->Hp->OA} {bs:Sl->Hp->OA} {cq:Sl->Int->Hp->OA} {cQ:Int->Sl->Int->Hp->OA} {cR:Int->Sl->Int->Sl->Hp->OA} {cS:Sl->Int->Hp->OA} {cB:Int->Sl->Int->Sl->Hp->OA} {cT:Sl->Hp->OA} {ks:List Nat} {n:Nat} {tm:Tm} {H:Hp} {r:AV×Hp} (h:aC.lh1021 F cM cN cO cP bs cq cQ cR cS cB cT ks n tm H=some r):∃ ft dY gj gk dZ dO,ks=[]/\dh tm [(3,(.sl ft)),(4,(.int .i64 dY)),(5,(.sl gj)),(6,(.sl gk)),(7,(.int .i64 dZ)),(8,(.int .i64 dO))]/\aC.l1021 F cM cN cO cP bs cq cQ cR cS cB cT n ft dY gj gk dZ dO H=some r:=by
 unfold aC.lh1021 at h
 split at h
 ·exact ⟨_,_,_,_,_,_,rfl,⟨‹_›,‹_›,‹_›,‹_›,‹_›,‹_›,trivial⟩,h⟩
 ·cases h
def aC.lh (F:Nat) (cM:Sl->Hp->OA) (cN:Sl->Hp->OA) (cO:Sl->Int->Hp->OA) (cP:Sl->Hp->OA) (bs:Sl->Hp->OA) (cq:Sl->Int->Hp->OA) (cQ:Int->Sl->Int->Hp->OA) (cR:Int->Sl->Int->Sl->Hp->OA) (cS:Sl->Int->Hp->OA) (cB:Int->Sl->Int->Sl->Hp->OA) (cT:Sl->Hp->OA) (p:Nat) (ks:List Nat) (n:Nat) (tm:Tm) (H:Hp):OA:=bif p.beq 1021 then aC.lh1021 F cM cN cO cP bs cq cQ cR cS cB cT ks n tm H else (none)
def aC.mk (g:Sl->Hp->OA) (args:List AV) (H:Hp):OA:=match args with
 | [(.sl aa)]=>g aa H
 | _=>none
def aC.cs (F:Nat) (cM:Sl->Hp->OA) (cN:Sl->Hp->OA) (cO:Sl->Int->Hp->OA) (cP:Sl->Hp->OA) (bs:Sl->Hp->OA) (cq:Sl->Int->Hp->OA) (cQ:Int->Sl->Int->Hp->OA) (cR:Int->Sl->Int->Sl->Hp->OA) (cS:Sl->Int->Hp->OA) (cB:Int->Sl->Int->Sl->Hp->OA) (cT:Sl->Hp->OA):Cs:=[(13,cw.mk cM),(33,bV.mk cN),(35,cz.mk cO),(34,bW.mk cP),(36,aD.mk bs),(21,bz.mk cq),(37,b_.mk cQ),(38,ce.mk cR),(19,bR.mk cS),(39,bI.mk cB),(40,ck.mk cT)]
theorem aC.loops (F:Nat) (cM:Sl->Hp->OA) (cN:Sl->Hp->OA) (cO:Sl->Int->Hp->OA) (cP:Sl->Hp->OA) (bs:Sl->Hp->OA) (cq:Sl->Int->Hp->OA) (cQ:Int->Sl->Int->Hp->OA) (cR:Int->Sl->Int->Sl->Hp->OA) (cS:Sl->Int->Hp->OA) (cB:Int->Sl->Int->Sl->Hp->OA) (cT:Sl->Hp->OA):LO (aR (aC.cs F cM cN cO cP bs cq cQ cR cS cB cT)) aG (aC.lh F cM cN cO cP bs cq cQ cR cS cB cT) F Try.f6:=
 (af.rt (af.rt (af.rt (af.rt (af.rt (af.rt (af.rt (af.lt (af.rt (af.block (af.loop (λtm H=>dA λr h=>by obtain ⟨ft,dY,gj,gk,dZ,dO,hks,e,h⟩:=aC.lh1021_inv (show aC.lh1021 F cM cN cO cP bs cq cQ cR cS cB cT [] 0 tm H=some r from h);cases h) (λk1021 tm H r h=>by obtain ⟨ft,dY,gj,gk,dZ,dO,hks,e,h⟩:=aC.lh1021_inv (show aC.lh1021 F cM cN cO cP bs cq cQ cR cS cB cT [] (k1021+1) tm H=some r from h);rw [<- dx e];exact Eq.trans (by kernel_rfl) h) λk1021=>af.no)))))))))))
theorem aC.eqX (F:Nat) (cM:Sl->Hp->OA) (cN:Sl->Hp->OA) (cO:Sl->Int->Hp->OA) (cP:Sl->Hp->OA) (bs:Sl->Hp->OA) (cq:Sl->Int->Hp->OA) (cQ:Int->Sl->Int->Hp->OA) (cR:Int->Sl->Int->Sl->Hp->OA) (cS:Sl->Int->Hp->OA) (cB:Int->Sl->Int->Sl->Hp->OA) (cT:Sl->Hp->OA) (aa:Sl) (H:Hp):EX (aR (aC.cs F cM cN cO cP bs cq cQ cR cS cB cT)) aG (aC.lh F cM cN cO cP bs cq cQ cR cS cB cT) F Try.f6 [(.sl aa)] H=aC.twX F cM cN cO cP bs cq cQ cR cS cB cT aa H:=by kernel_rfl
theorem aC.k (F:Nat):Ok Try.prog 6 (aC.mk (aC.tw F)):=by
 intro args H v H' h
 unfold aC.mk at h
 split at h
 ·exact okT (TB:=aG) Try.func6 (aS (cw.k F) (aS (bV.k F) (aS (cz.k F) (aS (bW.k F) (aS (aD.k F) (aS (bz.k F) (aS (b_.k F) (aS (ce.k F) (aS (bR.k F) (aS (bI.k F) (aS (ck.k F) bk))))))))))) (aC.loops F (cw.tw F) (bV.tw F) (cz.tw F) (bW.tw F) (aD.tw F) (bz.tw F) (b_.tw F) (ce.tw F) (bR.tw F) (bI.tw F) (ck.tw F)) ((aC.eqX F (cw.tw F) (bV.tw F) (cz.tw F) (bW.tw F) (aD.tw F) (bz.tw F) (b_.tw F) (ce.tw F) (bR.tw F) (bI.tw F) (ck.tw F) _ H).trans h) (by kernel_rfl)
 ·cases h
theorem aC.mkE (g:Sl->Hp->OA) (aa:Sl) (H:Hp):aC.mk g [(.sl aa)] H=g aa H:=rfl
theorem aC.T {F:Nat} {aa:Sl} {H:Hp} {v:AV} {H':Hp} (h:aC.tw F aa H=some (v,H')):Go.AE.T Try.prog 6 [(.sl aa)] H v H':=aC.k F _ _ _ _ ((aC.mkE (aC.tw F) aa H).trans h)
end
end Go.Proofs.Yteeahaikelpkpaa.AE
