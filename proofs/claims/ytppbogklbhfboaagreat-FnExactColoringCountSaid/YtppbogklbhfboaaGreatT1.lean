import Derived.Test.YtppbogklbhfboaaGreatTab1
import Derived.Test.YtppbogklbhfboaaGreatE2
set_option linter.unusedVariables false
set_option linter.unusedSimpArgs false
namespace Go.Proofs.YtppbogklbhfboaaGreat.AE
open Go Go.AE Go.Proofs Go.RowKit Go.Maps
set_option linter.unusedVariables false
set_option maxHeartbeats 4000000
set_option maxRecDepth 100000
noncomputable section
def jI.twX (F:Nat) (ac:Sl) (ap:Int) (H:Hp):OA:=(bif (decide ((IntKind.i64.wrap (ap - (ac.n:Int)))<0)) then (some ((.int .i64 (-1)),H)) else (some ((.int .i64 (IntKind.i64.wrap (ap - (ac.n:Int)))),H)))
def jI.tw (F:Nat) (ac:Sl) (ap:Int) (H:Hp):OA:=jI.twX F ac ap H
def jI.mk (g:Sl->Int->Hp->OA) (args:List AV) (H:Hp):OA:=match args with
 | [(.sl ac),(.int .i64 ap)]=>g ac ap H
 | _=>none
theorem jI.eqX (F:Nat) (ac:Sl) (ap:Int) (H:Hp):EX (bj []) aY lh0 F Tryz.f16 [(.sl ac),(.int .i64 ap)] H=jI.twX F ac ap H:=by kernel_rfl
theorem jI.k (F:Nat):Ok Tryz.prog 16 (jI.mk (jI.tw F)):=by
 intro args H v H' h
 unfold jI.mk at h
 split at h
 ·exact okT (TB:=aY) Tryz.func16 ca ag.no ((jI.eqX F _ _ H).trans h) (by kernel_rfl)
 ·cases h
def iO.twX (F:Nat) (wW:Sl->Int->Hp->OA) (ac:Sl) (ae:Int) (ah:Int) (H:Hp):OA:=(Hp.new H [(.sl ac),(.int .i64 ae)]).bind λH4=>(Hp.ldSl H4 H.length 0).bind λs5=>(wW s5 ah H4).bind λr6=>((r6.1).asI .i64).bind λn7=>(bif (decide (n7<0)) then (some ((.int .i64 (-1)),r6.2)) else (some ((.int .i64 n7),r6.2)))
def iO.tw (F:Nat) (ac:Sl) (ae:Int) (ah:Int) (H:Hp):OA:=iO.twX F (jI.tw F) ac ae ah H
def iO.mk (g:Sl->Int->Int->Hp->OA) (args:List AV) (H:Hp):OA:=match args with
 | [(.agg [(.sl ac),(.int .i64 ae)]),(.int .i64 ah)]=>g ac ae ah H
 | _=>none
def iO.cs (F:Nat) (wW:Sl->Int->Hp->OA):Cs:=[(16,jI.mk wW)]
theorem iO.eqX (F:Nat) (wW:Sl->Int->Hp->OA) (ac:Sl) (ae:Int) (ah:Int) (H:Hp):EX (bj (iO.cs F wW)) aY lh0 F Tryz.f5 [(.agg [(.sl ac),(.int .i64 ae)]),(.int .i64 ah)] H=iO.twX F wW ac ae ah H:=by kernel_rfl
theorem iO.k (F:Nat):Ok Tryz.prog 5 (iO.mk (iO.tw F)):=by
 intro args H v H' h
 unfold iO.mk at h
 split at h
 ·exact okT (TB:=aY) Tryz.func5 (bi (jI.k F) ca) ag.no ((iO.eqX F (jI.tw F) _ _ _ H).trans h) (by kernel_rfl)
 ·cases h
def jw.twX (F:Nat) (ac:Int) (ae:Int) (aK:Int) (cL:Int) (cH:Int) (H:Hp):OA:=(Hp.new H [(.int .i64 ac),(.int .i64 ae),(.int .i64 aK),(.int .i64 cL),(.int .i64 cH)]).bind λH6=>(Hp.new H6 [.int .i64 0,.int .i64 0,.int .i64 0,.int .i64 0,.int .i64 0]).bind λH7=>(Hp.new H7 [.int .i64 0,.int .i64 0,.int .i64 0,.int .i64 0,.int .i64 0]).bind λH8=>(Hp.ldI H8 .i64 H.length 0).bind λn9=>(Hp.st H8 H7.length 0 (.int .i64 n9)).bind λH10=>(Hp.ldI H10 .i64 H.length 1).bind λn11=>(Hp.st H10 H7.length 1 (.int .i64 n11)).bind λH12=>(Hp.ldI H12 .i64 H.length 2).bind λn13=>(Hp.st H12 H7.length 2 (.int .i64 n13)).bind λH14=>(Hp.ldI H14 .i64 H.length 3).bind λn15=>(Hp.st H14 H7.length 3 (.int .i64 n15)).bind λH16=>(Hp.ldI H16 .i64 H.length 4).bind λn17=>(Hp.st H16 H7.length 4 (.int .i64 n17)).bind λH18=>(Hp.ldI H18 .i64 H7.length 0).bind λn19=>(Hp.ldI H18 .i64 H7.length (0+1)).bind λn20=>(Hp.ldI H18 .i64 H7.length (0+2)).bind λn21=>(Hp.ldI H18 .i64 H7.length (0+3)).bind λn22=>(Hp.ldI H18 .i64 H7.length (0+4)).bind λn23=>(Hp.st H18 H6.length 0 (.int .i64 n19)).bind λH24=>(Hp.st H24 H6.length (0+1) (.int .i64 n20)).bind λH25=>(Hp.st H25 H6.length (0+1+1) (.int .i64 n21)).bind λH26=>(Hp.st H26 H6.length (0+1+1+1) (.int .i64 n22)).bind λH27=>(Hp.st H27 H6.length (0+1+1+1+1) (.int .i64 n23)).bind λH28=>(Hp.ldI H28 .i64 H6.length 0).bind λn29=>(Hp.ldI H28 .i64 H6.length (0+1)).bind λn30=>(Hp.ldI H28 .i64 H6.length (0+2)).bind λn31=>(Hp.ldI H28 .i64 H6.length (0+3)).bind λn32=>(Hp.ldI H28 .i64 H6.length (0+4)).bind λn33=>some ((.agg [(.int .i64 n29),(.int .i64 n30),(.int .i64 n31),(.int .i64 n32),(.int .i64 n33)]),H28)
def jw.tw (F:Nat) (ac:Int) (ae:Int) (aK:Int) (cL:Int) (cH:Int) (H:Hp):OA:=jw.twX F ac ae aK cL cH H
def jw.mk (g:Int->Int->Int->Int->Int->Hp->OA) (args:List AV) (H:Hp):OA:=match args with
 | [(.agg [(.int .i64 ac),(.int .i64 ae),(.int .i64 aK),(.int .i64 cL),(.int .i64 cH)])]=>g ac ae aK cL cH H
 | _=>none
theorem jw.eqX (F:Nat) (ac:Int) (ae:Int) (aK:Int) (cL:Int) (cH:Int) (H:Hp):EX (bj []) aY lh0 F Tryz.f47 [(.agg [(.int .i64 ac),(.int .i64 ae),(.int .i64 aK),(.int .i64 cL),(.int .i64 cH)])] H=jw.twX F ac ae aK cL cH H:=by kernel_rfl
theorem jw.k (F:Nat):Ok Tryz.prog 47 (jw.mk (jw.tw F)):=by
 intro args H v H' h
 unfold jw.mk at h
 split at h
 ·exact okT (TB:=aY) Tryz.func47 ca ag.no ((jw.eqX F _ _ _ _ _ H).trans h) (by kernel_rfl)
 ·cases h
def eE.l29 (F:Nat) (k_:Int->Int->Int->Int->Int->Hp->OA) :Nat->Sl->Sl->Int->Hp->OA
 | 0,_,_,_,_=>none
 | fi+1,eS,rI,l_,H7=>(bif (decide (l_<(eS.n:Int))) then ((Sl.idx eS l_ 5).bind λp32=>(Hp.ldI H7 .i64 p32.1 p32.2).bind λn33=>(Hp.ldI H7 .i64 p32.1 (p32.2+1)).bind λn34=>(Hp.ldI H7 .i64 p32.1 (p32.2+2)).bind λn35=>(Hp.ldI H7 .i64 p32.1 (p32.2+3)).bind λn36=>(Hp.ldI H7 .i64 p32.1 (p32.2+4)).bind λn37=>(k_ n33 n34 n35 n36 n37 H7).bind λr38=>((r38.1).asAgg 5).bind λl39=>(l39[0]?).bind λv40=>((v40).asI .i64).bind λn41=>(l39[1]?).bind λv42=>((v42).asI .i64).bind λn43=>(l39[2]?).bind λv44=>((v44).asI .i64).bind λn45=>(l39[3]?).bind λv46=>((v46).asI .i64).bind λn47=>(l39[4]?).bind λv48=>((v48).asI .i64).bind λn49=>(Sl.idx rI l_ 5).bind λp50=>(Hp.st r38.2 p50.1 p50.2 (.int .i64 n41)).bind λH51=>(Hp.st H51 p50.1 (p50.2+1) (.int .i64 n43)).bind λH52=>(Hp.st H52 p50.1 (p50.2+1+1) (.int .i64 n45)).bind λH53=>(Hp.st H53 p50.1 (p50.2+1+1+1) (.int .i64 n47)).bind λH54=>(Hp.st H54 p50.1 (p50.2+1+1+1+1) (.int .i64 n49)).bind λH55=>eE.l29 F k_ fi eS rI (IntKind.i64.wrap (l_+1)) H55) else (some ((.sl rI),H7)))
def eE.twX (F:Nat) (k_:Int->Int->Int->Int->Int->Hp->OA) (ac:Sl) (H:Hp):OA:=(Hp.mk H [.int .i64 0,.int .i64 0,.int .i64 0,.int .i64 0,.int .i64 0] 40 (ac.n:Int) (ac.n:Int)).bind λm2=>eE.l29 F k_ F ac m2.1 0 m2.2
def eE.tw (F:Nat) (ac:Sl) (H:Hp):OA:=eE.twX F (jw.tw F) ac H
def eE.lh29 (F:Nat) (k_:Int->Int->Int->Int->Int->Hp->OA) (ks:List Nat) (n:Nat) (tm:Tm) (H:Hp):OA:=match ks,tm 0,tm 3,tm 4 with
 | [],(.sl eS),(.sl rI),(.int .i64 l_)=>eE.l29 F k_ n eS rI l_ H
 | _,_,_,_=>none
theorem eE.lh29_inv {F:Nat} {k_:Int->Int->Int->Int->Int->Hp->OA} {ks:List Nat} {n:Nat} {tm:Tm} {H:Hp} {r:AV×Hp} (h:eE.lh29 F k_ ks n tm H=some r):∃ eS rI l_,ks=[]/\ee tm [(0,(.sl eS)),(3,(.sl rI)),(4,(.int .i64 l_))]/\eE.l29 F k_ n eS rI l_ H=some r:=by
 unfold eE.lh29 at h
 split at h
 ·exact ⟨_,_,_,rfl,⟨‹_›,‹_›,‹_›,trivial⟩,h⟩
 ·cases h
def eE.lh (F:Nat) (k_:Int->Int->Int->Int->Int->Hp->OA) (p:Nat) (ks:List Nat) (n:Nat) (tm:Tm) (H:Hp):OA:=bif p.beq 29 then eE.lh29 F k_ ks n tm H else (none)
def eE.mk (g:Sl->Hp->OA) (args:List AV) (H:Hp):OA:=match args with
 | [(.sl ac)]=>g ac H
 | _=>none
def eE.cs (F:Nat) (k_:Int->Int->Int->Int->Int->Hp->OA):Cs:=[(47,jw.mk k_)]
theorem eE.loops (F:Nat) (k_:Int->Int->Int->Int->Int->Hp->OA):LO (bj (eE.cs F k_)) aY (eE.lh F k_) F Tryz.f23:=
 (ag.rt (ag.rt (ag.lt (ag.rt (ag.block (ag.loop (λtm H=>et λr h=>by obtain ⟨eS,rI,l_,hks,e,h⟩:=eE.lh29_inv (show eE.lh29 F k_ [] 0 tm H=some r from h);cases h) (λk29 tm H r h=>by obtain ⟨eS,rI,l_,hks,e,h⟩:=eE.lh29_inv (show eE.lh29 F k_ [] (k29+1) tm H=some r from h);rw [<- ef e];exact Eq.trans (by kernel_rfl) h) λk29=>ag.no))))))
theorem eE.eqX (F:Nat) (k_:Int->Int->Int->Int->Int->Hp->OA) (ac:Sl) (H:Hp):EX (bj (eE.cs F k_)) aY (eE.lh F k_) F Tryz.f23 [(.sl ac)] H=eE.twX F k_ ac H:=by kernel_rfl
theorem eE.k (F:Nat):Ok Tryz.prog 23 (eE.mk (eE.tw F)):=by
 intro args H v H' h
 unfold eE.mk at h
 split at h
 ·exact okT (TB:=aY) Tryz.func23 (bi (jw.k F) ca) (eE.loops F (jw.tw F)) ((eE.eqX F (jw.tw F) _ H).trans h) (by kernel_rfl)
 ·cases h
def iw.twX (F:Nat) (wX:Sl->Hp->OA) (ac:Sl) (ae:Int) (H:Hp):OA:=(Hp.new H [(.sl ac),(.int .i64 ae)]).bind λH3=>(Hp.new H3 [.sl ⟨none,0,.ex 0⟩,.int .i64 0]).bind λH4=>(Hp.new H4 [.sl ⟨none,0,.ex 0⟩,.int .i64 0]).bind λH5=>(Hp.ldSl H5 H.length 0).bind λs6=>(wX s6 H5).bind λr7=>((r7.1).asSl).bind λs8=>(Hp.st r7.2 H4.length 0 (.sl s8)).bind λH9=>(Hp.ldI H9 .i64 H.length 1).bind λn10=>(Hp.st H9 H4.length 1 (.int .i64 n10)).bind λH11=>(Hp.ldSl H11 H4.length 0).bind λs12=>(Hp.ldI H11 .i64 H4.length (0+1)).bind λn13=>(Hp.st H11 H3.length 0 (.sl s12)).bind λH14=>(Hp.st H14 H3.length (0+1) (.int .i64 n13)).bind λH15=>(Hp.ldSl H15 H3.length 0).bind λs16=>(Hp.ldI H15 .i64 H3.length (0+1)).bind λn17=>some ((.agg [(.sl s16),(.int .i64 n17)]),H15)
def iw.tw (F:Nat) (ac:Sl) (ae:Int) (H:Hp):OA:=iw.twX F (eE.tw F) ac ae H
def iw.mk (g:Sl->Int->Hp->OA) (args:List AV) (H:Hp):OA:=match args with
 | [(.agg [(.sl ac),(.int .i64 ae)])]=>g ac ae H
 | _=>none
def iw.cs (F:Nat) (wX:Sl->Hp->OA):Cs:=[(23,eE.mk wX)]
theorem iw.eqX (F:Nat) (wX:Sl->Hp->OA) (ac:Sl) (ae:Int) (H:Hp):EX (bj (iw.cs F wX)) aY lh0 F Tryz.f7 [(.agg [(.sl ac),(.int .i64 ae)])] H=iw.twX F wX ac ae H:=by kernel_rfl
theorem iw.k (F:Nat):Ok Tryz.prog 7 (iw.mk (iw.tw F)):=by
 intro args H v H' h
 unfold iw.mk at h
 split at h
 ·exact okT (TB:=aY) Tryz.func7 (bi (eE.k F) ca) ag.no ((iw.eqX F (eE.tw F) _ _ H).trans h) (by kernel_rfl)
 ·cases h
def fv.twX (F:Nat) (ac:Int) (ap:Int) (de:Int) (H:Hp):OA:=(bif (decide (ac>=ap)) then (some ((.bool (decide (ac<=de))),H)) else (some ((.bool false),H)))
def fv.tw (F:Nat) (ac:Int) (ap:Int) (de:Int) (H:Hp):OA:=fv.twX F ac ap de H
def fv.mk (g:Int->Int->Int->Hp->OA) (args:List AV) (H:Hp):OA:=match args with
 | [(.int .i64 ac),(.int .i64 ap),(.int .i64 de)]=>g ac ap de H
 | _=>none
theorem fv.eqX (F:Nat) (ac:Int) (ap:Int) (de:Int) (H:Hp):EX (bj []) aY lh0 F Tryz.f18 [(.int .i64 ac),(.int .i64 ap),(.int .i64 de)] H=fv.twX F ac ap de H:=by kernel_rfl
theorem fv.k (F:Nat):Ok Tryz.prog 18 (fv.mk (fv.tw F)):=by
 intro args H v H' h
 unfold fv.mk at h
 split at h
 ·exact okT (TB:=aY) Tryz.func18 ca ag.no ((fv.eqX F _ _ _ H).trans h) (by kernel_rfl)
 ·cases h
def fw.twX (F:Nat) (ac:Int) (ae:Int) (aK:Int) (cL:Int) (cH:Int) (eJ:Int) (H:Hp):OA:=(Hp.new H [(.int .i64 ac),(.int .i64 ae),(.int .i64 aK),(.int .i64 cL),(.int .i64 cH)]).bind λH7=>(Hp.ldI H7 .i64 H.length 0).bind λn8=>(Hp.ldI H7 .i64 H.length 1).bind λn9=>(Hp.ldI H7 .i64 H.length 2).bind λn10=>(Hp.ldI H7 .i64 H.length 3).bind λn11=>(Hp.new H7 [(.int .i64 n8),(.int .i64 n9),(.int .i64 n10),(.int .i64 n11)]).bind λH12=>(Sl.idx (⟨some (H7.length,0),4,.ex 4⟩:Sl) eJ 1).bind λp13=>(Hp.ldI H12 .i64 p13.1 p13.2).bind λn14=>some ((.int .i64 n14),H12)
def fw.tw (F:Nat) (ac:Int) (ae:Int) (aK:Int) (cL:Int) (cH:Int) (eJ:Int) (H:Hp):OA:=fw.twX F ac ae aK cL cH eJ H
def fw.mk (g:Int->Int->Int->Int->Int->Int->Hp->OA) (args:List AV) (H:Hp):OA:=match args with
 | [(.agg [(.int .i64 ac),(.int .i64 ae),(.int .i64 aK),(.int .i64 cL),(.int .i64 cH)]),(.int .i64 eJ)]=>g ac ae aK cL cH eJ H
 | _=>none
theorem fw.eqX (F:Nat) (ac:Int) (ae:Int) (aK:Int) (cL:Int) (cH:Int) (eJ:Int) (H:Hp):EX (bj []) aY lh0 F Tryz.f63 [(.agg [(.int .i64 ac),(.int .i64 ae),(.int .i64 aK),(.int .i64 cL),(.int .i64 cH)]),(.int .i64 eJ)] H=fw.twX F ac ae aK cL cH eJ H:=by kernel_rfl
theorem fw.k (F:Nat):Ok Tryz.prog 63 (fw.mk (fw.tw F)):=by
 intro args H v H' h
 unfold fw.mk at h
 split at h
 ·exact okT (TB:=aY) Tryz.func63 ca ag.no ((fw.eqX F _ _ _ _ _ _ H).trans h) (by kernel_rfl)
 ·cases h
def fx.twX (F:Nat) (ac:Int) (ae:Int) (aK:Int) (cL:Int) (cH:Int) (eJ:Int) (H:Hp):OA:=(Hp.new H [(.int .i64 ac),(.int .i64 ae),(.int .i64 aK),(.int .i64 cL),(.int .i64 cH)]).bind λH7=>(bif (eJ==0) then (some ((.bool true),H7)) else ((bif (eJ==3) then ((Hp.ldI H7 .i64 H.length 4).bind λn8=>(bif (n8==1) then (some ((.bool true),H7)) else ((bif (eJ==1) then ((Hp.ldI H7 .i64 H.length 4).bind λn9=>some ((.bool (n9==(-1))),H7)) else (some ((.bool false),H7)))))) else ((bif (eJ==1) then ((Hp.ldI H7 .i64 H.length 4).bind λn10=>some ((.bool (n10==(-1))),H7)) else (some ((.bool false),H7)))))))
def fx.tw (F:Nat) (ac:Int) (ae:Int) (aK:Int) (cL:Int) (cH:Int) (eJ:Int) (H:Hp):OA:=fx.twX F ac ae aK cL cH eJ H
def fx.mk (g:Int->Int->Int->Int->Int->Int->Hp->OA) (args:List AV) (H:Hp):OA:=match args with
 | [(.agg [(.int .i64 ac),(.int .i64 ae),(.int .i64 aK),(.int .i64 cL),(.int .i64 cH)]),(.int .i64 eJ)]=>g ac ae aK cL cH eJ H
 | _=>none
theorem fx.eqX (F:Nat) (ac:Int) (ae:Int) (aK:Int) (cL:Int) (cH:Int) (eJ:Int) (H:Hp):EX (bj []) aY lh0 F Tryz.f64 [(.agg [(.int .i64 ac),(.int .i64 ae),(.int .i64 aK),(.int .i64 cL),(.int .i64 cH)]),(.int .i64 eJ)] H=fx.twX F ac ae aK cL cH eJ H:=by kernel_rfl
theorem fx.k (F:Nat):Ok Tryz.prog 64 (fx.mk (fx.tw F)):=by
 intro args H v H' h
 unfold fx.mk at h
 split at h
 ·exact okT (TB:=aY) Tryz.func64 ca ag.no ((fx.eqX F _ _ _ _ _ _ H).trans h) (by kernel_rfl)
 ·cases h
def bU.l3927 (F:Nat) (cU:Int->Int->Int->Int->Int->Int->Hp->OA) (dY:Int->Int->Int->Hp->OA) (cV:Int->Int->Int->Int->Int->Int->Hp->OA) (C61_:Nat->Nat->Int->Sl->Sl->Int->Hp->OA):Nat->Nat->Nat->Int->Sl->Sl->Int->Nat->Nat->Int->Hp->OA
 | 0,_,_,_,_,_,_,_,_,_,_=>none
 | Px+1,pp,rJ,ma,qv,qw,jx,kI,mT,lf,H126=>(bif (decide (lf<4)) then ((Hp.ldI H126 .i64 kI mT).bind λn151=>(Hp.ldI H126 .i64 kI (mT+1)).bind λn152=>(Hp.ldI H126 .i64 kI (mT+2)).bind λn153=>(Hp.ldI H126 .i64 kI (mT+3)).bind λn154=>(Hp.ldI H126 .i64 kI (mT+4)).bind λn155=>(cU n151 n152 n153 n154 n155 lf H126).bind λr156=>((r156.1).asI .i64).bind λn157=>(dY n157 0 (IntKind.i64.wrap (ma - 1)) r156.2).bind λr158=>((r158.1).asB).bind λb159=>(bif (!b159) then (some ((.bool false),r158.2)) else ((Hp.ldI r158.2 .i64 kI mT).bind λn160=>(Hp.ldI r158.2 .i64 kI (mT+1)).bind λn161=>(Hp.ldI r158.2 .i64 kI (mT+2)).bind λn162=>(Hp.ldI r158.2 .i64 kI (mT+3)).bind λn163=>(Hp.ldI r158.2 .i64 kI (mT+4)).bind λn164=>(cV n160 n161 n162 n163 n164 lf r158.2).bind λr165=>((r165.1).asB).bind λb166=>(bif b166 then ((Sl.idx qv n157 1).bind λp167=>(Hp.ldB r165.2 p167.1 p167.2).bind λb168=>(bif b168 then (some ((.bool false),r165.2)) else ((Sl.idx qv n157 1).bind λp169=>(Hp.st r165.2 p169.1 p169.2 (.bool true)).bind λH170=>bU.l3927 F cU dY cV C61_ Px pp rJ ma qv qw jx kI mT (IntKind.i64.wrap (lf+1)) H170))) else ((Sl.idx qw n157 1).bind λp171=>(Hp.ldB r165.2 p171.1 p171.2).bind λb172=>(bif b172 then (some ((.bool false),r165.2)) else ((Sl.idx qw n157 1).bind λp173=>(Hp.st r165.2 p173.1 p173.2 (.bool true)).bind λH174=>bU.l3927 F cU dY cV C61_ Px pp rJ ma qv qw jx kI mT (IntKind.i64.wrap (lf+1)) H174))))))) else (C61_ pp rJ ma qv qw (IntKind.i64.wrap (jx+1)) H126))
termination_by structural n=>n
def bU.l61 (F:Nat) (cU:Int->Int->Int->Int->Int->Int->Hp->OA) (dY:Int->Int->Int->Hp->OA) (cV:Int->Int->Int->Int->Int->Int->Hp->OA) :Nat->Nat->Nat->Int->Sl->Sl->Int->Hp->OA
 | 0,_,_,_,_,_,_,_=>none
 | eg+1,jg,eT,dL,lP,iM,mb,H16=>(Hp.ldSl H16 jg eT).bind λs96=>(bif (decide (mb<(s96.n:Int))) then ((Hp.ldSl H16 jg eT).bind λs97=>(Sl.idx s97 mb 5).bind λp98=>(Hp.ldI H16 .i64 p98.1 p98.2).bind λn99=>(Hp.ldI H16 .i64 p98.1 (p98.2+1)).bind λn100=>(Hp.ldI H16 .i64 p98.1 (p98.2+2)).bind λn101=>(Hp.ldI H16 .i64 p98.1 (p98.2+3)).bind λn102=>(Hp.ldI H16 .i64 p98.1 (p98.2+4)).bind λn103=>(Hp.new H16 [.int .i64 0,.int .i64 0,.int .i64 0,.int .i64 0,.int .i64 0]).bind λH104=>(Hp.st H104 H16.length 0 (.int .i64 n99)).bind λH105=>(Hp.st H105 H16.length (0+1) (.int .i64 n100)).bind λH106=>(Hp.st H106 H16.length (0+1+1) (.int .i64 n101)).bind λH107=>(Hp.st H107 H16.length (0+1+1+1) (.int .i64 n102)).bind λH108=>(Hp.st H108 H16.length (0+1+1+1+1) (.int .i64 n103)).bind λH109=>(Hp.ldI H109 .i64 H16.length 4).bind λn110=>(bif (n110 != 1) then ((Hp.ldI H109 .i64 H16.length 4).bind λn111=>(bif (n111 != (-1)) then (some ((.bool false),H109)) else (bU.l3927 F cU dY cV (bU.l61 F cU dY cV eg) F jg eT dL lP iM mb H16.length 0 0 H109))) else (bU.l3927 F cU dY cV (bU.l61 F cU dY cV eg) F jg eT dL lP iM mb H16.length 0 0 H109))) else (some ((.bool true),H16)))
termination_by structural n=>n
def bU.twX (F:Nat) (cU:Int->Int->Int->Int->Int->Int->Hp->OA) (dY:Int->Int->Int->Hp->OA) (cV:Int->Int->Int->Int->Int->Int->Hp->OA) (ac:Sl) (ae:Int) (H:Hp):OA:=(Hp.new H [(.sl ac),(.int .i64 ae)]).bind λH3=>(Hp.ldSl H3 H.length 0).bind λs4=>(Hp.mk H3 [.bool false] 1 (IntKind.i64.wrap (2 * (s4.n:Int))) (IntKind.i64.wrap (2 * (s4.n:Int)))).bind λm5=>(Hp.mk m5.2 [.bool false] 1 (IntKind.i64.wrap (2 * (s4.n:Int))) (IntKind.i64.wrap (2 * (s4.n:Int)))).bind λm6=>bU.l61 F cU dY cV F H.length 0 (IntKind.i64.wrap (2 * (s4.n:Int))) m5.1 m6.1 0 m6.2
def bU.tw (F:Nat) (ac:Sl) (ae:Int) (H:Hp):OA:=bU.twX F (fw.tw F) (fv.tw F) (fx.tw F) ac ae H
def bU.lh61 (F:Nat) (cU:Int->Int->Int->Int->Int->Int->Hp->OA) (dY:Int->Int->Int->Hp->OA) (cV:Int->Int->Int->Int->Int->Int->Hp->OA) (ks:List Nat) (n:Nat) (tm:Tm) (H:Hp):OA:=match ks,tm 1,tm 3,tm 4,tm 5,tm 6 with
 | [],(.ptr jg eT),(.int .i64 dL),(.sl lP),(.sl iM),(.int .i64 mb)=>bU.l61 F cU dY cV n jg eT dL lP iM mb H
 | _,_,_,_,_,_=>none
theorem bU.lh61_inv {F:Nat} {cU:Int->Int->Int->Int->Int->Int->Hp->OA} {dY:Int->Int->Int->Hp->OA} {cV:Int->Int->Int->Int->Int->Int->Hp->OA} {ks:List Nat} {n:Nat} {tm:Tm} {H:Hp} {r:AV×Hp} (h:bU.lh61 F cU dY cV ks n tm H=some r):∃ jg eT dL lP iM mb,ks=[]/\ee tm [(1,(.ptr jg eT)),(3,(.int .i64 dL)),(4,(.sl lP)),(5,(.sl iM)),(6,(.int .i64 mb))]/\bU.l61 F cU dY cV n jg eT dL lP iM mb H=some r:=by
 unfold bU.lh61 at h
 split at h
 ·exact ⟨_,_,_,_,_,_,rfl,⟨‹_›,‹_›,‹_›,‹_›,‹_›,trivial⟩,h⟩
 ·cases h
def bU.lh3927 (F:Nat) (cU:Int->Int->Int->Int->Int->Int->Hp->OA) (dY:Int->Int->Int->Hp->OA) (cV:Int->Int->Int->Int->Int->Int->Hp->OA) (ks:List Nat) (n:Nat) (tm:Tm) (H:Hp):OA:=match ks,tm 1,tm 3,tm 4,tm 5,tm 6,tm 7,tm 8 with
 | [eg],(.ptr pp rJ),(.int .i64 ma),(.sl qv),(.sl qw),(.int .i64 jx),(.ptr kI mT),(.int .i64 lf)=>bU.l3927 F cU dY cV (bU.l61 F cU dY cV eg) n pp rJ ma qv qw jx kI mT lf H
 | _,_,_,_,_,_,_,_=>none
theorem bU.lh3927_inv {F:Nat} {cU:Int->Int->Int->Int->Int->Int->Hp->OA} {dY:Int->Int->Int->Hp->OA} {cV:Int->Int->Int->Int->Int->Int->Hp->OA} {ks:List Nat} {n:Nat} {tm:Tm} {H:Hp} {r:AV×Hp} (h:bU.lh3927 F cU dY cV ks n tm H=some r):∃ eg pp rJ ma qv qw jx kI mT lf,ks=[eg]/\ee tm [(1,(.ptr pp rJ)),(3,(.int .i64 ma)),(4,(.sl qv)),(5,(.sl qw)),(6,(.int .i64 jx)),(7,(.ptr kI mT)),(8,(.int .i64 lf))]/\bU.l3927 F cU dY cV (bU.l61 F cU dY cV eg) n pp rJ ma qv qw jx kI mT lf H=some r:=by
 unfold bU.lh3927 at h
 split at h
 ·exact ⟨_,_,_,_,_,_,_,_,_,_,rfl,⟨‹_›,‹_›,‹_›,‹_›,‹_›,‹_›,‹_›,trivial⟩,h⟩
 ·cases h
def bU.lh (F:Nat) (cU:Int->Int->Int->Int->Int->Int->Hp->OA) (dY:Int->Int->Int->Hp->OA) (cV:Int->Int->Int->Int->Int->Int->Hp->OA) (p:Nat) (ks:List Nat) (n:Nat) (tm:Tm) (H:Hp):OA:=bif p.beq 3927 then bU.lh3927 F cU dY cV ks n tm H else (bif p.beq 61 then bU.lh61 F cU dY cV ks n tm H else (none))
def bU.tb:Nat->List (List Nat):=eX [(2,[[],[0],[],[2],[0,1],[0,1,2,3,4]])]
def bU.mk (g:Sl->Int->Hp->OA) (args:List AV) (H:Hp):OA:=match args with
 | [(.agg [(.sl ac),(.int .i64 ae)])]=>g ac ae H
 | _=>none
def bU.cs (F:Nat) (cU:Int->Int->Int->Int->Int->Int->Hp->OA) (dY:Int->Int->Int->Hp->OA) (cV:Int->Int->Int->Int->Int->Int->Hp->OA):Cs:=[(63,fw.mk cU),(18,fv.mk dY),(64,fx.mk cV)]
theorem bU.loops (F:Nat) (cU:Int->Int->Int->Int->Int->Int->Hp->OA) (dY:Int->Int->Int->Hp->OA) (cV:Int->Int->Int->Int->Int->Int->Hp->OA):LO (bj (bU.cs F cU dY cV)) aY (bU.lh F cU dY cV) F Tryz.f41:=
 (ag.rt (ag.rt (ag.rt (ag.lt (ag.rt (ag.block (ag.loop (λtm H=>et λr h=>by obtain ⟨jg,eT,dL,lP,iM,mb,hks,e,h⟩:=bU.lh61_inv (show bU.lh61 F cU dY cV [] 0 tm H=some r from h);cases h) (λk61 tm H r h=>by obtain ⟨jg,eT,dL,lP,iM,mb,hks,e,h⟩:=bU.lh61_inv (show bU.lh61 F cU dY cV [] (k61+1) tm H=some r from h);rw [<- ef e];exact Eq.trans (by kernel_rfl) h) λk61=>(ag.rt (ag.lt (ag.block (ag.rt (ag.rt (ag.rt (ag.block (ag.loop (λtm H=>et λr h=>by obtain ⟨eg,pp,rJ,ma,qv,qw,jx,kI,mT,lf,hks,e,h⟩:=bU.lh3927_inv (show bU.lh3927 F cU dY cV [k61] 0 tm H=some r from h);cases h) (λk3927 tm H r h=>by obtain ⟨eg,pp,rJ,ma,qv,qw,jx,kI,mT,lf,hks,e,h⟩:=bU.lh3927_inv (show bU.lh3927 F cU dY cV [k61] (k3927+1) tm H=some r from h);cases hks;rw [<- ef e];exact Eq.trans (by kernel_rfl) h) λk3927=>ag.no)))))))))))))))
theorem bU.eqX (F:Nat) (cU:Int->Int->Int->Int->Int->Int->Hp->OA) (dY:Int->Int->Int->Hp->OA) (cV:Int->Int->Int->Int->Int->Int->Hp->OA) (ac:Sl) (ae:Int) (H:Hp):EX (bj (bU.cs F cU dY cV)) aY (bU.lh F cU dY cV) F Tryz.f41 [(.agg [(.sl ac),(.int .i64 ae)])] H=bU.twX F cU dY cV ac ae H:=by kernel_rfl
theorem bU.k (F:Nat):Ok Tryz.prog 41 (bU.mk (bU.tw F)):=by
 intro args H v H' h
 unfold bU.mk at h
 split at h
 ·exact okT (TB:=bU.tb) Tryz.func41 (bi (fw.k F) (bi (fv.k F) (bi (fx.k F) ca))) (bU.loops F (fw.tw F) (fv.tw F) (fx.tw F)) ((bU.eqX F (fw.tw F) (fv.tw F) (fx.tw F) _ _ H).trans h) (by kernel_rfl)
 ·cases h
def bm.j3 (F:Nat) (cU:Int->Int->Int->Int->Int->Int->Hp->OA) (cV:Int->Int->Int->Int->Int->Int->Hp->OA) (C13_:Int->Bool->Nat->Nat->Int->Hp->OA) (pW:Int) (wY:Bool) (pr:Nat) (wZ:Nat) (w_:Int) (H147:Hp):OA:=C13_ pW wY pr wZ (IntKind.i64.wrap (w_+1)) H147
def bm.j4 (F:Nat) (cU:Int->Int->Int->Int->Int->Int->Hp->OA) (cV:Int->Int->Int->Int->Int->Int->Hp->OA) (C13_:Int->Bool->Nat->Nat->Int->Hp->OA) (xa:Int) (xb:Bool) (CE:Nat) (XY:Nat) (xc:Int) (H134:Hp):OA:=bm.j3 F cU cV C13_ xa xb CE XY xc H134
def bm.l213 (F:Nat) (cU:Int->Int->Int->Int->Int->Int->Hp->OA) (cV:Int->Int->Int->Int->Int->Int->Hp->OA) (C13_:Int->Bool->Nat->Nat->Int->Hp->OA):Nat->Int->Bool->Nat->Nat->Int->Int->Hp->OA
 | 0,_,_,_,_,_,_,_=>none
 | CF+1,mc,md,ol,qx,kq,kr,H103=>(bif (decide (kr<4)) then ((Hp.ldSl H103 ol qx).bind λs148=>(Sl.idx s148 kq 5).bind λp149=>(Hp.ldI H103 .i64 p149.1 p149.2).bind λn150=>(Hp.ldI H103 .i64 p149.1 (p149.2+1)).bind λn151=>(Hp.ldI H103 .i64 p149.1 (p149.2+2)).bind λn152=>(Hp.ldI H103 .i64 p149.1 (p149.2+3)).bind λn153=>(Hp.ldI H103 .i64 p149.1 (p149.2+4)).bind λn154=>(cU n150 n151 n152 n153 n154 kr H103).bind λr155=>((r155.1).asI .i64).bind λn156=>(bif (n156==mc) then ((Hp.ldSl r155.2 ol qx).bind λs157=>(Sl.idx s157 kq 5).bind λp158=>(Hp.ldI r155.2 .i64 p158.1 p158.2).bind λn159=>(Hp.ldI r155.2 .i64 p158.1 (p158.2+1)).bind λn160=>(Hp.ldI r155.2 .i64 p158.1 (p158.2+2)).bind λn161=>(Hp.ldI r155.2 .i64 p158.1 (p158.2+3)).bind λn162=>(Hp.ldI r155.2 .i64 p158.1 (p158.2+4)).bind λn163=>(cV n159 n160 n161 n162 n163 kr r155.2).bind λr164=>((r164.1).asB).bind λb165=>(bif (b165==md) then (some ((.tup [(.int .i64 kq),(.int .i64 kr)]),r164.2)) else (bm.l213 F cU cV C13_ CF mc md ol qx kq (IntKind.i64.wrap (kr+1)) r164.2))) else (bm.l213 F cU cV C13_ CF mc md ol qx kq (IntKind.i64.wrap (kr+1)) r155.2))) else (bm.j4 F cU cV C13_ mc md ol qx kq H103))
termination_by structural n=>n
def bm.l13 (F:Nat) (cU:Int->Int->Int->Int->Int->Int->Hp->OA) (cV:Int->Int->Int->Int->Int->Int->Hp->OA) :Nat->Int->Bool->Nat->Nat->Int->Hp->OA
 | 0,_,_,_,_,_,_=>none
 | jy+1,c_,pt,kJ,jz,om,H15=>(Hp.ldSl H15 kJ jz).bind λs91=>(bif (decide (om<(s91.n:Int))) then (bm.l213 F cU cV (bm.l13 F cU cV jy) F c_ pt kJ jz om 0 H15) else (some ((.tup [(.int .i64 (-1)),(.int .i64 (-1))]),H15)))
termination_by structural n=>n
def bm.twX (F:Nat) (cU:Int->Int->Int->Int->Int->Int->Hp->OA) (cV:Int->Int->Int->Int->Int->Int->Hp->OA) (ac:Sl) (ae:Int) (ah:Int) (cf:Bool) (H:Hp):OA:=(Hp.new H [(.sl ac),(.int .i64 ae)]).bind λH5=>bm.l13 F cU cV F ah cf H.length 0 0 H5
def bm.tw (F:Nat) (ac:Sl) (ae:Int) (ah:Int) (cf:Bool) (H:Hp):OA:=bm.twX F (fw.tw F) (fx.tw F) ac ae ah cf H
def bm.lh13 (F:Nat) (cU:Int->Int->Int->Int->Int->Int->Hp->OA) (cV:Int->Int->Int->Int->Int->Int->Hp->OA) (ks:List Nat) (n:Nat) (tm:Tm) (H:Hp):OA:=match ks,tm 1,tm 2,tm 3,tm 8 with
 | [],(.int .i64 c_),(.bool pt),(.ptr kJ jz),(.int .i64 om)=>bm.l13 F cU cV n c_ pt kJ jz om H
 | _,_,_,_,_=>none
theorem bm.lh13_inv {F:Nat} {cU:Int->Int->Int->Int->Int->Int->Hp->OA} {cV:Int->Int->Int->Int->Int->Int->Hp->OA} {ks:List Nat} {n:Nat} {tm:Tm} {H:Hp} {r:AV×Hp} (h:bm.lh13 F cU cV ks n tm H=some r):∃ c_ pt kJ jz om,ks=[]/\ee tm [(1,(.int .i64 c_)),(2,(.bool pt)),(3,(.ptr kJ jz)),(8,(.int .i64 om))]/\bm.l13 F cU cV n c_ pt kJ jz om H=some r:=by
 unfold bm.lh13 at h
 split at h
 ·exact ⟨_,_,_,_,_,rfl,⟨‹_›,‹_›,‹_›,‹_›,trivial⟩,h⟩
 ·cases h
def bm.lh213 (F:Nat) (cU:Int->Int->Int->Int->Int->Int->Hp->OA) (cV:Int->Int->Int->Int->Int->Int->Hp->OA) (ks:List Nat) (n:Nat) (tm:Tm) (H:Hp):OA:=match ks,tm 1,tm 2,tm 3,tm 8,tm 9 with
 | [jy],(.int .i64 mc),(.bool md),(.ptr ol qx),(.int .i64 kq),(.int .i64 kr)=>bm.l213 F cU cV (bm.l13 F cU cV jy) n mc md ol qx kq kr H
 | _,_,_,_,_,_=>none
theorem bm.lh213_inv {F:Nat} {cU:Int->Int->Int->Int->Int->Int->Hp->OA} {cV:Int->Int->Int->Int->Int->Int->Hp->OA} {ks:List Nat} {n:Nat} {tm:Tm} {H:Hp} {r:AV×Hp} (h:bm.lh213 F cU cV ks n tm H=some r):∃ jy mc md ol qx kq kr,ks=[jy]/\ee tm [(1,(.int .i64 mc)),(2,(.bool md)),(3,(.ptr ol qx)),(8,(.int .i64 kq)),(9,(.int .i64 kr))]/\bm.l213 F cU cV (bm.l13 F cU cV jy) n mc md ol qx kq kr H=some r:=by
 unfold bm.lh213 at h
 split at h
 ·exact ⟨_,_,_,_,_,_,_,rfl,⟨‹_›,‹_›,‹_›,‹_›,‹_›,trivial⟩,h⟩
 ·cases h
def bm.lh (F:Nat) (cU:Int->Int->Int->Int->Int->Int->Hp->OA) (cV:Int->Int->Int->Int->Int->Int->Hp->OA) (p:Nat) (ks:List Nat) (n:Nat) (tm:Tm) (H:Hp):OA:=bif p.beq 213 then bm.lh213 F cU cV ks n tm H else (bif p.beq 13 then bm.lh13 F cU cV ks n tm H else (none))
def bm.mk (g:Sl->Int->Int->Bool->Hp->OA) (args:List AV) (H:Hp):OA:=match args with
 | [(.agg [(.sl ac),(.int .i64 ae)]),(.int .i64 ah),(.bool cf)]=>g ac ae ah cf H
 | _=>none
def bm.cs (F:Nat) (cU:Int->Int->Int->Int->Int->Int->Hp->OA) (cV:Int->Int->Int->Int->Int->Int->Hp->OA):Cs:=[(63,fw.mk cU),(64,fx.mk cV)]
theorem bm.loops (F:Nat) (cU:Int->Int->Int->Int->Int->Int->Hp->OA) (cV:Int->Int->Int->Int->Int->Int->Hp->OA):LO (bj (bm.cs F cU cV)) aY (bm.lh F cU cV) F Tryz.f82:=
 (ag.rt (ag.lt (ag.rt (ag.block (ag.loop (λtm H=>et λr h=>by obtain ⟨c_,pt,kJ,jz,om,hks,e,h⟩:=bm.lh13_inv (show bm.lh13 F cU cV [] 0 tm H=some r from h);cases h) (λk13 tm H r h=>by obtain ⟨c_,pt,kJ,jz,om,hks,e,h⟩:=bm.lh13_inv (show bm.lh13 F cU cV [] (k13+1) tm H=some r from h);rw [<- ef e];exact Eq.trans (by kernel_rfl) h) λk13=>(ag.rt (ag.lt (ag.block (ag.rt (ag.block (ag.loop (λtm H=>et λr h=>by obtain ⟨jy,mc,md,ol,qx,kq,kr,hks,e,h⟩:=bm.lh213_inv (show bm.lh213 F cU cV [k13] 0 tm H=some r from h);cases h) (λk213 tm H r h=>by obtain ⟨jy,mc,md,ol,qx,kq,kr,hks,e,h⟩:=bm.lh213_inv (show bm.lh213 F cU cV [k13] (k213+1) tm H=some r from h);cases hks;rw [<- ef e];exact Eq.trans (by kernel_rfl) h) λk213=>ag.no)))))))))))
theorem bm.eqX (F:Nat) (cU:Int->Int->Int->Int->Int->Int->Hp->OA) (cV:Int->Int->Int->Int->Int->Int->Hp->OA) (ac:Sl) (ae:Int) (ah:Int) (cf:Bool) (H:Hp):EX (bj (bm.cs F cU cV)) aY (bm.lh F cU cV) F Tryz.f82 [(.agg [(.sl ac),(.int .i64 ae)]),(.int .i64 ah),(.bool cf)] H=bm.twX F cU cV ac ae ah cf H:=by kernel_rfl
theorem bm.k (F:Nat):Ok Tryz.prog 82 (bm.mk (bm.tw F)):=by
 intro args H v H' h
 unfold bm.mk at h
 split at h
 ·exact okT (TB:=aY) Tryz.func82 (bi (fw.k F) (bi (fx.k F) ca)) (bm.loops F (fw.tw F) (fx.tw F)) ((bm.eqX F (fw.tw F) (fx.tw F) _ _ _ _ H).trans h) (by kernel_rfl)
 ·cases h
def gM.twX (F:Nat) (cU:Int->Int->Int->Int->Int->Int->Hp->OA) (cV:Int->Int->Int->Int->Int->Int->Hp->OA) (eF:Sl->Int->Int->Bool->Hp->OA) (ac:Sl) (ae:Int) (ah:Int) (H:Hp):OA:=(Hp.new H [(.sl ac),(.int .i64 ae)]).bind λH4=>(Hp.ldSl H4 H.length 0).bind λs5=>(Sl.idx s5 (IntKind.i64.wrap (Int.tdiv ah 4)) 5).bind λp6=>(Hp.ldI H4 .i64 p6.1 p6.2).bind λn7=>(Hp.ldI H4 .i64 p6.1 (p6.2+1)).bind λn8=>(Hp.ldI H4 .i64 p6.1 (p6.2+2)).bind λn9=>(Hp.ldI H4 .i64 p6.1 (p6.2+3)).bind λn10=>(Hp.ldI H4 .i64 p6.1 (p6.2+4)).bind λn11=>(Hp.new H4 [.int .i64 0,.int .i64 0,.int .i64 0,.int .i64 0,.int .i64 0]).bind λH12=>(Hp.st H12 H4.length 0 (.int .i64 n7)).bind λH13=>(Hp.st H13 H4.length (0+1) (.int .i64 n8)).bind λH14=>(Hp.st H14 H4.length (0+1+1) (.int .i64 n9)).bind λH15=>(Hp.st H15 H4.length (0+1+1+1) (.int .i64 n10)).bind λH16=>(Hp.st H16 H4.length (0+1+1+1+1) (.int .i64 n11)).bind λH17=>(Hp.ldSl H17 H.length 0).bind λs18=>(Hp.ldI H17 .i64 H.length (0+1)).bind λn19=>(Hp.ldI H17 .i64 H4.length 0).bind λn20=>(Hp.ldI H17 .i64 H4.length (0+1)).bind λn21=>(Hp.ldI H17 .i64 H4.length (0+2)).bind λn22=>(Hp.ldI H17 .i64 H4.length (0+3)).bind λn23=>(Hp.ldI H17 .i64 H4.length (0+4)).bind λn24=>(cU n20 n21 n22 n23 n24 (Int.tmod (IntKind.i64.wrap ((Int.tmod ah 4)+1)) 4) H17).bind λr25=>((r25.1).asI .i64).bind λn26=>(if bu H17 r25.2 then ((Hp.ldI r25.2 .i64 H4.length 0).bind λn27=>(Hp.ldI r25.2 .i64 H4.length (0+1)).bind λn28=>(Hp.ldI r25.2 .i64 H4.length (0+2)).bind λn29=>(Hp.ldI r25.2 .i64 H4.length (0+3)).bind λn30=>(Hp.ldI r25.2 .i64 H4.length (0+4)).bind λn31=>(cV n27 n28 n29 n30 n31 (Int.tmod (IntKind.i64.wrap ((Int.tmod ah 4)+1)) 4) r25.2).bind λr32=>((r32.1).asB).bind λb33=>(if bu r25.2 r32.2 then ((eF s18 n19 n26 (!b33) r32.2).bind λr34=>((r34.1).asTup 2).bind λl35=>(l35[0]?).bind λv36=>((v36).asI .i64).bind λn37=>(l35[1]?).bind λv38=>((v38).asI .i64).bind λn39=>some ((.int .i64 (IntKind.i64.wrap ((IntKind.i64.wrap (4 * n37))+n39))),r34.2)) else none)) else none)
def gM.tw (F:Nat) (ac:Sl) (ae:Int) (ah:Int) (H:Hp):OA:=gM.twX F (fw.tw F) (fx.tw F) (bm.tw F) ac ae ah H
def gM.pn:Nat->List Nat:=eX [(3,[8])]
def gM.tb:Nat->List (List Nat):=eX [(3,[[],[],[],[1,2],[],[],[1,2,3,4,5],[1,2,3,4,5,6],[0,1,2,3,4,5,6,7],[0,1,2,3,4,5,6,7,8],[0,1,2,3,4,5,6,7,8,9],[0,1,2,3,4,5,6,7,8,9],[0,1,2,3,4,5,6,7,8,9,10],[0,1,2,3,4,5,6,7,8,9,10,11,12]])]
def gM.mk (g:Sl->Int->Int->Hp->OA) (args:List AV) (H:Hp):OA:=match args with
 | [(.agg [(.sl ac),(.int .i64 ae)]),(.int .i64 ah)]=>g ac ae ah H
 | _=>none
def gM.cs (F:Nat) (cU:Int->Int->Int->Int->Int->Int->Hp->OA) (cV:Int->Int->Int->Int->Int->Int->Hp->OA) (eF:Sl->Int->Int->Bool->Hp->OA):Cs:=[(63,fw.mk cU),(64,fx.mk cV),(82,bm.mk eF)]
theorem gM.eqX (F:Nat) (cU:Int->Int->Int->Int->Int->Int->Hp->OA) (cV:Int->Int->Int->Int->Int->Int->Hp->OA) (eF:Sl->Int->Int->Bool->Hp->OA) (ac:Sl) (ae:Int) (ah:Int) (H:Hp):EX (bj (gM.cs F cU cV eF)) gM.pn lh0 F Tryz.f65 [(.agg [(.sl ac),(.int .i64 ae)]),(.int .i64 ah)] H=gM.twX F cU cV eF ac ae ah H:=by kernel_rfl
theorem gM.k (F:Nat):Ok Tryz.prog 65 (gM.mk (gM.tw F)):=by
 intro args H v H' h
 unfold gM.mk at h
 split at h
 ·exact okT (TB:=gM.tb) Tryz.func65 (bi (fw.k F) (bi (fx.k F) (bi (bm.k F) ca))) ag.no ((gM.eqX F (fw.tw F) (fx.tw F) (bm.tw F) _ _ _ H).trans h) (by kernel_rfl)
 ·cases h
def bv.j4 (F:Nat) (gm:Sl->Int->Int->Hp->OA) (C61_:Nat->Nat->Sl->Sl->Int->Hp->OA) (CG:Nat) (XZ:Nat) (X_:Sl) (Ya:Sl) (mU:Int) (H108:Hp):OA:=C61_ CG XZ X_ Ya (IntKind.i64.wrap (mU+1)) H108
def bv.j5 (F:Nat) (gm:Sl->Int->Int->Hp->OA) (C61_:Nat->Nat->Sl->Sl->Int->Hp->OA) (CH:Nat) (Yb:Nat) (Yc:Sl) (Yd:Sl) (xd:Int) (H164:Hp):OA:=C61_ CH Yb Yc Yd (IntKind.i64.wrap (xd+1)) H164
def bv.j6 (F:Nat) (gm:Sl->Int->Int->Hp->OA) (C61_:Nat->Nat->Sl->Sl->Int->Hp->OA) (CI:Nat) (pW:Nat) (pr:Sl) (xe:Sl) (xf:Int) (tU:Sl) (H147:Hp):OA:=(Hp.new H147 [(.sl tU)]).bind λH148=>(Sl.row H148 (⟨some (H147.length,0),1,.ex 1⟩:Sl) 1).bind λxs150=>(Hp.app H148 1 24 pr (⟨some (H147.length,0),1,.ex 1⟩:Sl).n xs150).bind λa149=>bv.j5 F gm C61_ CI pW a149.1 xe xf a149.2
def bv.l7853 (F:Nat) (gm:Sl->Int->Int->Hp->OA) (C61_:Nat->Nat->Sl->Sl->Int->Hp->OA):Nat->Nat->Nat->Sl->Sl->Int->Sl->Int->Hp->OA
 | 0,_,_,_,_,_,_,_,_=>none
 | Ye+1,oW,qV,sD,qW,oq,jx,lg,H122=>(Sl.idx qW lg 1).bind λp165=>(Hp.ldB H122 p165.1 p165.2).bind λb166=>(bif (!b166) then ((Sl.idx qW lg 1).bind λp167=>(Hp.st H122 p167.1 p167.2 (.bool true)).bind λH168=>(Hp.new H168 [(.int .i64 lg)]).bind λH169=>(Sl.row H169 (⟨some (H168.length,0),1,.ex 1⟩:Sl) 1).bind λxs171=>(Hp.app H169 1 8 jx (⟨some (H168.length,0),1,.ex 1⟩:Sl).n xs171).bind λa170=>(Hp.ldSl a170.2 oW qV).bind λs172=>(Hp.ldI a170.2 .i64 oW (qV+1)).bind λn173=>(gm s172 n173 lg a170.2).bind λr174=>((r174.1).asI .i64).bind λn175=>bv.l7853 F gm C61_ Ye oW qV sD qW oq a170.1 n175 r174.2) else (bv.j6 F gm C61_ oW qV sD qW oq jx H122))
termination_by structural n=>n
def bv.l61 (F:Nat) (gm:Sl->Int->Int->Hp->OA) :Nat->Nat->Nat->Sl->Sl->Int->Hp->OA
 | 0,_,_,_,_,_,_=>none
 | eg+1,jg,eT,dL,lP,iM,H15=>(bif (decide (iM<(lP.n:Int))) then ((Sl.idx lP iM 1).bind λp96=>(Hp.ldB H15 p96.1 p96.2).bind λb97=>(bif b97 then (bv.j4 F gm (bv.l61 F gm eg) jg eT dL lP iM H15) else ((Hp.new H15 []).bind λH109=>bv.l7853 F gm (bv.l61 F gm eg) F jg eT dL lP iM (⟨some (H15.length,0),0,.ex 0⟩:Sl) iM H109))) else (some ((.sl dL),H15)))
termination_by structural n=>n
def bv.twX (F:Nat) (gm:Sl->Int->Int->Hp->OA) (ac:Sl) (ae:Int) (H:Hp):OA:=(Hp.new H [(.sl ac),(.int .i64 ae)]).bind λH3=>(Hp.new H3 []).bind λH4=>(Hp.ldSl H4 H.length 0).bind λs5=>(Hp.mk H4 [.bool false] 1 (IntKind.i64.wrap (4 * (s5.n:Int))) (IntKind.i64.wrap (4 * (s5.n:Int)))).bind λm6=>bv.l61 F gm F H.length 0 (⟨some (H3.length,0),0,.ex 0⟩:Sl) m6.1 0 m6.2
def bv.tw (F:Nat) (ac:Sl) (ae:Int) (H:Hp):OA:=bv.twX F (gM.tw F) ac ae H
def bv.lh61 (F:Nat) (gm:Sl->Int->Int->Hp->OA) (ks:List Nat) (n:Nat) (tm:Tm) (H:Hp):OA:=match ks,tm 1,tm 3,tm 4,tm 5 with
 | [],(.ptr jg eT),(.sl dL),(.sl lP),(.int .i64 iM)=>bv.l61 F gm n jg eT dL lP iM H
 | _,_,_,_,_=>none
theorem bv.lh61_inv {F:Nat} {gm:Sl->Int->Int->Hp->OA} {ks:List Nat} {n:Nat} {tm:Tm} {H:Hp} {r:AV×Hp} (h:bv.lh61 F gm ks n tm H=some r):∃ jg eT dL lP iM,ks=[]/\ee tm [(1,(.ptr jg eT)),(3,(.sl dL)),(4,(.sl lP)),(5,(.int .i64 iM))]/\bv.l61 F gm n jg eT dL lP iM H=some r:=by
 unfold bv.lh61 at h
 split at h
 ·exact ⟨_,_,_,_,_,rfl,⟨‹_›,‹_›,‹_›,‹_›,trivial⟩,h⟩
 ·cases h
def bv.lh7853 (F:Nat) (gm:Sl->Int->Int->Hp->OA) (ks:List Nat) (n:Nat) (tm:Tm) (H:Hp):OA:=match ks,tm 1,tm 3,tm 4,tm 5,tm 6,tm 7 with
 | [eg],(.ptr oW qV),(.sl sD),(.sl qW),(.int .i64 oq),(.sl jx),(.int .i64 lg)=>bv.l7853 F gm (bv.l61 F gm eg) n oW qV sD qW oq jx lg H
 | _,_,_,_,_,_,_=>none
theorem bv.lh7853_inv {F:Nat} {gm:Sl->Int->Int->Hp->OA} {ks:List Nat} {n:Nat} {tm:Tm} {H:Hp} {r:AV×Hp} (h:bv.lh7853 F gm ks n tm H=some r):∃ eg oW qV sD qW oq jx lg,ks=[eg]/\ee tm [(1,(.ptr oW qV)),(3,(.sl sD)),(4,(.sl qW)),(5,(.int .i64 oq)),(6,(.sl jx)),(7,(.int .i64 lg))]/\bv.l7853 F gm (bv.l61 F gm eg) n oW qV sD qW oq jx lg H=some r:=by
 unfold bv.lh7853 at h
 split at h
 ·exact ⟨_,_,_,_,_,_,_,_,rfl,⟨‹_›,‹_›,‹_›,‹_›,‹_›,‹_›,trivial⟩,h⟩
 ·cases h
def bv.lh (F:Nat) (gm:Sl->Int->Int->Hp->OA) (p:Nat) (ks:List Nat) (n:Nat) (tm:Tm) (H:Hp):OA:=bif p.beq 7853 then bv.lh7853 F gm ks n tm H else (bif p.beq 61 then bv.lh61 F gm ks n tm H else (none))
def bv.mk (g:Sl->Int->Hp->OA) (args:List AV) (H:Hp):OA:=match args with
 | [(.agg [(.sl ac),(.int .i64 ae)])]=>g ac ae H
 | _=>none
def bv.cs (F:Nat) (gm:Sl->Int->Int->Hp->OA):Cs:=[(65,gM.mk gm)]
theorem bv.loops (F:Nat) (gm:Sl->Int->Int->Hp->OA):LO (bj (bv.cs F gm)) aY (bv.lh F gm) F Tryz.f42:=
 (ag.rt (ag.rt (ag.rt (ag.lt (ag.rt (ag.block (ag.loop (λtm H=>et λr h=>by obtain ⟨jg,eT,dL,lP,iM,hks,e,h⟩:=bv.lh61_inv (show bv.lh61 F gm [] 0 tm H=some r from h);cases h) (λk61 tm H r h=>by obtain ⟨jg,eT,dL,lP,iM,hks,e,h⟩:=bv.lh61_inv (show bv.lh61 F gm [] (k61+1) tm H=some r from h);rw [<- ef e];exact Eq.trans (by kernel_rfl) h) λk61=>(ag.rt (ag.lt (ag.block (ag.rt (ag.rt (ag.lt (ag.rt (ag.block (ag.loop (λtm H=>et λr h=>by obtain ⟨eg,oW,qV,sD,qW,oq,jx,lg,hks,e,h⟩:=bv.lh7853_inv (show bv.lh7853 F gm [k61] 0 tm H=some r from h);cases h) (λk7853 tm H r h=>by obtain ⟨eg,oW,qV,sD,qW,oq,jx,lg,hks,e,h⟩:=bv.lh7853_inv (show bv.lh7853 F gm [k61] (k7853+1) tm H=some r from h);cases hks;rw [<- ef e];exact Eq.trans (by kernel_rfl) h) λk7853=>ag.no))))))))))))))))
theorem bv.eqX (F:Nat) (gm:Sl->Int->Int->Hp->OA) (ac:Sl) (ae:Int) (H:Hp):EX (bj (bv.cs F gm)) aY (bv.lh F gm) F Tryz.f42 [(.agg [(.sl ac),(.int .i64 ae)])] H=bv.twX F gm ac ae H:=by kernel_rfl
theorem bv.k (F:Nat):Ok Tryz.prog 42 (bv.mk (bv.tw F)):=by
 intro args H v H' h
 unfold bv.mk at h
 split at h
 ·exact okT (TB:=aY) Tryz.func42 (bi (gM.k F) ca) (bv.loops F (gM.tw F)) ((bv.eqX F (gM.tw F) _ _ H).trans h) (by kernel_rfl)
 ·cases h
def aN.j6 (F:Nat) (eF:Sl->Int->Int->Bool->Hp->OA) (C61_:Nat->Nat->Sl->Int->Hp->OA) (CJ:Nat) (Yf:Nat) (Yg:Sl) (xh:Int) (H243:Hp):OA:=C61_ CJ Yf Yg (IntKind.i64.wrap (xh+1)) H243
def aN.j7 (F:Nat) (eF:Sl->Int->Int->Bool->Hp->OA) (C61_:Nat->Nat->Sl->Int->Hp->OA) (CK:Nat) (Yh:Nat) (xi:Sl) (tV:Int) (H226:Hp):OA:=aN.j6 F eF C61_ CK Yh xi tV H226
def aN.j8 (F:Nat) (eF:Sl->Int->Int->Bool->Hp->OA) (C7855_:Nat->Nat->Sl->Int->Int->Int->Int->Hp->OA) (CL:Nat) (Yi:Nat) (Yj:Sl) (xj:Int) (xk:Int) (xm:Int) (xn:Int) (H265:Hp):OA:=C7855_ CL Yi Yj xj xk xm (IntKind.i64.wrap (xn+1)) H265
def aN.l7855 (F:Nat) (eF:Sl->Int->Int->Bool->Hp->OA) (C61_:Nat->Nat->Sl->Int->Hp->OA):Nat->Nat->Nat->Sl->Int->Int->Int->Int->Hp->OA
 | 0,_,_,_,_,_,_,_,_=>none
 | Py+1,pu,rK,pX,nv,kt,ku,li,H187=>(bif (decide (li<(pX.n:Int))) then ((Sl.idx pX li 1).bind λp244=>(Hp.ldI H187 .i64 p244.1 p244.2).bind λn245=>(bif (n245==(if ku>kt then ku else kt)) then ((Sl.idx pX li 1).bind λp246=>(Hp.st H187 p246.1 p246.2 (.int .i64 (if ku<kt then ku else kt))).bind λH247=>aN.j8 F eF (aN.l7855 F eF C61_ Py) pu rK pX nv kt ku li H247) else (aN.j8 F eF (aN.l7855 F eF C61_ Py) pu rK pX nv kt ku li H187))) else (aN.j7 F eF C61_ pu rK pX nv H187))
termination_by structural n=>n
def aN.l61 (F:Nat) (eF:Sl->Int->Int->Bool->Hp->OA) :Nat->Nat->Nat->Sl->Int->Hp->OA
 | 0,_,_,_,_,_=>none
 | eg+1,iS,kK,qX,gc,H35=>(Hp.ldSl H35 iS kK).bind λs151=>(bif (decide (gc<(IntKind.i64.wrap (2 * (s151.n:Int))))) then ((Hp.ldSl H35 iS kK).bind λs152=>(Hp.ldI H35 .i64 iS (kK+1)).bind λn153=>(eF s152 n153 gc true H35).bind λr154=>((r154.1).asTup 2).bind λl155=>(l155[0]?).bind λv156=>((v156).asI .i64).bind λn157=>(l155[1]?).bind λv158=>((v158).asI .i64).bind λn159=>(Hp.ldSl r154.2 iS kK).bind λs160=>(Hp.ldI r154.2 .i64 iS (kK+1)).bind λn161=>(eF s160 n161 gc false r154.2).bind λr162=>((r162.1).asTup 2).bind λl163=>(l163[0]?).bind λv164=>((v164).asI .i64).bind λn165=>(l163[1]?).bind λv166=>((v166).asI .i64).bind λn167=>(Sl.idx qX n157 1).bind λp168=>(Hp.ldI r162.2 .i64 p168.1 p168.2).bind λn169=>(Sl.idx qX n165 1).bind λp170=>(Hp.ldI r162.2 .i64 p170.1 p170.2).bind λn171=>aN.l7855 F eF (aN.l61 F eF eg) F iS kK qX gc n169 n171 0 r162.2) else (some ((.sl qX),H35)))
termination_by structural n=>n
def aN.j9 (F:Nat) (eF:Sl->Int->Int->Bool->Hp->OA) (CN:Nat) (xo:Nat) (Yk:Sl) (H25:Hp):OA:=aN.l61 F eF F CN xo Yk 0 H25
def aN.l29 (F:Nat) (eF:Sl->Int->Int->Bool->Hp->OA) :Nat->Nat->Nat->Sl->Int->Hp->OA
 | 0,_,_,_,_,_=>none
 | fi+1,jh,c_,kJ,ja,H12=>(Hp.ldSl H12 jh c_).bind λs266=>(bif (decide (ja<(s266.n:Int))) then ((Hp.new H12 [(.int .i64 ja)]).bind λH267=>(Sl.row H267 (⟨some (H12.length,0),1,.ex 1⟩:Sl) 1).bind λxs269=>(Hp.app H267 1 8 kJ (⟨some (H12.length,0),1,.ex 1⟩:Sl).n xs269).bind λa268=>aN.l29 F eF fi jh c_ a268.1 (IntKind.i64.wrap (ja+1)) a268.2) else (aN.j9 F eF jh c_ kJ H12))
termination_by structural n=>n
def aN.twX (F:Nat) (eF:Sl->Int->Int->Bool->Hp->OA) (ac:Sl) (ae:Int) (H:Hp):OA:=(Hp.new H [(.sl ac),(.int .i64 ae)]).bind λH3=>(Hp.new H3 []).bind λH4=>aN.l29 F eF F H.length 0 (⟨some (H3.length,0),0,.ex 0⟩:Sl) 0 H4
def aN.tw (F:Nat) (ac:Sl) (ae:Int) (H:Hp):OA:=aN.twX F (bm.tw F) ac ae H
def aN.lh29 (F:Nat) (eF:Sl->Int->Int->Bool->Hp->OA) (ks:List Nat) (n:Nat) (tm:Tm) (H:Hp):OA:=match ks,tm 1,tm 3,tm 4 with
 | [],(.ptr jh c_),(.sl kJ),(.int .i64 ja)=>aN.l29 F eF n jh c_ kJ ja H
 | _,_,_,_=>none
theorem aN.lh29_inv {F:Nat} {eF:Sl->Int->Int->Bool->Hp->OA} {ks:List Nat} {n:Nat} {tm:Tm} {H:Hp} {r:AV×Hp} (h:aN.lh29 F eF ks n tm H=some r):∃ jh c_ kJ ja,ks=[]/\ee tm [(1,(.ptr jh c_)),(3,(.sl kJ)),(4,(.int .i64 ja))]/\aN.l29 F eF n jh c_ kJ ja H=some r:=by
 unfold aN.lh29 at h
 split at h
 ·exact ⟨_,_,_,_,rfl,⟨‹_›,‹_›,‹_›,trivial⟩,h⟩
 ·cases h
def aN.lh61 (F:Nat) (eF:Sl->Int->Int->Bool->Hp->OA) (ks:List Nat) (n:Nat) (tm:Tm) (H:Hp):OA:=match ks,tm 1,tm 3,tm 5 with
 | [],(.ptr iS kK),(.sl qX),(.int .i64 gc)=>aN.l61 F eF n iS kK qX gc H
 | _,_,_,_=>none
theorem aN.lh61_inv {F:Nat} {eF:Sl->Int->Int->Bool->Hp->OA} {ks:List Nat} {n:Nat} {tm:Tm} {H:Hp} {r:AV×Hp} (h:aN.lh61 F eF ks n tm H=some r):∃ iS kK qX gc,ks=[]/\ee tm [(1,(.ptr iS kK)),(3,(.sl qX)),(5,(.int .i64 gc))]/\aN.l61 F eF n iS kK qX gc H=some r:=by
 unfold aN.lh61 at h
 split at h
 ·exact ⟨_,_,_,_,rfl,⟨‹_›,‹_›,‹_›,trivial⟩,h⟩
 ·cases h
def aN.lh7855 (F:Nat) (eF:Sl->Int->Int->Bool->Hp->OA) (ks:List Nat) (n:Nat) (tm:Tm) (H:Hp):OA:=match ks,tm 1,tm 3,tm 5,tm 10,tm 11,tm 12 with
 | [eg],(.ptr pu rK),(.sl pX),(.int .i64 nv),(.int .i64 kt),(.int .i64 ku),(.int .i64 li)=>aN.l7855 F eF (aN.l61 F eF eg) n pu rK pX nv kt ku li H
 | _,_,_,_,_,_,_=>none
theorem aN.lh7855_inv {F:Nat} {eF:Sl->Int->Int->Bool->Hp->OA} {ks:List Nat} {n:Nat} {tm:Tm} {H:Hp} {r:AV×Hp} (h:aN.lh7855 F eF ks n tm H=some r):∃ eg pu rK pX nv kt ku li,ks=[eg]/\ee tm [(1,(.ptr pu rK)),(3,(.sl pX)),(5,(.int .i64 nv)),(10,(.int .i64 kt)),(11,(.int .i64 ku)),(12,(.int .i64 li))]/\aN.l7855 F eF (aN.l61 F eF eg) n pu rK pX nv kt ku li H=some r:=by
 unfold aN.lh7855 at h
 split at h
 ·exact ⟨_,_,_,_,_,_,_,_,rfl,⟨‹_›,‹_›,‹_›,‹_›,‹_›,‹_›,trivial⟩,h⟩
 ·cases h
def aN.lh (F:Nat) (eF:Sl->Int->Int->Bool->Hp->OA) (p:Nat) (ks:List Nat) (n:Nat) (tm:Tm) (H:Hp):OA:=bif p.beq 7855 then aN.lh7855 F eF ks n tm H else (bif p.beq 61 then aN.lh61 F eF ks n tm H else (bif p.beq 29 then aN.lh29 F eF ks n tm H else (none)))
def aN.tb:Nat->List (List Nat):=eX [(11,[[],[],[0,1],[0,1,2],[],[],[4,5],[4,5,6],[0,1,2,3],[0,1,2,3,4,5,6,7,8]])]
def aN.mk (g:Sl->Int->Hp->OA) (args:List AV) (H:Hp):OA:=match args with
 | [(.agg [(.sl ac),(.int .i64 ae)])]=>g ac ae H
 | _=>none
def aN.cs (F:Nat) (eF:Sl->Int->Int->Bool->Hp->OA):Cs:=[(82,bm.mk eF)]
theorem aN.loops (F:Nat) (eF:Sl->Int->Int->Bool->Hp->OA):LO (bj (aN.cs F eF)) aY (aN.lh F eF) F Tryz.f66:=
 (ag.rt (ag.rt (ag.seq (ag.rt (ag.block (ag.loop (λtm H=>et λr h=>by obtain ⟨jh,c_,kJ,ja,hks,e,h⟩:=aN.lh29_inv (show aN.lh29 F eF [] 0 tm H=some r from h);cases h) (λk29 tm H r h=>by obtain ⟨jh,c_,kJ,ja,hks,e,h⟩:=aN.lh29_inv (show aN.lh29 F eF [] (k29+1) tm H=some r from h);rw [<- ef e];exact Eq.trans (by kernel_rfl) h) λk29=>ag.no))) (ag.lt (ag.rt (ag.block (ag.loop (λtm H=>et λr h=>by obtain ⟨iS,kK,qX,gc,hks,e,h⟩:=aN.lh61_inv (show aN.lh61 F eF [] 0 tm H=some r from h);cases h) (λk61 tm H r h=>by obtain ⟨iS,kK,qX,gc,hks,e,h⟩:=aN.lh61_inv (show aN.lh61 F eF [] (k61+1) tm H=some r from h);rw [<- ef e];exact Eq.trans (by kernel_rfl) h) λk61=>(ag.rt (ag.lt (ag.block (ag.rt (ag.rt (ag.rt (ag.rt (ag.block (ag.loop (λtm H=>et λr h=>by obtain ⟨eg,pu,rK,pX,nv,kt,ku,li,hks,e,h⟩:=aN.lh7855_inv (show aN.lh7855 F eF [k61] 0 tm H=some r from h);cases h) (λk7855 tm H r h=>by obtain ⟨eg,pu,rK,pX,nv,kt,ku,li,hks,e,h⟩:=aN.lh7855_inv (show aN.lh7855 F eF [k61] (k7855+1) tm H=some r from h);cases hks;rw [<- ef e];exact Eq.trans (by kernel_rfl) h) λk7855=>ag.no))))))))))))))))
theorem aN.eqX (F:Nat) (eF:Sl->Int->Int->Bool->Hp->OA) (ac:Sl) (ae:Int) (H:Hp):EX (bj (aN.cs F eF)) aY (aN.lh F eF) F Tryz.f66 [(.agg [(.sl ac),(.int .i64 ae)])] H=aN.twX F eF ac ae H:=by kernel_rfl
theorem aN.k (F:Nat):Ok Tryz.prog 66 (aN.mk (aN.tw F)):=by
 intro args H v H' h
 unfold aN.mk at h
 split at h
 ·exact okT (TB:=aN.tb) Tryz.func66 (bi (bm.k F) ca) (aN.loops F (bm.tw F)) ((aN.eqX F (bm.tw F) _ _ H).trans h) (by kernel_rfl)
 ·cases h
def df.j2 (F:Nat) (jQ:Sl->Int->Hp->OA) (C61_:Int->Sl->Int->Hp->OA) (xp:Int) (Yl:Sl) (xq:Int) (H42:Hp):OA:=C61_ xp Yl (IntKind.i64.wrap (xq+1)) H42
def df.l61 (F:Nat) (jQ:Sl->Int->Hp->OA) :Nat->Int->Sl->Int->Hp->OA
 | 0,_,_,_,_=>none
 | eg+1,cE,fl,eY,H16=>(bif (decide (eY<(fl.n:Int))) then ((Sl.idx fl eY 1).bind λp30=>(Hp.ldI H16 .i64 p30.1 p30.2).bind λn31=>(bif (n31==eY) then (df.j2 F jQ (df.l61 F jQ eg) (IntKind.i64.wrap (cE+1)) fl eY H16) else (df.j2 F jQ (df.l61 F jQ eg) cE fl eY H16))) else (some ((.int .i64 cE),H16)))
def df.twX (F:Nat) (jQ:Sl->Int->Hp->OA) (ac:Sl) (ae:Int) (H:Hp):OA:=(Hp.new H [(.sl ac),(.int .i64 ae)]).bind λH3=>(Hp.ldSl H3 H.length 0).bind λs4=>(Hp.ldI H3 .i64 H.length (0+1)).bind λn5=>(jQ s4 n5 H3).bind λr6=>((r6.1).asSl).bind λs7=>df.l61 F jQ F 0 s7 0 r6.2
def df.tw (F:Nat) (ac:Sl) (ae:Int) (H:Hp):OA:=df.twX F (aN.tw F) ac ae H
def df.lh61 (F:Nat) (jQ:Sl->Int->Hp->OA) (ks:List Nat) (n:Nat) (tm:Tm) (H:Hp):OA:=match ks,tm 3,tm 4,tm 5 with
 | [],(.int .i64 cE),(.sl fl),(.int .i64 eY)=>df.l61 F jQ n cE fl eY H
 | _,_,_,_=>none
theorem df.lh61_inv {F:Nat} {jQ:Sl->Int->Hp->OA} {ks:List Nat} {n:Nat} {tm:Tm} {H:Hp} {r:AV×Hp} (h:df.lh61 F jQ ks n tm H=some r):∃ cE fl eY,ks=[]/\ee tm [(3,(.int .i64 cE)),(4,(.sl fl)),(5,(.int .i64 eY))]/\df.l61 F jQ n cE fl eY H=some r:=by
 unfold df.lh61 at h
 split at h
 ·exact ⟨_,_,_,rfl,⟨‹_›,‹_›,‹_›,trivial⟩,h⟩
 ·cases h
def df.lh (F:Nat) (jQ:Sl->Int->Hp->OA) (p:Nat) (ks:List Nat) (n:Nat) (tm:Tm) (H:Hp):OA:=bif p.beq 61 then df.lh61 F jQ ks n tm H else (none)
def df.mk (g:Sl->Int->Hp->OA) (args:List AV) (H:Hp):OA:=match args with
 | [(.agg [(.sl ac),(.int .i64 ae)])]=>g ac ae H
 | _=>none
def df.cs (F:Nat) (jQ:Sl->Int->Hp->OA):Cs:=[(66,aN.mk jQ)]
theorem df.loops (F:Nat) (jQ:Sl->Int->Hp->OA):LO (bj (df.cs F jQ)) aY (df.lh F jQ) F Tryz.f43:=
 (ag.rt (ag.rt (ag.rt (ag.lt (ag.rt (ag.block (ag.loop (λtm H=>et λr h=>by obtain ⟨cE,fl,eY,hks,e,h⟩:=df.lh61_inv (show df.lh61 F jQ [] 0 tm H=some r from h);cases h) (λk61 tm H r h=>by obtain ⟨cE,fl,eY,hks,e,h⟩:=df.lh61_inv (show df.lh61 F jQ [] (k61+1) tm H=some r from h);rw [<- ef e];exact Eq.trans (by kernel_rfl) h) λk61=>ag.no)))))))
theorem df.eqX (F:Nat) (jQ:Sl->Int->Hp->OA) (ac:Sl) (ae:Int) (H:Hp):EX (bj (df.cs F jQ)) aY (df.lh F jQ) F Tryz.f43 [(.agg [(.sl ac),(.int .i64 ae)])] H=df.twX F jQ ac ae H:=by kernel_rfl
theorem df.k (F:Nat):Ok Tryz.prog 43 (df.mk (df.tw F)):=by
 intro args H v H' h
 unfold df.mk at h
 split at h
 ·exact okT (TB:=aY) Tryz.func43 (bi (aN.k F) ca) (df.loops F (aN.tw F)) ((df.eqX F (aN.tw F) _ _ H).trans h) (by kernel_rfl)
 ·cases h
def gW.twX (F:Nat) (dY:Int->Int->Int->Hp->OA) (xr:Sl->Int->Hp->OA) (xt:Sl->Int->Hp->OA) (xu:Sl->Int->Hp->OA) (ac:Sl) (ae:Int) (H:Hp):OA:=(Hp.new H [(.sl ac),(.int .i64 ae)]).bind λH3=>(Hp.ldSl H3 H.length 0).bind λs4=>(bif (decide ((s4.n:Int)>10)) then (some ((.bool false),H3)) else ((Hp.ldI H3 .i64 H.length 1).bind λn5=>(dY n5 0 8 H3).bind λr6=>((r6.1).asB).bind λb7=>(bif (!b7) then (some ((.bool false),r6.2)) else ((Hp.ldSl r6.2 H.length 0).bind λs8=>(Hp.ldI r6.2 .i64 H.length (0+1)).bind λn9=>(xr s8 n9 r6.2).bind λr10=>((r10.1).asB).bind λb11=>(bif (!b11) then (some ((.bool false),r10.2)) else ((Hp.ldSl r10.2 H.length 0).bind λs12=>(Hp.ldI r10.2 .i64 H.length (0+1)).bind λn13=>(xt s12 n13 r10.2).bind λr14=>((r14.1).asSl).bind λs15=>(if bu r10.2 r14.2 then ((Hp.ldSl r14.2 H.length 0).bind λs16=>(Hp.ldSl r14.2 H.length 0).bind λs17=>(Hp.ldI r14.2 .i64 H.length (0+1)).bind λn18=>(xu s17 n18 r14.2).bind λr19=>((r19.1).asI .i64).bind λn20=>(if bu r14.2 r19.2 then (some ((.bool ((s15.n:Int)==(IntKind.i64.wrap ((s16.n:Int)+(IntKind.i64.wrap (2 * n20)))))),r19.2)) else none)) else none)))))))
def gW.tw (F:Nat) (ac:Sl) (ae:Int) (H:Hp):OA:=gW.twX F (fv.tw F) (bU.tw F) (bv.tw F) (df.tw F) ac ae H
def gW.tb:Nat->List (List Nat):=eX [(3,[[],[0],[0,1],[],[3],[3,4],[],[0,1,6],[0,1,6,7],[0,1,3,4,5,6,7,8],[0,1,2,3,4,5,6,7,8,9],[0,1,2,3,4,5,6,7,8,9,10]])]
def gW.mk (g:Sl->Int->Hp->OA) (args:List AV) (H:Hp):OA:=match args with
 | [(.agg [(.sl ac),(.int .i64 ae)])]=>g ac ae H
 | _=>none
def gW.cs (F:Nat) (dY:Int->Int->Int->Hp->OA) (xr:Sl->Int->Hp->OA) (xt:Sl->Int->Hp->OA) (xu:Sl->Int->Hp->OA):Cs:=[(18,fv.mk dY),(41,bU.mk xr),(42,bv.mk xt),(43,df.mk xu)]
theorem gW.eqX (F:Nat) (dY:Int->Int->Int->Hp->OA) (xr:Sl->Int->Hp->OA) (xt:Sl->Int->Hp->OA) (xu:Sl->Int->Hp->OA) (ac:Sl) (ae:Int) (H:Hp):EX (bj (gW.cs F dY xr xt xu)) aY lh0 F Tryz.f17 [(.agg [(.sl ac),(.int .i64 ae)])] H=gW.twX F dY xr xt xu ac ae H:=by kernel_rfl
theorem gW.k (F:Nat):Ok Tryz.prog 17 (gW.mk (gW.tw F)):=by
 intro args H v H' h
 unfold gW.mk at h
 split at h
 ·exact okT (TB:=gW.tb) Tryz.func17 (bi (fv.k F) (bi (bU.k F) (bi (bv.k F) (bi (df.k F) ca)))) ag.no ((gW.eqX F (fv.tw F) (bU.tw F) (bv.tw F) (df.tw F) _ _ H).trans h) (by kernel_rfl)
 ·cases h
def aD.j6 (F:Nat) (CO:Nat) (Ym:Nat) (Yn:Sl) (xv:Int) (H211:Hp):OA:=(Hp.ldI H211 .i64 CO (Ym+1)).bind λn212=>some ((.tup [(.sl Yn),(.int .i64 (IntKind.i64.wrap (xv+n212)))]),H211)
def aD.j7 (F:Nat) (C509_:Nat->Nat->Sl->Sl->Int->Int->Hp->OA) (CP:Nat) (Yo:Nat) (Yp:Sl) (Yq:Sl) (xw:Int) (xx:Int) (H234:Hp):OA:=C509_ CP Yo Yp Yq xw (IntKind.i64.wrap (xx+1)) H234
def aD.l509 (F:Nat) :Nat->Nat->Nat->Sl->Sl->Int->Int->Hp->OA
 | 0,_,_,_,_,_,_,_=>none
 | AG+1,pv,rL,qy,qY,lj,kv,H166=>(bif (decide (kv<(qy.n:Int))) then ((Sl.idx qy kv 1).bind λp213=>(Hp.ldI H166 .i64 p213.1 p213.2).bind λn214=>(bif (n214==kv) then ((Hp.new H166 [(.int .i64 lj)]).bind λH215=>(Sl.row H215 (⟨some (H166.length,0),1,.ex 1⟩:Sl) 1).bind λxs217=>(Hp.app H215 1 8 qY (⟨some (H166.length,0),1,.ex 1⟩:Sl).n xs217).bind λa216=>aD.j7 F (aD.l509 F AG) pv rL qy a216.1 (IntKind.i64.wrap (lj+1)) kv a216.2) else ((Sl.idx qy kv 1).bind λp235=>(Hp.ldI H166 .i64 p235.1 p235.2).bind λn236=>(Sl.idx qY n236 1).bind λp237=>(Hp.ldI H166 .i64 p237.1 p237.2).bind λn238=>(Hp.new H166 [(.int .i64 n238)]).bind λH239=>(Sl.row H239 (⟨some (H166.length,0),1,.ex 1⟩:Sl) 1).bind λxs241=>(Hp.app H239 1 8 qY (⟨some (H166.length,0),1,.ex 1⟩:Sl).n xs241).bind λa240=>aD.j7 F (aD.l509 F AG) pv rL qy a240.1 lj kv a240.2))) else (aD.j6 F pv rL qY lj H166))
termination_by structural n=>n
def aD.j8 (F:Nat) (CQ:Nat) (Yr:Nat) (Ys:Sl) (H150:Hp):OA:=(Hp.new H150 []).bind λH151=>aD.l509 F F CQ Yr Ys (⟨some (H150.length,0),0,.ex 0⟩:Sl) 0 0 H151
def aD.j10 (F:Nat) (C61_:Nat->Nat->Sl->Int->Hp->OA) (CS:Nat) (Yt:Nat) (Yu:Sl) (xy:Int) (H320:Hp):OA:=C61_ CS Yt Yu (IntKind.i64.wrap (xy+1)) H320
def aD.j11 (F:Nat) (C61_:Nat->Nat->Sl->Int->Hp->OA) (CT:Nat) (Yv:Nat) (Yw:Sl) (xz:Int) (H304:Hp):OA:=aD.j10 F C61_ CT Yv Yw xz H304
def aD.j12 (F:Nat) (C1963_:Nat->Nat->Sl->Int->Int->Int->Int->Hp->OA) (CU:Nat) (Yx:Nat) (Yy:Sl) (xA:Int) (xB:Int) (xC:Int) (xD:Int) (H341:Hp):OA:=C1963_ CU Yx Yy xA xB xC (IntKind.i64.wrap (xD+1)) H341
def aD.l1963 (F:Nat) (C61_:Nat->Nat->Sl->Int->Hp->OA):Nat->Nat->Nat->Sl->Int->Int->Int->Int->Hp->OA
 | 0,_,_,_,_,_,_,_,_=>none
 | Pz+1,pw,rM,pY,nw,kw,kx,ll,H267=>(bif (decide (ll<(pY.n:Int))) then ((Sl.idx pY ll 1).bind λp321=>(Hp.ldI H267 .i64 p321.1 p321.2).bind λn322=>(bif (n322==(if kx>kw then kx else kw)) then ((Sl.idx pY ll 1).bind λp323=>(Hp.st H267 p323.1 p323.2 (.int .i64 (if kx<kw then kx else kw))).bind λH324=>aD.j12 F (aD.l1963 F C61_ Pz) pw rM pY nw kw kx ll H324) else (aD.j12 F (aD.l1963 F C61_ Pz) pw rM pY nw kw kx ll H267))) else (aD.j11 F C61_ pw rM pY nw H267))
termination_by structural n=>n
def aD.l61 (F:Nat) :Nat->Nat->Nat->Sl->Int->Hp->OA
 | 0,_,_,_,_,_=>none
 | eg+1,ou,qz,qZ,mf,H38=>(Hp.ldSl H38 ou qz).bind λs242=>(bif (decide (mf<(s242.n:Int))) then ((Hp.ldSl H38 ou qz).bind λs243=>(Sl.idx s243 mf 5).bind λp244=>(Hp.ldI H38 .i64 p244.1 (p244.2+1)).bind λn245=>(Sl.idx qZ n245 1).bind λp246=>(Hp.ldI H38 .i64 p246.1 p246.2).bind λn247=>(Hp.ldSl H38 ou qz).bind λs248=>(Sl.idx s248 mf 5).bind λp249=>(Hp.ldI H38 .i64 p249.1 (p249.2+3)).bind λn250=>(Sl.idx qZ n250 1).bind λp251=>(Hp.ldI H38 .i64 p251.1 p251.2).bind λn252=>aD.l1963 F (aD.l61 F eg) F ou qz qZ mf n247 n252 0 H38) else (aD.j8 F ou qz qZ H38))
termination_by structural n=>n
def aD.j13 (F:Nat) (xo:Nat) (Yz:Nat) (YA:Sl) (H27:Hp):OA:=aD.l61 F F xo Yz YA 0 H27
def aD.l29 (F:Nat) :Nat->Nat->Nat->Sl->Int->Hp->OA
 | 0,_,_,_,_,_=>none
 | fi+1,jh,c_,ja,mg,H13=>(Hp.ldSl H13 jh c_).bind λs342=>(bif (decide (mg<(IntKind.i64.wrap (2 * (s342.n:Int))))) then ((Hp.new H13 [(.int .i64 mg)]).bind λH343=>(Sl.row H343 (⟨some (H13.length,0),1,.ex 1⟩:Sl) 1).bind λxs345=>(Hp.app H343 1 8 ja (⟨some (H13.length,0),1,.ex 1⟩:Sl).n xs345).bind λa344=>aD.l29 F fi jh c_ a344.1 (IntKind.i64.wrap (mg+1)) a344.2) else (aD.j13 F jh c_ ja H13))
termination_by structural n=>n
def aD.twX (F:Nat) (ac:Sl) (ae:Int) (H:Hp):OA:=(Hp.new H [(.sl ac),(.int .i64 ae)]).bind λH3=>(Hp.new H3 []).bind λH4=>aD.l29 F F H.length 0 (⟨some (H3.length,0),0,.ex 0⟩:Sl) 0 H4
def aD.tw (F:Nat) (ac:Sl) (ae:Int) (H:Hp):OA:=aD.twX F ac ae H
def aD.lh29 (F:Nat) (ks:List Nat) (n:Nat) (tm:Tm) (H:Hp):OA:=match ks,tm 1,tm 4,tm 5 with
 | [],(.ptr jh c_),(.sl ja),(.int .i64 mg)=>aD.l29 F n jh c_ ja mg H
 | _,_,_,_=>none
theorem aD.lh29_inv {F:Nat} {ks:List Nat} {n:Nat} {tm:Tm} {H:Hp} {r:AV×Hp} (h:aD.lh29 F ks n tm H=some r):∃ jh c_ ja mg,ks=[]/\ee tm [(1,(.ptr jh c_)),(4,(.sl ja)),(5,(.int .i64 mg))]/\aD.l29 F n jh c_ ja mg H=some r:=by
 unfold aD.lh29 at h
 split at h
 ·exact ⟨_,_,_,_,rfl,⟨‹_›,‹_›,‹_›,trivial⟩,h⟩
 ·cases h
def aD.lh61 (F:Nat) (ks:List Nat) (n:Nat) (tm:Tm) (H:Hp):OA:=match ks,tm 1,tm 4,tm 6 with
 | [],(.ptr ou qz),(.sl qZ),(.int .i64 mf)=>aD.l61 F n ou qz qZ mf H
 | _,_,_,_=>none
theorem aD.lh61_inv {F:Nat} {ks:List Nat} {n:Nat} {tm:Tm} {H:Hp} {r:AV×Hp} (h:aD.lh61 F ks n tm H=some r):∃ ou qz qZ mf,ks=[]/\ee tm [(1,(.ptr ou qz)),(4,(.sl qZ)),(6,(.int .i64 mf))]/\aD.l61 F n ou qz qZ mf H=some r:=by
 unfold aD.lh61 at h
 split at h
 ·exact ⟨_,_,_,_,rfl,⟨‹_›,‹_›,‹_›,trivial⟩,h⟩
 ·cases h
def aD.lh509 (F:Nat) (ks:List Nat) (n:Nat) (tm:Tm) (H:Hp):OA:=match ks,tm 1,tm 4,tm 10,tm 11,tm 12 with
 | [],(.ptr pv rL),(.sl qy),(.sl qY),(.int .i64 lj),(.int .i64 kv)=>aD.l509 F n pv rL qy qY lj kv H
 | _,_,_,_,_,_=>none
theorem aD.lh509_inv {F:Nat} {ks:List Nat} {n:Nat} {tm:Tm} {H:Hp} {r:AV×Hp} (h:aD.lh509 F ks n tm H=some r):∃ pv rL qy qY lj kv,ks=[]/\ee tm [(1,(.ptr pv rL)),(4,(.sl qy)),(10,(.sl qY)),(11,(.int .i64 lj)),(12,(.int .i64 kv))]/\aD.l509 F n pv rL qy qY lj kv H=some r:=by
 unfold aD.lh509 at h
 split at h
 ·exact ⟨_,_,_,_,_,_,rfl,⟨‹_›,‹_›,‹_›,‹_›,‹_›,trivial⟩,h⟩
 ·cases h
def aD.lh1963 (F:Nat) (ks:List Nat) (n:Nat) (tm:Tm) (H:Hp):OA:=match ks,tm 1,tm 4,tm 6,tm 7,tm 8,tm 9 with
 | [eg],(.ptr pw rM),(.sl pY),(.int .i64 nw),(.int .i64 kw),(.int .i64 kx),(.int .i64 ll)=>aD.l1963 F (aD.l61 F eg) n pw rM pY nw kw kx ll H
 | _,_,_,_,_,_,_=>none
theorem aD.lh1963_inv {F:Nat} {ks:List Nat} {n:Nat} {tm:Tm} {H:Hp} {r:AV×Hp} (h:aD.lh1963 F ks n tm H=some r):∃ eg pw rM pY nw kw kx ll,ks=[eg]/\ee tm [(1,(.ptr pw rM)),(4,(.sl pY)),(6,(.int .i64 nw)),(7,(.int .i64 kw)),(8,(.int .i64 kx)),(9,(.int .i64 ll))]/\aD.l1963 F (aD.l61 F eg) n pw rM pY nw kw kx ll H=some r:=by
 unfold aD.lh1963 at h
 split at h
 ·exact ⟨_,_,_,_,_,_,_,_,rfl,⟨‹_›,‹_›,‹_›,‹_›,‹_›,‹_›,trivial⟩,h⟩
 ·cases h
def aD.lh (F:Nat) (p:Nat) (ks:List Nat) (n:Nat) (tm:Tm) (H:Hp):OA:=bif p.beq 1963 then aD.lh1963 F ks n tm H else (bif p.beq 509 then aD.lh509 F ks n tm H else (bif p.beq 61 then aD.lh61 F ks n tm H else (bif p.beq 29 then aD.lh29 F ks n tm H else (none))))
def aD.tb:Nat->List (List Nat):=eX [(9,[[],[],[1],[],[1,2,3],[1,2,3,4],[1,2,3,4,5],[0,1,2,3,4,5,6],[0,1,2,3,4,5,6,7],[],[],[10],[],[10,11,12],[10,11,12,13],[10,11,12,13,14],[9,10,11,12,13,14,15],[9,10,11,12,13,14,15,16],[0,1,2,3,4,5,6,7,8],[0,1,2,3,4,5,6,7,8,9,10,11,12,13,14,15,16,17,18]]),(24,[[],[],[],[2],[1,2,3],[0],[0,1,2,3,4,5]])]
def aD.mk (g:Sl->Int->Hp->OA) (args:List AV) (H:Hp):OA:=match args with
 | [(.agg [(.sl ac),(.int .i64 ae)])]=>g ac ae H
 | _=>none
theorem aD.loops (F:Nat):LO (bj []) aY (aD.lh F) F Tryz.f44:=
 (ag.rt (ag.rt (ag.seq (ag.rt (ag.block (ag.loop (λtm H=>et λr h=>by obtain ⟨jh,c_,ja,mg,hks,e,h⟩:=aD.lh29_inv (show aD.lh29 F [] 0 tm H=some r from h);cases h) (λk29 tm H r h=>by obtain ⟨jh,c_,ja,mg,hks,e,h⟩:=aD.lh29_inv (show aD.lh29 F [] (k29+1) tm H=some r from h);rw [<- ef e];exact Eq.trans (by kernel_rfl) h) λk29=>ag.no))) (ag.seq (ag.rt (ag.block (ag.loop (λtm H=>et λr h=>by obtain ⟨ou,qz,qZ,mf,hks,e,h⟩:=aD.lh61_inv (show aD.lh61 F [] 0 tm H=some r from h);cases h) (λk61 tm H r h=>by obtain ⟨ou,qz,qZ,mf,hks,e,h⟩:=aD.lh61_inv (show aD.lh61 F [] (k61+1) tm H=some r from h);rw [<- ef e];exact Eq.trans (by kernel_rfl) h) λk61=>(ag.rt (ag.lt (ag.block (ag.rt (ag.rt (ag.block (ag.loop (λtm H=>et λr h=>by obtain ⟨eg,pw,rM,pY,nw,kw,kx,ll,hks,e,h⟩:=aD.lh1963_inv (show aD.lh1963 F [k61] 0 tm H=some r from h);cases h) (λk1963 tm H r h=>by obtain ⟨eg,pw,rM,pY,nw,kw,kx,ll,hks,e,h⟩:=aD.lh1963_inv (show aD.lh1963 F [k61] (k1963+1) tm H=some r from h);cases hks;rw [<- ef e];exact Eq.trans (by kernel_rfl) h) λk1963=>ag.no)))))))))) (ag.rt (ag.rt (ag.lt (ag.rt (ag.block (ag.loop (λtm H=>et λr h=>by obtain ⟨pv,rL,qy,qY,lj,kv,hks,e,h⟩:=aD.lh509_inv (show aD.lh509 F [] 0 tm H=some r from h);cases h) (λk509 tm H r h=>by obtain ⟨pv,rL,qy,qY,lj,kv,hks,e,h⟩:=aD.lh509_inv (show aD.lh509 F [] (k509+1) tm H=some r from h);rw [<- ef e];exact Eq.trans (by kernel_rfl) h) λk509=>ag.no))))))))))
theorem aD.eqX (F:Nat) (ac:Sl) (ae:Int) (H:Hp):EX (bj []) aY (aD.lh F) F Tryz.f44 [(.agg [(.sl ac),(.int .i64 ae)])] H=aD.twX F ac ae H:=by kernel_rfl
theorem aD.k (F:Nat):Ok Tryz.prog 44 (aD.mk (aD.tw F)):=by
 intro args H v H' h
 unfold aD.mk at h
 split at h
 ·exact okT (TB:=aD.tb) Tryz.func44 ca (aD.loops F) ((aD.eqX F _ _ H).trans h) (by kernel_rfl)
 ·cases h
def gX.twX (F:Nat) (ac:Int) (ap:Int) (H:Hp):OA:=(Hp.new H [.int .i64 0,.int .i64 0,.sl ⟨none,0,.ex 0⟩]).bind λH3=>(Hp.mk H3 [.int .i64 0] 8 (IntKind.i64.wrap (ac * ap)) (IntKind.i64.wrap (ac * ap))).bind λm4=>(Hp.st m4.2 H.length 0 (.int .i64 ac)).bind λH5=>(Hp.st H5 H.length (0+1) (.int .i64 ap)).bind λH6=>(Hp.st H6 H.length (0+1+1) (.sl m4.1)).bind λH7=>(Hp.ldI H7 .i64 H.length 0).bind λn8=>(Hp.ldI H7 .i64 H.length (0+1)).bind λn9=>(Hp.ldSl H7 H.length (0+2)).bind λs10=>some ((.agg [(.int .i64 n8),(.int .i64 n9),(.sl s10)]),H7)
def gX.tw (F:Nat) (ac:Int) (ap:Int) (H:Hp):OA:=gX.twX F ac ap H
def gX.mk (g:Int->Int->Hp->OA) (args:List AV) (H:Hp):OA:=match args with
 | [(.int .i64 ac),(.int .i64 ap)]=>g ac ap H
 | _=>none
theorem gX.eqX (F:Nat) (ac:Int) (ap:Int) (H:Hp):EX (bj []) aY lh0 F Tryz.f31 [(.int .i64 ac),(.int .i64 ap)] H=gX.twX F ac ap H:=by kernel_rfl
theorem gX.k (F:Nat):Ok Tryz.prog 31 (gX.mk (gX.tw F)):=by
 intro args H v H' h
 unfold gX.mk at h
 split at h
 ·exact okT (TB:=aY) Tryz.func31 ca ag.no ((gX.eqX F _ _ H).trans h) (by kernel_rfl)
 ·cases h
def dS.l61 (F:Nat) (lm:Sl->Int->Hp->OA) (fP:Int->Int->Hp->OA) :Nat->Nat->Nat->Nat->Nat->Sl->Int->Nat->Nat->Int->Hp->OA
 | 0,_,_,_,_,_,_,_,_,_,_=>none
 | eg+1,iS,kK,nx,pz,q_,jR,gc,ny,jb,H37=>(Hp.ldI H37 .i64 gc ny).bind λn88=>(bif (decide (jb<n88)) then ((Hp.ldSl H37 iS kK).bind λs89=>(Sl.idx s89 jb 5).bind λp90=>(Hp.ldI H37 .i64 p90.1 p90.2).bind λn91=>(Hp.ldI H37 .i64 p90.1 (p90.2+1)).bind λn92=>(Hp.ldI H37 .i64 p90.1 (p90.2+2)).bind λn93=>(Hp.ldI H37 .i64 p90.1 (p90.2+3)).bind λn94=>(Hp.ldI H37 .i64 p90.1 (p90.2+4)).bind λn95=>(Hp.new H37 [.int .i64 0,.int .i64 0,.int .i64 0,.int .i64 0,.int .i64 0]).bind λH96=>(Hp.st H96 H37.length 0 (.int .i64 n91)).bind λH97=>(Hp.st H97 H37.length (0+1) (.int .i64 n92)).bind λH98=>(Hp.st H98 H37.length (0+1+1) (.int .i64 n93)).bind λH99=>(Hp.st H99 H37.length (0+1+1+1) (.int .i64 n94)).bind λH100=>(Hp.st H100 H37.length (0+1+1+1+1) (.int .i64 n95)).bind λH101=>(Hp.ldI H101 .i64 H37.length 0).bind λn102=>(Sl.idx q_ n102 1).bind λp103=>(Hp.ldI H101 .i64 p103.1 p103.2).bind λn104=>(Hp.ldI H101 .i64 H37.length 2).bind λn105=>(Sl.idx q_ n105 1).bind λp106=>(Hp.ldI H101 .i64 p106.1 p106.2).bind λn107=>(Hp.ldI H101 .i64 H37.length 1).bind λn108=>(Sl.idx q_ n108 1).bind λp109=>(Hp.ldI H101 .i64 p109.1 p109.2).bind λn110=>(Hp.ldSl H101 gc (ny+2)).bind λs111=>(Hp.ldSl H101 gc (ny+2)).bind λs112=>(Sl.idx s112 (IntKind.i64.wrap ((IntKind.i64.wrap (jb * jR))+n104)) 1).bind λp113=>(Hp.ldI H101 .i64 p113.1 p113.2).bind λn114=>(Sl.idx s111 (IntKind.i64.wrap ((IntKind.i64.wrap (jb * jR))+n104)) 1).bind λp115=>(Hp.st H101 p115.1 p115.2 (.int .i64 (IntKind.i64.wrap (n114 - 1)))).bind λH116=>(Hp.ldSl H116 gc (ny+2)).bind λs117=>(Hp.ldSl H116 gc (ny+2)).bind λs118=>(Sl.idx s118 (IntKind.i64.wrap ((IntKind.i64.wrap (jb * jR))+n107)) 1).bind λp119=>(Hp.ldI H116 .i64 p119.1 p119.2).bind λn120=>(Sl.idx s117 (IntKind.i64.wrap ((IntKind.i64.wrap (jb * jR))+n107)) 1).bind λp121=>(Hp.st H116 p121.1 p121.2 (.int .i64 (IntKind.i64.wrap (n120 - 1)))).bind λH122=>(Hp.ldSl H122 gc (ny+2)).bind λs123=>(Hp.ldSl H122 gc (ny+2)).bind λs124=>(Sl.idx s124 (IntKind.i64.wrap ((IntKind.i64.wrap (jb * jR))+n110)) 1).bind λp125=>(Hp.ldI H122 .i64 p125.1 p125.2).bind λn126=>(Sl.idx s123 (IntKind.i64.wrap ((IntKind.i64.wrap (jb * jR))+n110)) 1).bind λp127=>(Hp.st H122 p127.1 p127.2 (.int .i64 (IntKind.i64.wrap (n126+2)))).bind λH128=>dS.l61 F lm fP eg iS kK nx pz q_ jR gc ny (IntKind.i64.wrap (jb+1)) H128) else ((Hp.ldI H37 .i64 gc ny).bind λn129=>(Hp.ldI H37 .i64 gc (ny+1)).bind λn130=>(Hp.ldSl H37 gc (ny+2)).bind λs131=>(Hp.st H37 nx pz (.int .i64 n129)).bind λH132=>(Hp.st H132 nx (pz+1) (.int .i64 n130)).bind λH133=>(Hp.st H133 nx (pz+1+1) (.sl s131)).bind λH134=>(Hp.ldI H134 .i64 nx pz).bind λn135=>(Hp.ldI H134 .i64 nx (pz+1)).bind λn136=>(Hp.ldSl H134 nx (pz+2)).bind λs137=>some ((.agg [(.int .i64 n135),(.int .i64 n136),(.sl s137)]),H134)))
termination_by structural n=>n
def dS.twX (F:Nat) (lm:Sl->Int->Hp->OA) (fP:Int->Int->Hp->OA) (ac:Sl) (ae:Int) (H:Hp):OA:=(Hp.new H [(.sl ac),(.int .i64 ae)]).bind λH3=>(Hp.new H3 [.int .i64 0,.int .i64 0,.sl ⟨none,0,.ex 0⟩]).bind λH4=>(Hp.ldSl H4 H.length 0).bind λs5=>(Hp.ldI H4 .i64 H.length (0+1)).bind λn6=>(lm s5 n6 H4).bind λr7=>((r7.1).asTup 2).bind λl8=>(l8[0]?).bind λv9=>((v9).asSl).bind λs10=>(l8[1]?).bind λv11=>((v11).asI .i64).bind λn12=>(Hp.ldSl r7.2 H.length 0).bind λs13=>(fP (s13.n:Int) n12 r7.2).bind λr14=>((r14.1).asAgg 3).bind λl15=>(l15[0]?).bind λv16=>((v16).asI .i64).bind λn17=>(l15[1]?).bind λv18=>((v18).asI .i64).bind λn19=>(l15[2]?).bind λv20=>((v20).asSl).bind λs21=>(Hp.new r14.2 [.int .i64 0,.int .i64 0,.sl ⟨none,0,.ex 0⟩]).bind λH22=>(Hp.st H22 r14.2.length 0 (.int .i64 n17)).bind λH23=>(Hp.st H23 r14.2.length (0+1) (.int .i64 n19)).bind λH24=>(Hp.st H24 r14.2.length (0+1+1) (.sl s21)).bind λH25=>dS.l61 F lm fP F H.length 0 H3.length 0 s10 n12 r14.2.length 0 0 H25
def dS.tw (F:Nat) (ac:Sl) (ae:Int) (H:Hp):OA:=dS.twX F (aD.tw F) (gX.tw F) ac ae H
def dS.lh61 (F:Nat) (lm:Sl->Int->Hp->OA) (fP:Int->Int->Hp->OA) (ks:List Nat) (n:Nat) (tm:Tm) (H:Hp):OA:=match ks,tm 1,tm 2,tm 3,tm 4,tm 5,tm 6 with
 | [],(.ptr iS kK),(.ptr nx pz),(.sl q_),(.int .i64 jR),(.ptr gc ny),(.int .i64 jb)=>dS.l61 F lm fP n iS kK nx pz q_ jR gc ny jb H
 | _,_,_,_,_,_,_=>none
theorem dS.lh61_inv {F:Nat} {lm:Sl->Int->Hp->OA} {fP:Int->Int->Hp->OA} {ks:List Nat} {n:Nat} {tm:Tm} {H:Hp} {r:AV×Hp} (h:dS.lh61 F lm fP ks n tm H=some r):∃ iS kK nx pz q_ jR gc ny jb,ks=[]/\ee tm [(1,(.ptr iS kK)),(2,(.ptr nx pz)),(3,(.sl q_)),(4,(.int .i64 jR)),(5,(.ptr gc ny)),(6,(.int .i64 jb))]/\dS.l61 F lm fP n iS kK nx pz q_ jR gc ny jb H=some r:=by
 unfold dS.lh61 at h
 split at h
 ·exact ⟨_,_,_,_,_,_,_,_,_,rfl,⟨‹_›,‹_›,‹_›,‹_›,‹_›,‹_›,trivial⟩,h⟩
 ·cases h
def dS.lh (F:Nat) (lm:Sl->Int->Hp->OA) (fP:Int->Int->Hp->OA) (p:Nat) (ks:List Nat) (n:Nat) (tm:Tm) (H:Hp):OA:=bif p.beq 61 then dS.lh61 F lm fP ks n tm H else (none)
def dS.pn:Nat->List Nat:=eX [(8,[10]),(9,[10]),(10,[10])]
def dS.tb:Nat->List (List Nat):=eX [(7,[[],[],[0,1],[],[],[4],[3,4,5],[3,4,5,6],[0,1,2,3,4,5,6,7],[],[],[9,10],[],[],[13],[12,13,14],[12,13,14,15],[9,10,11,12,13,14,15,16],[],[],[18,19],[],[],[22],[21,22,23],[21,22,23,24],[18,19,20,21,22,23,24,25],[0,1,2,3,4,5,6,7,8],[0,1,2,3,4,5,6,7,8,9,10,11,12,13,14,15,16,17,27],[0,1,2,3,4,5,6,7,8,9,10,11,12,13,14,15,16,17,18,19,20,21,22,23,24,25,26,27,28]]),(8,[[],[0],[],[],[3],[],[3,4,5],[3,4,5,6],[3,4,5,6,7],[0,1,2,3,4,5,6,7,8],[0,1,2,3,4,5,6,7,8,9]]),(9,[[],[0],[],[],[3],[],[3,4,5],[3,4,5,6],[3,4,5,6,7],[0,1,2,3,4,5,6,7,8],[0,1,2,3,4,5,6,7,8,9]]),(10,[[],[0],[],[],[3],[],[3,4,5],[3,4,5,6],[3,4,5,6,7],[0,1,2,3,4,5,6,7,8],[0,1,2,3,4,5,6,7,8,9]])]
def dS.mk (g:Sl->Int->Hp->OA) (args:List AV) (H:Hp):OA:=match args with
 | [(.agg [(.sl ac),(.int .i64 ae)])]=>g ac ae H
 | _=>none
def dS.cs (F:Nat) (lm:Sl->Int->Hp->OA) (fP:Int->Int->Hp->OA):Cs:=[(44,aD.mk lm),(31,gX.mk fP)]
theorem dS.loops (F:Nat) (lm:Sl->Int->Hp->OA) (fP:Int->Int->Hp->OA):LO (bj (dS.cs F lm fP)) dS.pn (dS.lh F lm fP) F Tryz.f19:=
 (ag.rt (ag.rt (ag.rt (ag.lt (ag.rt (ag.block (ag.loop (λtm H=>et λr h=>by obtain ⟨iS,kK,nx,pz,q_,jR,gc,ny,jb,hks,e,h⟩:=dS.lh61_inv (show dS.lh61 F lm fP [] 0 tm H=some r from h);cases h) (λk61 tm H r h=>by obtain ⟨iS,kK,nx,pz,q_,jR,gc,ny,jb,hks,e,h⟩:=dS.lh61_inv (show dS.lh61 F lm fP [] (k61+1) tm H=some r from h);rw [<- ef e];exact Eq.trans (by kernel_rfl) h) λk61=>ag.no)))))))
theorem dS.eqX (F:Nat) (lm:Sl->Int->Hp->OA) (fP:Int->Int->Hp->OA) (ac:Sl) (ae:Int) (H:Hp):EX (bj (dS.cs F lm fP)) dS.pn (dS.lh F lm fP) F Tryz.f19 [(.agg [(.sl ac),(.int .i64 ae)])] H=dS.twX F lm fP ac ae H:=by kernel_rfl
theorem dS.k (F:Nat):Ok Tryz.prog 19 (dS.mk (dS.tw F)):=by
 intro args H v H' h
 unfold dS.mk at h
 split at h
 ·exact okT (TB:=dS.tb) Tryz.func19 (bi (aD.k F) (bi (gX.k F) ca)) (dS.loops F (aD.tw F) (gX.tw F)) ((dS.eqX F (aD.tw F) (gX.tw F) _ _ H).trans h) (by kernel_rfl)
 ·cases h
def dE.l29 (F:Nat) (fP:Int->Int->Hp->OA) :Nat->Int->Nat->Nat->Nat->Nat->Int->Hp->OA
 | 0,_,_,_,_,_,_,_=>none
 | fi+1,nz,dM,ji,ii,gq,mh,H21=>(bif (decide (mh<nz)) then ((Hp.ldSl H21 ii (gq+2)).bind λs34=>(Sl.idx s34 (IntKind.i64.wrap ((IntKind.i64.wrap (mh * nz))+mh)) 1).bind λp35=>(Hp.st H21 p35.1 p35.2 (.int .i64 1)).bind λH36=>dE.l29 F fP fi nz dM ji ii gq (IntKind.i64.wrap (mh+1)) H36) else ((Hp.ldI H21 .i64 ii gq).bind λn37=>(Hp.ldI H21 .i64 ii (gq+1)).bind λn38=>(Hp.ldSl H21 ii (gq+2)).bind λs39=>(Hp.st H21 dM ji (.int .i64 n37)).bind λH40=>(Hp.st H40 dM (ji+1) (.int .i64 n38)).bind λH41=>(Hp.st H41 dM (ji+1+1) (.sl s39)).bind λH42=>(Hp.ldI H42 .i64 dM ji).bind λn43=>(Hp.ldI H42 .i64 dM (ji+1)).bind λn44=>(Hp.ldSl H42 dM (ji+2)).bind λs45=>some ((.agg [(.int .i64 n43),(.int .i64 n44),(.sl s45)]),H42)))
termination_by structural n=>n
def dE.twX (F:Nat) (fP:Int->Int->Hp->OA) (ac:Int) (H:Hp):OA:=(Hp.new H [.int .i64 0,.int .i64 0,.sl ⟨none,0,.ex 0⟩]).bind λH2=>(fP ac ac H2).bind λr3=>((r3.1).asAgg 3).bind λl4=>(l4[0]?).bind λv5=>((v5).asI .i64).bind λn6=>(l4[1]?).bind λv7=>((v7).asI .i64).bind λn8=>(l4[2]?).bind λv9=>((v9).asSl).bind λs10=>(Hp.new r3.2 [.int .i64 0,.int .i64 0,.sl ⟨none,0,.ex 0⟩]).bind λH11=>(Hp.st H11 r3.2.length 0 (.int .i64 n6)).bind λH12=>(Hp.st H12 r3.2.length (0+1) (.int .i64 n8)).bind λH13=>(Hp.st H13 r3.2.length (0+1+1) (.sl s10)).bind λH14=>dE.l29 F fP F ac H.length 0 r3.2.length 0 0 H14
def dE.tw (F:Nat) (ac:Int) (H:Hp):OA:=dE.twX F (gX.tw F) ac H
def dE.lh29 (F:Nat) (fP:Int->Int->Hp->OA) (ks:List Nat) (n:Nat) (tm:Tm) (H:Hp):OA:=match ks,tm 0,tm 2,tm 3,tm 4 with
 | [],(.int .i64 nz),(.ptr dM ji),(.ptr ii gq),(.int .i64 mh)=>dE.l29 F fP n nz dM ji ii gq mh H
 | _,_,_,_,_=>none
theorem dE.lh29_inv {F:Nat} {fP:Int->Int->Hp->OA} {ks:List Nat} {n:Nat} {tm:Tm} {H:Hp} {r:AV×Hp} (h:dE.lh29 F fP ks n tm H=some r):∃ nz dM ji ii gq mh,ks=[]/\ee tm [(0,(.int .i64 nz)),(2,(.ptr dM ji)),(3,(.ptr ii gq)),(4,(.int .i64 mh))]/\dE.l29 F fP n nz dM ji ii gq mh H=some r:=by
 unfold dE.lh29 at h
 split at h
 ·exact ⟨_,_,_,_,_,_,rfl,⟨‹_›,‹_›,‹_›,‹_›,trivial⟩,h⟩
 ·cases h
def dE.lh (F:Nat) (fP:Int->Int->Hp->OA) (p:Nat) (ks:List Nat) (n:Nat) (tm:Tm) (H:Hp):OA:=bif p.beq 29 then dE.lh29 F fP ks n tm H else (none)
def dE.mk (g:Int->Hp->OA) (args:List AV) (H:Hp):OA:=match args with
 | [(.int .i64 ac)]=>g ac H
 | _=>none
def dE.cs (F:Nat) (fP:Int->Int->Hp->OA):Cs:=[(31,gX.mk fP)]
theorem dE.loops (F:Nat) (fP:Int->Int->Hp->OA):LO (bj (dE.cs F fP)) aY (dE.lh F fP) F Tryz.f67:=
 (ag.rt (ag.rt (ag.lt (ag.rt (ag.block (ag.loop (λtm H=>et λr h=>by obtain ⟨nz,dM,ji,ii,gq,mh,hks,e,h⟩:=dE.lh29_inv (show dE.lh29 F fP [] 0 tm H=some r from h);cases h) (λk29 tm H r h=>by obtain ⟨nz,dM,ji,ii,gq,mh,hks,e,h⟩:=dE.lh29_inv (show dE.lh29 F fP [] (k29+1) tm H=some r from h);rw [<- ef e];exact Eq.trans (by kernel_rfl) h) λk29=>ag.no))))))
theorem dE.eqX (F:Nat) (fP:Int->Int->Hp->OA) (ac:Int) (H:Hp):EX (bj (dE.cs F fP)) aY (dE.lh F fP) F Tryz.f67 [(.int .i64 ac)] H=dE.twX F fP ac H:=by kernel_rfl
theorem dE.k (F:Nat):Ok Tryz.prog 67 (dE.mk (dE.tw F)):=by
 intro args H v H' h
 unfold dE.mk at h
 split at h
 ·exact okT (TB:=aY) Tryz.func67 (bi (gX.k F) ca) (dE.loops F (gX.tw F)) ((dE.eqX F (gX.tw F) _ H).trans h) (by kernel_rfl)
 ·cases h
def bD.twX (F:Nat) (ac:Int) (ae:Int) (aK:Sl) (ax:Int) (bS:Int) (H:Hp):OA:=(Hp.new H [(.int .i64 ac),(.int .i64 ae),(.sl aK)]).bind λH6=>(Hp.ldSl H6 H.length 2).bind λs7=>(Hp.ldI H6 .i64 H.length 1).bind λn8=>(Sl.idx s7 (IntKind.i64.wrap ((IntKind.i64.wrap (ax * n8))+bS)) 1).bind λp9=>(Hp.ldI H6 .i64 p9.1 p9.2).bind λn10=>some ((.int .i64 n10),H6)
def bD.tw (F:Nat) (ac:Int) (ae:Int) (aK:Sl) (ax:Int) (bS:Int) (H:Hp):OA:=bD.twX F ac ae aK ax bS H
def bD.mk (g:Int->Int->Sl->Int->Int->Hp->OA) (args:List AV) (H:Hp):OA:=match args with
 | [(.agg [(.int .i64 ac),(.int .i64 ae),(.sl aK)]),(.int .i64 ax),(.int .i64 bS)]=>g ac ae aK ax bS H
 | _=>none
theorem bD.eqX (F:Nat) (ac:Int) (ae:Int) (aK:Sl) (ax:Int) (bS:Int) (H:Hp):EX (bj []) aY lh0 F Tryz.f32 [(.agg [(.int .i64 ac),(.int .i64 ae),(.sl aK)]),(.int .i64 ax),(.int .i64 bS)] H=bD.twX F ac ae aK ax bS H:=by kernel_rfl
theorem bD.k (F:Nat):Ok Tryz.prog 32 (bD.mk (bD.tw F)):=by
 intro args H v H' h
 unfold bD.mk at h
 split at h
 ·exact okT (TB:=aY) Tryz.func32 ca ag.no ((bD.eqX F _ _ _ _ _ H).trans h) (by kernel_rfl)
 ·cases h
def fg.twX (F:Nat) (ac:Int) (H:Hp):OA:=some ((.int .i64 (if (IntKind.i64.wrap (0 - ac))>ac then (IntKind.i64.wrap (0 - ac)) else ac)),H)
def fg.tw (F:Nat) (ac:Int) (H:Hp):OA:=fg.twX F ac H
def fg.mk (g:Int->Hp->OA) (args:List AV) (H:Hp):OA:=match args with
 | [(.int .i64 ac)]=>g ac H
 | _=>none
theorem fg.eqX (F:Nat) (ac:Int) (H:Hp):EX (bj []) aY lh0 F Tryz.f46 [(.int .i64 ac)] H=fg.twX F ac H:=by kernel_rfl
theorem fg.k (F:Nat):Ok Tryz.prog 46 (fg.mk (fg.tw F)):=by
 intro args H v H' h
 unfold fg.mk at h
 split at h
 ·exact okT (TB:=aY) Tryz.func46 ca ag.no ((fg.eqX F _ H).trans h) (by kernel_rfl)
 ·cases h
def da.l7 (F:Nat) (ar:Int->Int->Sl->Int->Int->Hp->OA) :Nat->Int->Int->Nat->Nat->Int->Hp->OA
 | 0,_,_,_,_,_,_=>none
 | nA+1,eT,gY,dL,cE,fp,H15=>(Hp.ldI H15 .i64 dL (cE+1)).bind λn35=>(bif (decide (fp<n35)) then ((Hp.ldI H15 .i64 dL cE).bind λn36=>(Hp.ldI H15 .i64 dL (cE+1)).bind λn37=>(Hp.ldSl H15 dL (cE+2)).bind λs38=>(ar n36 n37 s38 eT fp H15).bind λr39=>((r39.1).asI .i64).bind λn40=>(Hp.ldSl r39.2 dL (cE+2)).bind λs41=>(Hp.ldI r39.2 .i64 dL (cE+1)).bind λn42=>(Hp.ldI r39.2 .i64 dL cE).bind λn43=>(Hp.ldI r39.2 .i64 dL (cE+1)).bind λn44=>(Hp.ldSl r39.2 dL (cE+2)).bind λs45=>(ar n43 n44 s45 gY fp r39.2).bind λr46=>((r46.1).asI .i64).bind λn47=>(if bu r39.2 r46.2 then ((Sl.idx s41 (IntKind.i64.wrap ((IntKind.i64.wrap (eT * n42))+fp)) 1).bind λp48=>(Hp.st r46.2 p48.1 p48.2 (.int .i64 n47)).bind λH49=>(Hp.ldSl H49 dL (cE+2)).bind λs50=>(Hp.ldI H49 .i64 dL (cE+1)).bind λn51=>(Sl.idx s50 (IntKind.i64.wrap ((IntKind.i64.wrap (gY * n51))+fp)) 1).bind λp52=>(Hp.st H49 p52.1 p52.2 (.int .i64 n40)).bind λH53=>da.l7 F ar nA eT gY dL cE (IntKind.i64.wrap (fp+1)) H53) else none)) else (some ((.tup []),H15)))
termination_by structural n=>n
def da.twX (F:Nat) (ar:Int->Int->Sl->Int->Int->Hp->OA) (ac:Int) (ae:Int) (aK:Sl) (ax:Int) (bS:Int) (H:Hp):OA:=(Hp.new H [(.int .i64 ac),(.int .i64 ae),(.sl aK)]).bind λH6=>da.l7 F ar F ax bS H.length 0 0 H6
def da.tw (F:Nat) (ac:Int) (ae:Int) (aK:Sl) (ax:Int) (bS:Int) (H:Hp):OA:=da.twX F (bD.tw F) ac ae aK ax bS H
def da.lh7 (F:Nat) (ar:Int->Int->Sl->Int->Int->Hp->OA) (ks:List Nat) (n:Nat) (tm:Tm) (H:Hp):OA:=match ks,tm 1,tm 2,tm 3,tm 6 with
 | [],(.int .i64 eT),(.int .i64 gY),(.ptr dL cE),(.int .i64 fp)=>da.l7 F ar n eT gY dL cE fp H
 | _,_,_,_,_=>none
theorem da.lh7_inv {F:Nat} {ar:Int->Int->Sl->Int->Int->Hp->OA} {ks:List Nat} {n:Nat} {tm:Tm} {H:Hp} {r:AV×Hp} (h:da.lh7 F ar ks n tm H=some r):∃ eT gY dL cE fp,ks=[]/\ee tm [(1,(.int .i64 eT)),(2,(.int .i64 gY)),(3,(.ptr dL cE)),(6,(.int .i64 fp))]/\da.l7 F ar n eT gY dL cE fp H=some r:=by
 unfold da.lh7 at h
 split at h
 ·exact ⟨_,_,_,_,_,rfl,⟨‹_›,‹_›,‹_›,‹_›,trivial⟩,h⟩
 ·cases h
def da.lh (F:Nat) (ar:Int->Int->Sl->Int->Int->Hp->OA) (p:Nat) (ks:List Nat) (n:Nat) (tm:Tm) (H:Hp):OA:=bif p.beq 7 then da.lh7 F ar ks n tm H else (none)
def da.pn:Nat->List Nat:=eX [(5,[13])]
def da.tb:Nat->List (List Nat):=eX [(5,[[],[0],[],[],[3],[2,3,4],[],[2,3,4,5,6],[],[],[],[8,9,10],[0,1,2,3,4,5,6,7,8,9,10,11],[0,1,2,3,4,5,6,7,8,9,10,11,12]])]
def da.mk (g:Int->Int->Sl->Int->Int->Hp->OA) (args:List AV) (H:Hp):OA:=match args with
 | [(.agg [(.int .i64 ac),(.int .i64 ae),(.sl aK)]),(.int .i64 ax),(.int .i64 bS)]=>g ac ae aK ax bS H
 | _=>none
def da.cs (F:Nat) (ar:Int->Int->Sl->Int->Int->Hp->OA):Cs:=[(32,bD.mk ar)]
theorem da.loops (F:Nat) (ar:Int->Int->Sl->Int->Int->Hp->OA):LO (bj (da.cs F ar)) da.pn (da.lh F ar) F Tryz.f104:=
 (ag.rt (ag.rt (ag.block (ag.loop (λtm H=>et λr h=>by obtain ⟨eT,gY,dL,cE,fp,hks,e,h⟩:=da.lh7_inv (show da.lh7 F ar [] 0 tm H=some r from h);cases h) (λk7 tm H r h=>by obtain ⟨eT,gY,dL,cE,fp,hks,e,h⟩:=da.lh7_inv (show da.lh7 F ar [] (k7+1) tm H=some r from h);rw [<- ef e];exact Eq.trans (by kernel_rfl) h) λk7=>ag.no))))
theorem da.eqX (F:Nat) (ar:Int->Int->Sl->Int->Int->Hp->OA) (ac:Int) (ae:Int) (aK:Sl) (ax:Int) (bS:Int) (H:Hp):EX (bj (da.cs F ar)) da.pn (da.lh F ar) F Tryz.f104 [(.agg [(.int .i64 ac),(.int .i64 ae),(.sl aK)]),(.int .i64 ax),(.int .i64 bS)] H=da.twX F ar ac ae aK ax bS H:=by kernel_rfl
theorem da.k (F:Nat):Ok Tryz.prog 104 (da.mk (da.tw F)):=by
 intro args H v H' h
 unfold da.mk at h
 split at h
 ·exact okT (TB:=da.tb) Tryz.func104 (bi (bD.k F) ca) (da.loops F (bD.tw F)) ((da.eqX F (bD.tw F) _ _ _ _ _ H).trans h) (by kernel_rfl)
 ·cases h
def db.l7 (F:Nat) (ar:Int->Int->Sl->Int->Int->Hp->OA) :Nat->Int->Int->Nat->Nat->Int->Hp->OA
 | 0,_,_,_,_,_,_=>none
 | nA+1,eT,gY,dL,cE,fp,H15=>(Hp.ldI H15 .i64 dL cE).bind λn35=>(bif (decide (fp<n35)) then ((Hp.ldI H15 .i64 dL cE).bind λn36=>(Hp.ldI H15 .i64 dL (cE+1)).bind λn37=>(Hp.ldSl H15 dL (cE+2)).bind λs38=>(ar n36 n37 s38 fp eT H15).bind λr39=>((r39.1).asI .i64).bind λn40=>(Hp.ldSl r39.2 dL (cE+2)).bind λs41=>(Hp.ldI r39.2 .i64 dL (cE+1)).bind λn42=>(Hp.ldI r39.2 .i64 dL cE).bind λn43=>(Hp.ldI r39.2 .i64 dL (cE+1)).bind λn44=>(Hp.ldSl r39.2 dL (cE+2)).bind λs45=>(ar n43 n44 s45 fp gY r39.2).bind λr46=>((r46.1).asI .i64).bind λn47=>(if bu r39.2 r46.2 then ((Sl.idx s41 (IntKind.i64.wrap ((IntKind.i64.wrap (fp * n42))+eT)) 1).bind λp48=>(Hp.st r46.2 p48.1 p48.2 (.int .i64 n47)).bind λH49=>(Hp.ldSl H49 dL (cE+2)).bind λs50=>(Hp.ldI H49 .i64 dL (cE+1)).bind λn51=>(Sl.idx s50 (IntKind.i64.wrap ((IntKind.i64.wrap (fp * n51))+gY)) 1).bind λp52=>(Hp.st H49 p52.1 p52.2 (.int .i64 n40)).bind λH53=>db.l7 F ar nA eT gY dL cE (IntKind.i64.wrap (fp+1)) H53) else none)) else (some ((.tup []),H15)))
termination_by structural n=>n
def db.twX (F:Nat) (ar:Int->Int->Sl->Int->Int->Hp->OA) (ac:Int) (ae:Int) (aK:Sl) (ax:Int) (bS:Int) (H:Hp):OA:=(Hp.new H [(.int .i64 ac),(.int .i64 ae),(.sl aK)]).bind λH6=>db.l7 F ar F ax bS H.length 0 0 H6
def db.tw (F:Nat) (ac:Int) (ae:Int) (aK:Sl) (ax:Int) (bS:Int) (H:Hp):OA:=db.twX F (bD.tw F) ac ae aK ax bS H
def db.lh7 (F:Nat) (ar:Int->Int->Sl->Int->Int->Hp->OA) (ks:List Nat) (n:Nat) (tm:Tm) (H:Hp):OA:=match ks,tm 1,tm 2,tm 3,tm 6 with
 | [],(.int .i64 eT),(.int .i64 gY),(.ptr dL cE),(.int .i64 fp)=>db.l7 F ar n eT gY dL cE fp H
 | _,_,_,_,_=>none
theorem db.lh7_inv {F:Nat} {ar:Int->Int->Sl->Int->Int->Hp->OA} {ks:List Nat} {n:Nat} {tm:Tm} {H:Hp} {r:AV×Hp} (h:db.lh7 F ar ks n tm H=some r):∃ eT gY dL cE fp,ks=[]/\ee tm [(1,(.int .i64 eT)),(2,(.int .i64 gY)),(3,(.ptr dL cE)),(6,(.int .i64 fp))]/\db.l7 F ar n eT gY dL cE fp H=some r:=by
 unfold db.lh7 at h
 split at h
 ·exact ⟨_,_,_,_,_,rfl,⟨‹_›,‹_›,‹_›,‹_›,trivial⟩,h⟩
 ·cases h
def db.lh (F:Nat) (ar:Int->Int->Sl->Int->Int->Hp->OA) (p:Nat) (ks:List Nat) (n:Nat) (tm:Tm) (H:Hp):OA:=bif p.beq 7 then db.lh7 F ar ks n tm H else (none)
def db.pn:Nat->List Nat:=eX [(5,[13])]
def db.tb:Nat->List (List Nat):=eX [(5,[[],[0],[],[],[3],[2,3,4],[],[2,3,4,5,6],[],[],[],[8,9,10],[0,1,2,3,4,5,6,7,8,9,10,11],[0,1,2,3,4,5,6,7,8,9,10,11,12]])]
def db.mk (g:Int->Int->Sl->Int->Int->Hp->OA) (args:List AV) (H:Hp):OA:=match args with
 | [(.agg [(.int .i64 ac),(.int .i64 ae),(.sl aK)]),(.int .i64 ax),(.int .i64 bS)]=>g ac ae aK ax bS H
 | _=>none
def db.cs (F:Nat) (ar:Int->Int->Sl->Int->Int->Hp->OA):Cs:=[(32,bD.mk ar)]
theorem db.loops (F:Nat) (ar:Int->Int->Sl->Int->Int->Hp->OA):LO (bj (db.cs F ar)) db.pn (db.lh F ar) F Tryz.f105:=
 (ag.rt (ag.rt (ag.block (ag.loop (λtm H=>et λr h=>by obtain ⟨eT,gY,dL,cE,fp,hks,e,h⟩:=db.lh7_inv (show db.lh7 F ar [] 0 tm H=some r from h);cases h) (λk7 tm H r h=>by obtain ⟨eT,gY,dL,cE,fp,hks,e,h⟩:=db.lh7_inv (show db.lh7 F ar [] (k7+1) tm H=some r from h);rw [<- ef e];exact Eq.trans (by kernel_rfl) h) λk7=>ag.no))))
theorem db.eqX (F:Nat) (ar:Int->Int->Sl->Int->Int->Hp->OA) (ac:Int) (ae:Int) (aK:Sl) (ax:Int) (bS:Int) (H:Hp):EX (bj (db.cs F ar)) db.pn (db.lh F ar) F Tryz.f105 [(.agg [(.int .i64 ac),(.int .i64 ae),(.sl aK)]),(.int .i64 ax),(.int .i64 bS)] H=db.twX F ar ac ae aK ax bS H:=by kernel_rfl
theorem db.k (F:Nat):Ok Tryz.prog 105 (db.mk (db.tw F)):=by
 intro args H v H' h
 unfold db.mk at h
 split at h
 ·exact okT (TB:=db.tb) Tryz.func105 (bi (bD.k F) ca) (db.loops F (bD.tw F)) ((db.eqX F (bD.tw F) _ _ _ _ _ H).trans h) (by kernel_rfl)
 ·cases h
def aF.l65515 (F:Nat) (ar:Int->Int->Sl->Int->Int->Hp->OA) (cR:Int->Hp->OA) (dU:Int->Int->Sl->Int->Int->Hp->OA) (dV:Int->Int->Sl->Int->Int->Hp->OA) :Nat->Nat->Nat->Int->Int->Hp->OA
 | 0,_,_,_,_,_=>none
 | YB+1,mV,mW,ln,ky,H187=>(Hp.ldI H187 .i64 mV ((mW+3)+1)).bind λn207=>(bif (decide (ky<n207)) then ((Hp.ldSl H187 mV ((mW+3)+2)).bind λs208=>(Hp.ldI H187 .i64 mV ((mW+3)+1)).bind λn209=>(Hp.ldI H187 .i64 mV (mW+3)).bind λn210=>(Hp.ldI H187 .i64 mV ((mW+3)+1)).bind λn211=>(Hp.ldSl H187 mV ((mW+3)+2)).bind λs212=>(ar n210 n211 s212 ln ky H187).bind λr213=>((r213.1).asI .i64).bind λn214=>(if bu H187 r213.2 then ((Sl.idx s208 (IntKind.i64.wrap ((IntKind.i64.wrap (ln * n209))+ky)) 1).bind λp215=>(Hp.st r213.2 p215.1 p215.2 (.int .i64 (IntKind.i64.wrap (0 - n214)))).bind λH216=>(Hp.ldSl H216 mV ((mW+6)+2)).bind λs217=>(Hp.ldI H216 .i64 mV ((mW+6)+1)).bind λn218=>(Hp.ldI H216 .i64 mV (mW+6)).bind λn219=>(Hp.ldI H216 .i64 mV ((mW+6)+1)).bind λn220=>(Hp.ldSl H216 mV ((mW+6)+2)).bind λs221=>(ar n219 n220 s221 ky ln H216).bind λr222=>((r222.1).asI .i64).bind λn223=>(if bu H216 r222.2 then ((Sl.idx s217 (IntKind.i64.wrap ((IntKind.i64.wrap (ky * n218))+ln)) 1).bind λp224=>(Hp.st r222.2 p224.1 p224.2 (.int .i64 (IntKind.i64.wrap (0 - n223)))).bind λH225=>aF.l65515 F ar cR dU dV YB mV mW ln (IntKind.i64.wrap (ky+1)) H225) else none)) else none)) else (some ((.bool true),H187)))
termination_by structural n=>n
def aF.j5 (F:Nat) (ar:Int->Int->Sl->Int->Int->Hp->OA) (cR:Int->Hp->OA) (dU:Int->Int->Sl->Int->Int->Hp->OA) (dV:Int->Int->Sl->Int->Int->Hp->OA) (YC:Nat) (YD:Nat) (xE:Int) (H173:Hp):OA:=aF.l65515 F ar cR dU dV F YC YD xE 0 H173
def aF.l65513 (F:Nat) (ar:Int->Int->Sl->Int->Int->Hp->OA) (cR:Int->Hp->OA) (dU:Int->Int->Sl->Int->Int->Hp->OA) (dV:Int->Int->Sl->Int->Int->Hp->OA) :Nat->Nat->Nat->Int->Int->Hp->OA
 | 0,_,_,_,_,_=>none
 | YE+1,oX,oY,mi,mj,H150=>(Hp.ldI H150 .i64 oX (oY+1)).bind λn226=>(bif (decide (mj<n226)) then ((Hp.ldSl H150 oX (oY+2)).bind λs227=>(Hp.ldI H150 .i64 oX (oY+1)).bind λn228=>(Hp.ldI H150 .i64 oX oY).bind λn229=>(Hp.ldI H150 .i64 oX (oY+1)).bind λn230=>(Hp.ldSl H150 oX (oY+2)).bind λs231=>(ar n229 n230 s231 mi mj H150).bind λr232=>((r232.1).asI .i64).bind λn233=>(if bu H150 r232.2 then ((Sl.idx s227 (IntKind.i64.wrap ((IntKind.i64.wrap (mi * n228))+mj)) 1).bind λp234=>(Hp.st r232.2 p234.1 p234.2 (.int .i64 (IntKind.i64.wrap (0 - n233)))).bind λH235=>aF.l65513 F ar cR dU dV YE oX oY mi (IntKind.i64.wrap (mj+1)) H235) else none)) else (aF.j5 F ar cR dU dV oX oY mi H150))
termination_by structural n=>n
def aF.j6 (F:Nat) (ar:Int->Int->Sl->Int->Int->Hp->OA) (cR:Int->Hp->OA) (dU:Int->Int->Sl->Int->Int->Hp->OA) (dV:Int->Int->Sl->Int->Int->Hp->OA) (lp:Nat) (lq:Nat) (lr:Int) (mU:Int) (rN:Int) (H109:Hp):OA:=(bif (decide (mU<0)) then (some ((.bool false),H109)) else ((Hp.ldI H109 .i64 lp lq).bind λn110=>(Hp.ldI H109 .i64 lp (lq+1)).bind λn111=>(Hp.ldSl H109 lp (lq+2)).bind λs112=>(dU n110 n111 s112 mU lr H109).bind λr113=>(Hp.ldI r113.2 .i64 lp (lq+3)).bind λn114=>(Hp.ldI r113.2 .i64 lp ((lq+3)+1)).bind λn115=>(Hp.ldSl r113.2 lp ((lq+3)+2)).bind λs116=>(dU n114 n115 s116 mU lr r113.2).bind λr117=>(Hp.ldI r117.2 .i64 lp (lq+6)).bind λn118=>(Hp.ldI r117.2 .i64 lp ((lq+6)+1)).bind λn119=>(Hp.ldSl r117.2 lp ((lq+6)+2)).bind λs120=>(dV n118 n119 s120 mU lr r117.2).bind λr121=>(Hp.ldI r121.2 .i64 lp lq).bind λn122=>(Hp.ldI r121.2 .i64 lp (lq+1)).bind λn123=>(Hp.ldSl r121.2 lp (lq+2)).bind λs124=>(dV n122 n123 s124 rN lr r121.2).bind λr125=>(Hp.ldI r125.2 .i64 lp (lq+9)).bind λn126=>(Hp.ldI r125.2 .i64 lp ((lq+9)+1)).bind λn127=>(Hp.ldSl r125.2 lp ((lq+9)+2)).bind λs128=>(dV n126 n127 s128 rN lr r125.2).bind λr129=>(Hp.ldI r129.2 .i64 lp (lq+12)).bind λn130=>(Hp.ldI r129.2 .i64 lp ((lq+12)+1)).bind λn131=>(Hp.ldSl r129.2 lp ((lq+12)+2)).bind λs132=>(dU n130 n131 s132 rN lr r129.2).bind λr133=>(Hp.ldI r133.2 .i64 lp lq).bind λn134=>(Hp.ldI r133.2 .i64 lp (lq+1)).bind λn135=>(Hp.ldSl r133.2 lp (lq+2)).bind λs136=>(ar n134 n135 s136 lr lr r133.2).bind λr137=>((r137.1).asI .i64).bind λn138=>(bif (decide (n138<0)) then (aF.l65513 F ar cR dU dV F lp lq lr 0 r137.2) else (some ((.bool true),r137.2)))))
def aF.j8 (F:Nat) (ar:Int->Int->Sl->Int->Int->Hp->OA) (cR:Int->Hp->OA) (dU:Int->Int->Sl->Int->Int->Hp->OA) (dV:Int->Int->Sl->Int->Int->Hp->OA) (C29_:Nat->Nat->Int->Int->Int->Int->Hp->OA) (YF:Nat) (YG:Nat) (xF:Int) (xG:Int) (xH:Int) (xI:Int) (H296:Hp):OA:=C29_ YF YG xF xG xH (IntKind.i64.wrap (xI+1)) H296
def aF.j9 (F:Nat) (ar:Int->Int->Sl->Int->Int->Hp->OA) (cR:Int->Hp->OA) (dU:Int->Int->Sl->Int->Int->Hp->OA) (dV:Int->Int->Sl->Int->Int->Hp->OA) (C29_:Nat->Nat->Int->Int->Int->Int->Hp->OA) (YH:Nat) (YI:Nat) (xJ:Int) (xK:Int) (xL:Int) (xM:Int) (H285:Hp):OA:=aF.j8 F ar cR dU dV C29_ YH YI xJ xK xL xM H285
def aF.j10 (F:Nat) (ar:Int->Int->Sl->Int->Int->Hp->OA) (cR:Int->Hp->OA) (dU:Int->Int->Sl->Int->Int->Hp->OA) (dV:Int->Int->Sl->Int->Int->Hp->OA) (C469_:Nat->Nat->Int->Int->Int->Int->Int->Hp->OA) (YJ:Nat) (YK:Nat) (xN:Int) (xO:Int) (xP:Int) (xQ:Int) (xR:Int) (H324:Hp):OA:=C469_ YJ YK xN xO xP xQ (IntKind.i64.wrap (xR+1)) H324
def aF.l469 (F:Nat) (ar:Int->Int->Sl->Int->Int->Hp->OA) (cR:Int->Hp->OA) (dU:Int->Int->Sl->Int->Int->Hp->OA) (dV:Int->Int->Sl->Int->Int->Hp->OA) (C29_:Nat->Nat->Int->Int->Int->Int->Hp->OA):Nat->Nat->Nat->Int->Int->Int->Int->Int->Hp->OA
 | 0,_,_,_,_,_,_,_,_=>none
 | sE+1,mX,mY,lu,lw,ml,jA,jB,H246=>(Hp.ldI H246 .i64 mX (mY+1)).bind λn297=>(bif (decide (jB<n297)) then ((Hp.ldI H246 .i64 mX mY).bind λn298=>(Hp.ldI H246 .i64 mX (mY+1)).bind λn299=>(Hp.ldSl H246 mX (mY+2)).bind λs300=>(ar n298 n299 s300 jA jB H246).bind λr301=>((r301.1).asI .i64).bind λn302=>(cR n302 r301.2).bind λr303=>((r303.1).asI .i64).bind λn304=>(bif (decide (n304>0)) then ((bif (decide (lw<0)) then (aF.l469 F ar cR dU dV C29_ sE mX mY lu jA jB jA (IntKind.i64.wrap (jB+1)) r303.2) else ((Hp.ldI r303.2 .i64 mX mY).bind λn305=>(Hp.ldI r303.2 .i64 mX (mY+1)).bind λn306=>(Hp.ldSl r303.2 mX (mY+2)).bind λs307=>(ar n305 n306 s307 lw ml r303.2).bind λr308=>((r308.1).asI .i64).bind λn309=>(cR n309 r308.2).bind λr310=>((r310.1).asI .i64).bind λn311=>(bif (decide (n304<n311)) then (aF.j10 F ar cR dU dV (aF.l469 F ar cR dU dV C29_ sE) mX mY lu jA jB jA jB r310.2) else (aF.j10 F ar cR dU dV (aF.l469 F ar cR dU dV C29_ sE) mX mY lu lw ml jA jB r310.2))))) else (aF.l469 F ar cR dU dV C29_ sE mX mY lu lw ml jA (IntKind.i64.wrap (jB+1)) r303.2))) else (aF.j9 F ar cR dU dV C29_ mX mY lu lw ml jA H246))
termination_by structural n=>n
def aF.l29 (F:Nat) (ar:Int->Int->Sl->Int->Int->Hp->OA) (cR:Int->Hp->OA) (dU:Int->Int->Sl->Int->Int->Hp->OA) (dV:Int->Int->Sl->Int->Int->Hp->OA) :Nat->Nat->Nat->Int->Int->Int->Int->Hp->OA
 | 0,_,_,_,_,_,_,_=>none
 | fi+1,fa,im,fc,fj,ov,ox,H11=>(Hp.ldI H11 .i64 fa im).bind λn236=>(bif (decide (ox<n236)) then (aF.l469 F ar cR dU dV (aF.l29 F ar cR dU dV fi) F fa im fc fj ov ox fc H11) else (aF.j6 F ar cR dU dV fa im fc fj ov H11))
termination_by structural n=>n
def aF.twX (F:Nat) (ar:Int->Int->Sl->Int->Int->Hp->OA) (cR:Int->Hp->OA) (dU:Int->Int->Sl->Int->Int->Hp->OA) (dV:Int->Int->Sl->Int->Int->Hp->OA) (ac:Nat) (ae:Nat) (ah:Int) (H:Hp):OA:=aF.l29 F ar cR dU dV F ac ae ah (-1) (-1) ah H
def aF.tw (F:Nat) (ac:Nat) (ae:Nat) (ah:Int) (H:Hp):OA:=aF.twX F (bD.tw F) (fg.tw F) (da.tw F) (db.tw F) ac ae ah H
def aF.lh29 (F:Nat) (ar:Int->Int->Sl->Int->Int->Hp->OA) (cR:Int->Hp->OA) (dU:Int->Int->Sl->Int->Int->Hp->OA) (dV:Int->Int->Sl->Int->Int->Hp->OA) (ks:List Nat) (n:Nat) (tm:Tm) (H:Hp):OA:=match ks,tm 0,tm 1,tm 5,tm 6,tm 7 with
 | [],(.ptr fa im),(.int .i64 fc),(.int .i64 fj),(.int .i64 ov),(.int .i64 ox)=>aF.l29 F ar cR dU dV n fa im fc fj ov ox H
 | _,_,_,_,_,_=>none
theorem aF.lh29_inv {F:Nat} {ar:Int->Int->Sl->Int->Int->Hp->OA} {cR:Int->Hp->OA} {dU:Int->Int->Sl->Int->Int->Hp->OA} {dV:Int->Int->Sl->Int->Int->Hp->OA} {ks:List Nat} {n:Nat} {tm:Tm} {H:Hp} {r:AV×Hp} (h:aF.lh29 F ar cR dU dV ks n tm H=some r):∃ fa im fc fj ov ox,ks=[]/\ee tm [(0,(.ptr fa im)),(1,(.int .i64 fc)),(5,(.int .i64 fj)),(6,(.int .i64 ov)),(7,(.int .i64 ox))]/\aF.l29 F ar cR dU dV n fa im fc fj ov ox H=some r:=by
 unfold aF.lh29 at h
 split at h
 ·exact ⟨_,_,_,_,_,_,rfl,⟨‹_›,‹_›,‹_›,‹_›,‹_›,trivial⟩,h⟩
 ·cases h
def aF.lh65513 (F:Nat) (ar:Int->Int->Sl->Int->Int->Hp->OA) (cR:Int->Hp->OA) (dU:Int->Int->Sl->Int->Int->Hp->OA) (dV:Int->Int->Sl->Int->Int->Hp->OA) (ks:List Nat) (n:Nat) (tm:Tm) (H:Hp):OA:=match ks,tm 0,tm 1,tm 10 with
 | [],(.ptr oX oY),(.int .i64 mi),(.int .i64 mj)=>aF.l65513 F ar cR dU dV n oX oY mi mj H
 | _,_,_,_=>none
theorem aF.lh65513_inv {F:Nat} {ar:Int->Int->Sl->Int->Int->Hp->OA} {cR:Int->Hp->OA} {dU:Int->Int->Sl->Int->Int->Hp->OA} {dV:Int->Int->Sl->Int->Int->Hp->OA} {ks:List Nat} {n:Nat} {tm:Tm} {H:Hp} {r:AV×Hp} (h:aF.lh65513 F ar cR dU dV ks n tm H=some r):∃ oX oY mi mj,ks=[]/\ee tm [(0,(.ptr oX oY)),(1,(.int .i64 mi)),(10,(.int .i64 mj))]/\aF.l65513 F ar cR dU dV n oX oY mi mj H=some r:=by
 unfold aF.lh65513 at h
 split at h
 ·exact ⟨_,_,_,_,rfl,⟨‹_›,‹_›,‹_›,trivial⟩,h⟩
 ·cases h
def aF.lh65515 (F:Nat) (ar:Int->Int->Sl->Int->Int->Hp->OA) (cR:Int->Hp->OA) (dU:Int->Int->Sl->Int->Int->Hp->OA) (dV:Int->Int->Sl->Int->Int->Hp->OA) (ks:List Nat) (n:Nat) (tm:Tm) (H:Hp):OA:=match ks,tm 0,tm 1,tm 11 with
 | [],(.ptr mV mW),(.int .i64 ln),(.int .i64 ky)=>aF.l65515 F ar cR dU dV n mV mW ln ky H
 | _,_,_,_=>none
theorem aF.lh65515_inv {F:Nat} {ar:Int->Int->Sl->Int->Int->Hp->OA} {cR:Int->Hp->OA} {dU:Int->Int->Sl->Int->Int->Hp->OA} {dV:Int->Int->Sl->Int->Int->Hp->OA} {ks:List Nat} {n:Nat} {tm:Tm} {H:Hp} {r:AV×Hp} (h:aF.lh65515 F ar cR dU dV ks n tm H=some r):∃ mV mW ln ky,ks=[]/\ee tm [(0,(.ptr mV mW)),(1,(.int .i64 ln)),(11,(.int .i64 ky))]/\aF.l65515 F ar cR dU dV n mV mW ln ky H=some r:=by
 unfold aF.lh65515 at h
 split at h
 ·exact ⟨_,_,_,_,rfl,⟨‹_›,‹_›,‹_›,trivial⟩,h⟩
 ·cases h
def aF.lh469 (F:Nat) (ar:Int->Int->Sl->Int->Int->Hp->OA) (cR:Int->Hp->OA) (dU:Int->Int->Sl->Int->Int->Hp->OA) (dV:Int->Int->Sl->Int->Int->Hp->OA) (ks:List Nat) (n:Nat) (tm:Tm) (H:Hp):OA:=match ks,tm 0,tm 1,tm 5,tm 6,tm 7,tm 8 with
 | [fi],(.ptr mX mY),(.int .i64 lu),(.int .i64 lw),(.int .i64 ml),(.int .i64 jA),(.int .i64 jB)=>aF.l469 F ar cR dU dV (aF.l29 F ar cR dU dV fi) n mX mY lu lw ml jA jB H
 | _,_,_,_,_,_,_=>none
theorem aF.lh469_inv {F:Nat} {ar:Int->Int->Sl->Int->Int->Hp->OA} {cR:Int->Hp->OA} {dU:Int->Int->Sl->Int->Int->Hp->OA} {dV:Int->Int->Sl->Int->Int->Hp->OA} {ks:List Nat} {n:Nat} {tm:Tm} {H:Hp} {r:AV×Hp} (h:aF.lh469 F ar cR dU dV ks n tm H=some r):∃ fi mX mY lu lw ml jA jB,ks=[fi]/\ee tm [(0,(.ptr mX mY)),(1,(.int .i64 lu)),(5,(.int .i64 lw)),(6,(.int .i64 ml)),(7,(.int .i64 jA)),(8,(.int .i64 jB))]/\aF.l469 F ar cR dU dV (aF.l29 F ar cR dU dV fi) n mX mY lu lw ml jA jB H=some r:=by
 unfold aF.lh469 at h
 split at h
 ·exact ⟨_,_,_,_,_,_,_,_,rfl,⟨‹_›,‹_›,‹_›,‹_›,‹_›,‹_›,trivial⟩,h⟩
 ·cases h
def aF.lh (F:Nat) (ar:Int->Int->Sl->Int->Int->Hp->OA) (cR:Int->Hp->OA) (dU:Int->Int->Sl->Int->Int->Hp->OA) (dV:Int->Int->Sl->Int->Int->Hp->OA) (p:Nat) (ks:List Nat) (n:Nat) (tm:Tm) (H:Hp):OA:=bif p.beq 469 then aF.lh469 F ar cR dU dV ks n tm H else (bif p.beq 65515 then aF.lh65515 F ar cR dU dV ks n tm H else (bif p.beq 65513 then aF.lh65513 F ar cR dU dV ks n tm H else (bif p.beq 29 then aF.lh29 F ar cR dU dV ks n tm H else (none))))
def aF.pn:Nat->List Nat:=eX [(23,[23]),(27,[23]),(28,[23])]
def aF.tb:Nat->List (List Nat):=eX [(23,[[],[0],[0,1],[0,1,2],[0,1,2,3],[],[],[6],[6,7],[6,7,8],[6,7,8,9],[5,6,7,8,9,10],[],[5,6,7,8,9,10,11,12],[],[14],[14,15],[14,15,16],[],[],[14,15,16,17,18,19],[14,15,16,17,18,19,20],[0,1,2,3,4,5,6,7,8,9,10,11,12,13,14,15,16,17,18,19,20,21],[0,1,2,3,4,5,6,7,8,9,10,11,12,13,14,15,16,17,18,19,20,21,22]]),(27,[[],[0],[0,1],[0,1,2],[0,1,2,3],[],[],[6],[6,7],[6,7,8],[6,7,8,9],[5,6,7,8,9,10],[],[5,6,7,8,9,10,11,12],[],[14],[14,15],[14,15,16],[],[],[14,15,16,17,18,19],[14,15,16,17,18,19,20],[0,1,2,3,4,5,6,7,8,9,10,11,12,13,14,15,16,17,18,19,20,21],[0,1,2,3,4,5,6,7,8,9,10,11,12,13,14,15,16,17,18,19,20,21,22]]),(28,[[],[0],[0,1],[0,1,2],[0,1,2,3],[],[],[6],[6,7],[6,7,8],[6,7,8,9],[5,6,7,8,9,10],[],[5,6,7,8,9,10,11,12],[],[14],[14,15],[14,15,16],[],[],[14,15,16,17,18,19],[14,15,16,17,18,19,20],[0,1,2,3,4,5,6,7,8,9,10,11,12,13,14,15,16,17,18,19,20,21],[0,1,2,3,4,5,6,7,8,9,10,11,12,13,14,15,16,17,18,19,20,21,22]])]
def aF.mk (g:Nat->Nat->Int->Hp->OA) (args:List AV) (H:Hp):OA:=match args with
 | [(.ptr ac ae),(.int .i64 ah)]=>g ac ae ah H
 | _=>none
def aF.cs (F:Nat) (ar:Int->Int->Sl->Int->Int->Hp->OA) (cR:Int->Hp->OA) (dU:Int->Int->Sl->Int->Int->Hp->OA) (dV:Int->Int->Sl->Int->Int->Hp->OA):Cs:=[(32,bD.mk ar),(46,fg.mk cR),(104,da.mk dU),(105,db.mk dV)]
theorem aF.loops (F:Nat) (ar:Int->Int->Sl->Int->Int->Hp->OA) (cR:Int->Hp->OA) (dU:Int->Int->Sl->Int->Int->Hp->OA) (dV:Int->Int->Sl->Int->Int->Hp->OA):LO (bj (aF.cs F ar cR dU dV)) aF.pn (aF.lh F ar cR dU dV) F Tryz.f83:=
 (ag.rt (ag.rt (ag.seq (ag.rt (ag.block (ag.loop (λtm H=>et λr h=>by obtain ⟨fa,im,fc,fj,ov,ox,hks,e,h⟩:=aF.lh29_inv (show aF.lh29 F ar cR dU dV [] 0 tm H=some r from h);cases h) (λk29 tm H r h=>by obtain ⟨fa,im,fc,fj,ov,ox,hks,e,h⟩:=aF.lh29_inv (show aF.lh29 F ar cR dU dV [] (k29+1) tm H=some r from h);rw [<- ef e];exact Eq.trans (by kernel_rfl) h) λk29=>(ag.rt (ag.lt (ag.block (ag.rt (ag.block (ag.loop (λtm H=>et λr h=>by obtain ⟨fi,mX,mY,lu,lw,ml,jA,jB,hks,e,h⟩:=aF.lh469_inv (show aF.lh469 F ar cR dU dV [k29] 0 tm H=some r from h);cases h) (λk469 tm H r h=>by obtain ⟨fi,mX,mY,lu,lw,ml,jA,jB,hks,e,h⟩:=aF.lh469_inv (show aF.lh469 F ar cR dU dV [k29] (k469+1) tm H=some r from h);cases hks;rw [<- ef e];exact Eq.trans (by kernel_rfl) h) λk469=>ag.no))))))))) (ag.rt (ag.rt (ag.rt (ag.rt (ag.rt (ag.rt (ag.rt (ag.lt (ag.rt (ag.cond (ag.seq (ag.rt (ag.block (ag.loop (λtm H=>et λr h=>by obtain ⟨oX,oY,mi,mj,hks,e,h⟩:=aF.lh65513_inv (show aF.lh65513 F ar cR dU dV [] 0 tm H=some r from h);cases h) (λk65513 tm H r h=>by obtain ⟨oX,oY,mi,mj,hks,e,h⟩:=aF.lh65513_inv (show aF.lh65513 F ar cR dU dV [] (k65513+1) tm H=some r from h);rw [<- ef e];exact Eq.trans (by kernel_rfl) h) λk65513=>ag.no))) (ag.rt (ag.block (ag.loop (λtm H=>et λr h=>by obtain ⟨mV,mW,ln,ky,hks,e,h⟩:=aF.lh65515_inv (show aF.lh65515 F ar cR dU dV [] 0 tm H=some r from h);cases h) (λk65515 tm H r h=>by obtain ⟨mV,mW,ln,ky,hks,e,h⟩:=aF.lh65515_inv (show aF.lh65515 F ar cR dU dV [] (k65515+1) tm H=some r from h);rw [<- ef e];exact Eq.trans (by kernel_rfl) h) λk65515=>ag.no)))) ag.no)))))))))))))
theorem aF.eqX (F:Nat) (ar:Int->Int->Sl->Int->Int->Hp->OA) (cR:Int->Hp->OA) (dU:Int->Int->Sl->Int->Int->Hp->OA) (dV:Int->Int->Sl->Int->Int->Hp->OA) (ac:Nat) (ae:Nat) (ah:Int) (H:Hp):EX (bj (aF.cs F ar cR dU dV)) aF.pn (aF.lh F ar cR dU dV) F Tryz.f83 [(.ptr ac ae),(.int .i64 ah)] H=aF.twX F ar cR dU dV ac ae ah H:=by kernel_rfl
theorem aF.k (F:Nat):Ok Tryz.prog 83 (aF.mk (aF.tw F)):=by
 intro args H v H' h
 unfold aF.mk at h
 split at h
 ·exact okT (TB:=aF.tb) Tryz.func83 (bi (bD.k F) (bi (fg.k F) (bi (da.k F) (bi (db.k F) ca)))) (aF.loops F (bD.tw F) (fg.tw F) (da.tw F) (db.tw F)) ((aF.eqX F (bD.tw F) (fg.tw F) (da.tw F) (db.tw F) _ _ _ H).trans h) (by kernel_rfl)
 ·cases h
def io.twX (F:Nat) (ac:Int) (ap:Int) (H:Hp):OA:=(if ap=0 then none else ((if ap=0 then none else ((bif (decide ((Int.tmod ac ap)<0)) then (some ((.int .i64 (IntKind.i64.wrap ((IntKind.i64.wrap (Int.tdiv ac ap)) - 1))),H)) else (some ((.int .i64 (IntKind.i64.wrap (Int.tdiv ac ap))),H)))))))
def io.tw (F:Nat) (ac:Int) (ap:Int) (H:Hp):OA:=io.twX F ac ap H
def io.mk (g:Int->Int->Hp->OA) (args:List AV) (H:Hp):OA:=match args with
 | [(.int .i64 ac),(.int .i64 ap)]=>g ac ap H
 | _=>none
theorem io.eqX (F:Nat) (ac:Int) (ap:Int) (H:Hp):EX (bj []) aY lh0 F Tryz.f85 [(.int .i64 ac),(.int .i64 ap)] H=io.twX F ac ap H:=by kernel_rfl
theorem io.k (F:Nat):Ok Tryz.prog 85 (io.mk (io.tw F)):=by
 intro args H v H' h
 unfold io.mk at h
 split at h
 ·exact okT (TB:=aY) Tryz.func85 ca ag.no ((io.eqX F _ _ H).trans h) (by kernel_rfl)
 ·cases h
def gH.twX (F:Nat) (cR:Int->Hp->OA) (ac:Int) (ap:Int) (de:Int) (H:Hp):OA:=(bif (ac != 0) then ((cR ap H).bind λr4=>((r4.1).asI .i64).bind λn5=>(cR ac r4.2).bind λr6=>((r6.1).asI .i64).bind λn7=>(if n7=0 then none else ((bif (decide (n5>(IntKind.i64.wrap (Int.tdiv de n7)))) then (some ((.tup [(.int .i64 0),(.bool false)]),r6.2)) else (some ((.tup [(.int .i64 (IntKind.i64.wrap (ac * ap))),(.bool true)]),r6.2)))))) else (some ((.tup [(.int .i64 (IntKind.i64.wrap (ac * ap))),(.bool true)]),H)))
def gH.tw (F:Nat) (ac:Int) (ap:Int) (de:Int) (H:Hp):OA:=gH.twX F (fg.tw F) ac ap de H
def gH.mk (g:Int->Int->Int->Hp->OA) (args:List AV) (H:Hp):OA:=match args with
 | [(.int .i64 ac),(.int .i64 ap),(.int .i64 de)]=>g ac ap de H
 | _=>none
def gH.cs (F:Nat) (cR:Int->Hp->OA):Cs:=[(46,fg.mk cR)]
theorem gH.eqX (F:Nat) (cR:Int->Hp->OA) (ac:Int) (ap:Int) (de:Int) (H:Hp):EX (bj (gH.cs F cR)) aY lh0 F Tryz.f22 [(.int .i64 ac),(.int .i64 ap),(.int .i64 de)] H=gH.twX F cR ac ap de H:=by kernel_rfl
theorem gH.k (F:Nat):Ok Tryz.prog 22 (gH.mk (gH.tw F)):=by
 intro args H v H' h
 unfold gH.mk at h
 split at h
 ·exact okT (TB:=aY) Tryz.func22 (bi (fg.k F) ca) ag.no ((gH.eqX F (fg.tw F) _ _ _ H).trans h) (by kernel_rfl)
 ·cases h
def gN.twX (F:Nat) (iy:Int->Int->Int->Hp->OA) (ac:Int) (ap:Int) (de:Int) (H:Hp):OA:=(iy ap de 2000000000000 H).bind λr4=>((r4.1).asTup 2).bind λl5=>(l5[0]?).bind λv6=>((v6).asI .i64).bind λn7=>(l5[1]?).bind λv8=>((v8).asB).bind λb9=>(bif (!b9) then (some ((.int .i64 3000000000000),r4.2)) else (some ((.int .i64 (IntKind.i64.wrap (ac - n7))),r4.2)))
def gN.tw (F:Nat) (ac:Int) (ap:Int) (de:Int) (H:Hp):OA:=gN.twX F (gH.tw F) ac ap de H
def gN.mk (g:Int->Int->Int->Hp->OA) (args:List AV) (H:Hp):OA:=match args with
 | [(.int .i64 ac),(.int .i64 ap),(.int .i64 de)]=>g ac ap de H
 | _=>none
def gN.cs (F:Nat) (iy:Int->Int->Int->Hp->OA):Cs:=[(22,gH.mk iy)]
theorem gN.eqX (F:Nat) (iy:Int->Int->Int->Hp->OA) (ac:Int) (ap:Int) (de:Int) (H:Hp):EX (bj (gN.cs F iy)) aY lh0 F Tryz.f126 [(.int .i64 ac),(.int .i64 ap),(.int .i64 de)] H=gN.twX F iy ac ap de H:=by kernel_rfl
theorem gN.k (F:Nat):Ok Tryz.prog 126 (gN.mk (gN.tw F)):=by
 intro args H v H' h
 unfold gN.mk at h
 split at h
 ·exact okT (TB:=aY) Tryz.func126 (bi (gH.k F) ca) ag.no ((gN.eqX F (gH.tw F) _ _ _ H).trans h) (by kernel_rfl)
 ·cases h
def gO.twX (F:Nat) (cR:Int->Hp->OA) (ac:Nat) (ae:Nat) (ah:Int) (ax:Int) (dZ:Sl) (cQ:Int) (el:Int) (d_:Int) (H:Hp):OA:=(Hp.new H [(.int .i64 ah),(.int .i64 ax),(.sl dZ)]).bind λH9=>(cR d_ H9).bind λr10=>((r10.1).asI .i64).bind λn11=>(bif (decide (n11>1000000000000)) then ((Hp.st r10.2 ac (ae+15) (.bool true)).bind λH12=>some ((.tup []),H12)) else ((Hp.ldSl r10.2 H.length 2).bind λs13=>(Hp.ldI r10.2 .i64 H.length 1).bind λn14=>(Sl.idx s13 (IntKind.i64.wrap ((IntKind.i64.wrap (cQ * n14))+el)) 1).bind λp15=>(Hp.st r10.2 p15.1 p15.2 (.int .i64 d_)).bind λH16=>some ((.tup []),H16)))
def gO.tw (F:Nat) (ac:Nat) (ae:Nat) (ah:Int) (ax:Int) (dZ:Sl) (cQ:Int) (el:Int) (d_:Int) (H:Hp):OA:=gO.twX F (fg.tw F) ac ae ah ax dZ cQ el d_ H
def gO.mk (g:Nat->Nat->Int->Int->Sl->Int->Int->Int->Hp->OA) (args:List AV) (H:Hp):OA:=match args with
 | [(.ptr ac ae),(.agg [(.int .i64 ah),(.int .i64 ax),(.sl dZ)]),(.int .i64 cQ),(.int .i64 el),(.int .i64 d_)]=>g ac ae ah ax dZ cQ el d_ H
 | _=>none
def gO.cs (F:Nat) (cR:Int->Hp->OA):Cs:=[(46,fg.mk cR)]
theorem gO.eqX (F:Nat) (cR:Int->Hp->OA) (ac:Nat) (ae:Nat) (ah:Int) (ax:Int) (dZ:Sl) (cQ:Int) (el:Int) (d_:Int) (H:Hp):EX (bj (gO.cs F cR)) aY lh0 F Tryz.f125 [(.ptr ac ae),(.agg [(.int .i64 ah),(.int .i64 ax),(.sl dZ)]),(.int .i64 cQ),(.int .i64 el),(.int .i64 d_)] H=gO.twX F cR ac ae ah ax dZ cQ el d_ H:=by kernel_rfl
theorem gO.k (F:Nat):Ok Tryz.prog 125 (gO.mk (gO.tw F)):=by
 intro args H v H' h
 unfold gO.mk at h
 split at h
 ·exact okT (TB:=aY) Tryz.func125 (bi (fg.k F) ca) ag.no ((gO.eqX F (fg.tw F) _ _ _ _ _ _ _ _ H).trans h) (by kernel_rfl)
 ·cases h
def dh.l7 (F:Nat) (ar:Int->Int->Sl->Int->Int->Hp->OA) (fQ:Int->Int->Int->Hp->OA) (fR:Nat->Nat->Int->Int->Sl->Int->Int->Int->Hp->OA) :Nat->Nat->Nat->Int->Int->Int->Nat->Nat->Int->Hp->OA
 | 0,_,_,_,_,_,_,_,_,_=>none
 | nA+1,lQ,fb,gZ,eZ,iz,fS,dc,fT,H21=>(Hp.ldI H21 .i64 fS (dc+1)).bind λn40=>(bif (decide (fT<n40)) then ((Hp.ldB H21 lQ (fb+15)).bind λb41=>(bif (!b41) then ((Hp.ldI H21 .i64 fS dc).bind λn42=>(Hp.ldI H21 .i64 fS (dc+1)).bind λn43=>(Hp.ldSl H21 fS (dc+2)).bind λs44=>(Hp.ldI H21 .i64 fS dc).bind λn45=>(Hp.ldI H21 .i64 fS (dc+1)).bind λn46=>(Hp.ldSl H21 fS (dc+2)).bind λs47=>(ar n45 n46 s47 gZ fT H21).bind λr48=>((r48.1).asI .i64).bind λn49=>(if bu H21 r48.2 then ((Hp.ldI r48.2 .i64 fS dc).bind λn50=>(Hp.ldI r48.2 .i64 fS (dc+1)).bind λn51=>(Hp.ldSl r48.2 fS (dc+2)).bind λs52=>(ar n50 n51 s52 eZ fT r48.2).bind λr53=>((r53.1).asI .i64).bind λn54=>(if bu r48.2 r53.2 then ((fQ n49 iz n54 r53.2).bind λr55=>((r55.1).asI .i64).bind λn56=>(if bu r53.2 r55.2 then ((fR lQ fb n42 n43 s44 gZ fT n56 r55.2).bind λr57=>dh.l7 F ar fQ fR nA lQ fb gZ eZ iz fS dc (IntKind.i64.wrap (fT+1)) r57.2) else none)) else none)) else none)) else (some ((.tup []),H21)))) else (some ((.tup []),H21)))
termination_by structural n=>n
def dh.twX (F:Nat) (ar:Int->Int->Sl->Int->Int->Hp->OA) (fQ:Int->Int->Int->Hp->OA) (fR:Nat->Nat->Int->Int->Sl->Int->Int->Int->Hp->OA) (ac:Nat) (ae:Nat) (ah:Int) (ax:Int) (dZ:Sl) (cQ:Int) (el:Int) (d_:Int) (H:Hp):OA:=(Hp.new H [(.int .i64 ah),(.int .i64 ax),(.sl dZ)]).bind λH9=>dh.l7 F ar fQ fR F ac ae cQ el d_ H.length 0 0 H9
def dh.tw (F:Nat) (ac:Nat) (ae:Nat) (ah:Int) (ax:Int) (dZ:Sl) (cQ:Int) (el:Int) (d_:Int) (H:Hp):OA:=dh.twX F (bD.tw F) (gN.tw F) (gO.tw F) ac ae ah ax dZ cQ el d_ H
def dh.lh7 (F:Nat) (ar:Int->Int->Sl->Int->Int->Hp->OA) (fQ:Int->Int->Int->Hp->OA) (fR:Nat->Nat->Int->Int->Sl->Int->Int->Int->Hp->OA) (ks:List Nat) (n:Nat) (tm:Tm) (H:Hp):OA:=match ks,tm 0,tm 2,tm 3,tm 4,tm 6,tm 10 with
 | [],(.ptr lQ fb),(.int .i64 gZ),(.int .i64 eZ),(.int .i64 iz),(.ptr fS dc),(.int .i64 fT)=>dh.l7 F ar fQ fR n lQ fb gZ eZ iz fS dc fT H
 | _,_,_,_,_,_,_=>none
theorem dh.lh7_inv {F:Nat} {ar:Int->Int->Sl->Int->Int->Hp->OA} {fQ:Int->Int->Int->Hp->OA} {fR:Nat->Nat->Int->Int->Sl->Int->Int->Int->Hp->OA} {ks:List Nat} {n:Nat} {tm:Tm} {H:Hp} {r:AV×Hp} (h:dh.lh7 F ar fQ fR ks n tm H=some r):∃ lQ fb gZ eZ iz fS dc fT,ks=[]/\ee tm [(0,(.ptr lQ fb)),(2,(.int .i64 gZ)),(3,(.int .i64 eZ)),(4,(.int .i64 iz)),(6,(.ptr fS dc)),(10,(.int .i64 fT))]/\dh.l7 F ar fQ fR n lQ fb gZ eZ iz fS dc fT H=some r:=by
 unfold dh.lh7 at h
 split at h
 ·exact ⟨_,_,_,_,_,_,_,_,rfl,⟨‹_›,‹_›,‹_›,‹_›,‹_›,‹_›,trivial⟩,h⟩
 ·cases h
def dh.lh (F:Nat) (ar:Int->Int->Sl->Int->Int->Hp->OA) (fQ:Int->Int->Int->Hp->OA) (fR:Nat->Nat->Int->Int->Sl->Int->Int->Int->Hp->OA) (p:Nat) (ks:List Nat) (n:Nat) (tm:Tm) (H:Hp):OA:=bif p.beq 7 then dh.lh7 F ar fQ fR ks n tm H else (none)
def dh.pn:Nat->List Nat:=eX [(4,[14])]
def dh.tb:Nat->List (List Nat):=eX [(4,[[],[],[],[],[],[],[],[4,5,6],[],[],[],[],[4,5,6,7,9,10,11],[4,5,6,7,8,9,10,11,12],[0,1,2,3,4,5,6,7,8,9,10,11,12,13]])]
def dh.mk (g:Nat->Nat->Int->Int->Sl->Int->Int->Int->Hp->OA) (args:List AV) (H:Hp):OA:=match args with
 | [(.ptr ac ae),(.agg [(.int .i64 ah),(.int .i64 ax),(.sl dZ)]),(.int .i64 cQ),(.int .i64 el),(.int .i64 d_)]=>g ac ae ah ax dZ cQ el d_ H
 | _=>none
def dh.cs (F:Nat) (ar:Int->Int->Sl->Int->Int->Hp->OA) (fQ:Int->Int->Int->Hp->OA) (fR:Nat->Nat->Int->Int->Sl->Int->Int->Int->Hp->OA):Cs:=[(32,bD.mk ar),(126,gN.mk fQ),(125,gO.mk fR)]
theorem dh.loops (F:Nat) (ar:Int->Int->Sl->Int->Int->Hp->OA) (fQ:Int->Int->Int->Hp->OA) (fR:Nat->Nat->Int->Int->Sl->Int->Int->Int->Hp->OA):LO (bj (dh.cs F ar fQ fR)) dh.pn (dh.lh F ar fQ fR) F Tryz.f106:=
 (ag.rt (ag.rt (ag.block (ag.loop (λtm H=>et λr h=>by obtain ⟨lQ,fb,gZ,eZ,iz,fS,dc,fT,hks,e,h⟩:=dh.lh7_inv (show dh.lh7 F ar fQ fR [] 0 tm H=some r from h);cases h) (λk7 tm H r h=>by obtain ⟨lQ,fb,gZ,eZ,iz,fS,dc,fT,hks,e,h⟩:=dh.lh7_inv (show dh.lh7 F ar fQ fR [] (k7+1) tm H=some r from h);rw [<- ef e];exact Eq.trans (by kernel_rfl) h) λk7=>ag.no))))
theorem dh.eqX (F:Nat) (ar:Int->Int->Sl->Int->Int->Hp->OA) (fQ:Int->Int->Int->Hp->OA) (fR:Nat->Nat->Int->Int->Sl->Int->Int->Int->Hp->OA) (ac:Nat) (ae:Nat) (ah:Int) (ax:Int) (dZ:Sl) (cQ:Int) (el:Int) (d_:Int) (H:Hp):EX (bj (dh.cs F ar fQ fR)) dh.pn (dh.lh F ar fQ fR) F Tryz.f106 [(.ptr ac ae),(.agg [(.int .i64 ah),(.int .i64 ax),(.sl dZ)]),(.int .i64 cQ),(.int .i64 el),(.int .i64 d_)] H=dh.twX F ar fQ fR ac ae ah ax dZ cQ el d_ H:=by kernel_rfl
theorem dh.k (F:Nat):Ok Tryz.prog 106 (dh.mk (dh.tw F)):=by
 intro args H v H' h
 unfold dh.mk at h
 split at h
 ·exact okT (TB:=dh.tb) Tryz.func106 (bi (bD.k F) (bi (gN.k F) (bi (gO.k F) ca))) (dh.loops F (bD.tw F) (gN.tw F) (gO.tw F)) ((dh.eqX F (bD.tw F) (gN.tw F) (gO.tw F) _ _ _ _ _ _ _ _ H).trans h) (by kernel_rfl)
 ·cases h
def di.l7 (F:Nat) (ar:Int->Int->Sl->Int->Int->Hp->OA) (fQ:Int->Int->Int->Hp->OA) (fR:Nat->Nat->Int->Int->Sl->Int->Int->Int->Hp->OA) :Nat->Nat->Nat->Int->Int->Int->Nat->Nat->Int->Hp->OA
 | 0,_,_,_,_,_,_,_,_,_=>none
 | nA+1,lQ,fb,gZ,eZ,iz,fS,dc,fT,H21=>(Hp.ldI H21 .i64 fS dc).bind λn40=>(bif (decide (fT<n40)) then ((Hp.ldB H21 lQ (fb+15)).bind λb41=>(bif (!b41) then ((Hp.ldI H21 .i64 fS dc).bind λn42=>(Hp.ldI H21 .i64 fS (dc+1)).bind λn43=>(Hp.ldSl H21 fS (dc+2)).bind λs44=>(Hp.ldI H21 .i64 fS dc).bind λn45=>(Hp.ldI H21 .i64 fS (dc+1)).bind λn46=>(Hp.ldSl H21 fS (dc+2)).bind λs47=>(ar n45 n46 s47 fT gZ H21).bind λr48=>((r48.1).asI .i64).bind λn49=>(if bu H21 r48.2 then ((Hp.ldI r48.2 .i64 fS dc).bind λn50=>(Hp.ldI r48.2 .i64 fS (dc+1)).bind λn51=>(Hp.ldSl r48.2 fS (dc+2)).bind λs52=>(ar n50 n51 s52 fT eZ r48.2).bind λr53=>((r53.1).asI .i64).bind λn54=>(if bu r48.2 r53.2 then ((fQ n49 iz n54 r53.2).bind λr55=>((r55.1).asI .i64).bind λn56=>(if bu r53.2 r55.2 then ((fR lQ fb n42 n43 s44 fT gZ n56 r55.2).bind λr57=>di.l7 F ar fQ fR nA lQ fb gZ eZ iz fS dc (IntKind.i64.wrap (fT+1)) r57.2) else none)) else none)) else none)) else (some ((.tup []),H21)))) else (some ((.tup []),H21)))
termination_by structural n=>n
def di.twX (F:Nat) (ar:Int->Int->Sl->Int->Int->Hp->OA) (fQ:Int->Int->Int->Hp->OA) (fR:Nat->Nat->Int->Int->Sl->Int->Int->Int->Hp->OA) (ac:Nat) (ae:Nat) (ah:Int) (ax:Int) (dZ:Sl) (cQ:Int) (el:Int) (d_:Int) (H:Hp):OA:=(Hp.new H [(.int .i64 ah),(.int .i64 ax),(.sl dZ)]).bind λH9=>di.l7 F ar fQ fR F ac ae cQ el d_ H.length 0 0 H9
def di.tw (F:Nat) (ac:Nat) (ae:Nat) (ah:Int) (ax:Int) (dZ:Sl) (cQ:Int) (el:Int) (d_:Int) (H:Hp):OA:=di.twX F (bD.tw F) (gN.tw F) (gO.tw F) ac ae ah ax dZ cQ el d_ H
def di.lh7 (F:Nat) (ar:Int->Int->Sl->Int->Int->Hp->OA) (fQ:Int->Int->Int->Hp->OA) (fR:Nat->Nat->Int->Int->Sl->Int->Int->Int->Hp->OA) (ks:List Nat) (n:Nat) (tm:Tm) (H:Hp):OA:=match ks,tm 0,tm 2,tm 3,tm 4,tm 6,tm 10 with
 | [],(.ptr lQ fb),(.int .i64 gZ),(.int .i64 eZ),(.int .i64 iz),(.ptr fS dc),(.int .i64 fT)=>di.l7 F ar fQ fR n lQ fb gZ eZ iz fS dc fT H
 | _,_,_,_,_,_,_=>none
theorem di.lh7_inv {F:Nat} {ar:Int->Int->Sl->Int->Int->Hp->OA} {fQ:Int->Int->Int->Hp->OA} {fR:Nat->Nat->Int->Int->Sl->Int->Int->Int->Hp->OA} {ks:List Nat} {n:Nat} {tm:Tm} {H:Hp} {r:AV×Hp} (h:di.lh7 F ar fQ fR ks n tm H=some r):∃ lQ fb gZ eZ iz fS dc fT,ks=[]/\ee tm [(0,(.ptr lQ fb)),(2,(.int .i64 gZ)),(3,(.int .i64 eZ)),(4,(.int .i64 iz)),(6,(.ptr fS dc)),(10,(.int .i64 fT))]/\di.l7 F ar fQ fR n lQ fb gZ eZ iz fS dc fT H=some r:=by
 unfold di.lh7 at h
 split at h
 ·exact ⟨_,_,_,_,_,_,_,_,rfl,⟨‹_›,‹_›,‹_›,‹_›,‹_›,‹_›,trivial⟩,h⟩
 ·cases h
def di.lh (F:Nat) (ar:Int->Int->Sl->Int->Int->Hp->OA) (fQ:Int->Int->Int->Hp->OA) (fR:Nat->Nat->Int->Int->Sl->Int->Int->Int->Hp->OA) (p:Nat) (ks:List Nat) (n:Nat) (tm:Tm) (H:Hp):OA:=bif p.beq 7 then di.lh7 F ar fQ fR ks n tm H else (none)
def di.pn:Nat->List Nat:=eX [(4,[14])]
def di.tb:Nat->List (List Nat):=eX [(4,[[],[],[],[],[],[],[],[4,5,6],[],[],[],[],[4,5,6,7,9,10,11],[4,5,6,7,8,9,10,11,12],[0,1,2,3,4,5,6,7,8,9,10,11,12,13]])]
def di.mk (g:Nat->Nat->Int->Int->Sl->Int->Int->Int->Hp->OA) (args:List AV) (H:Hp):OA:=match args with
 | [(.ptr ac ae),(.agg [(.int .i64 ah),(.int .i64 ax),(.sl dZ)]),(.int .i64 cQ),(.int .i64 el),(.int .i64 d_)]=>g ac ae ah ax dZ cQ el d_ H
 | _=>none
def di.cs (F:Nat) (ar:Int->Int->Sl->Int->Int->Hp->OA) (fQ:Int->Int->Int->Hp->OA) (fR:Nat->Nat->Int->Int->Sl->Int->Int->Int->Hp->OA):Cs:=[(32,bD.mk ar),(126,gN.mk fQ),(125,gO.mk fR)]
theorem di.loops (F:Nat) (ar:Int->Int->Sl->Int->Int->Hp->OA) (fQ:Int->Int->Int->Hp->OA) (fR:Nat->Nat->Int->Int->Sl->Int->Int->Int->Hp->OA):LO (bj (di.cs F ar fQ fR)) di.pn (di.lh F ar fQ fR) F Tryz.f107:=
 (ag.rt (ag.rt (ag.block (ag.loop (λtm H=>et λr h=>by obtain ⟨lQ,fb,gZ,eZ,iz,fS,dc,fT,hks,e,h⟩:=di.lh7_inv (show di.lh7 F ar fQ fR [] 0 tm H=some r from h);cases h) (λk7 tm H r h=>by obtain ⟨lQ,fb,gZ,eZ,iz,fS,dc,fT,hks,e,h⟩:=di.lh7_inv (show di.lh7 F ar fQ fR [] (k7+1) tm H=some r from h);rw [<- ef e];exact Eq.trans (by kernel_rfl) h) λk7=>ag.no))))
theorem di.eqX (F:Nat) (ar:Int->Int->Sl->Int->Int->Hp->OA) (fQ:Int->Int->Int->Hp->OA) (fR:Nat->Nat->Int->Int->Sl->Int->Int->Int->Hp->OA) (ac:Nat) (ae:Nat) (ah:Int) (ax:Int) (dZ:Sl) (cQ:Int) (el:Int) (d_:Int) (H:Hp):EX (bj (di.cs F ar fQ fR)) di.pn (di.lh F ar fQ fR) F Tryz.f107 [(.ptr ac ae),(.agg [(.int .i64 ah),(.int .i64 ax),(.sl dZ)]),(.int .i64 cQ),(.int .i64 el),(.int .i64 d_)] H=di.twX F ar fQ fR ac ae ah ax dZ cQ el d_ H:=by kernel_rfl
theorem di.k (F:Nat):Ok Tryz.prog 107 (di.mk (di.tw F)):=by
 intro args H v H' h
 unfold di.mk at h
 split at h
 ·exact okT (TB:=di.tb) Tryz.func107 (bi (bD.k F) (bi (gN.k F) (bi (gO.k F) ca))) (di.loops F (bD.tw F) (gN.tw F) (gO.tw F)) ((di.eqX F (bD.tw F) (gN.tw F) (gO.tw F) _ _ _ _ _ _ _ _ H).trans h) (by kernel_rfl)
 ·cases h
def g_.twX (F:Nat) (pA:Nat->Nat->Int->Int->Sl->Int->Int->Int->Hp->OA) (pB:Nat->Nat->Int->Int->Sl->Int->Int->Int->Hp->OA) (ac:Nat) (ae:Nat) (ah:Int) (cf:Int) (dN:Int) (H:Hp):OA:=(bif (dN != 0) then ((Hp.ldI H .i64 ac ae).bind λn6=>(Hp.ldI H .i64 ac (ae+1)).bind λn7=>(Hp.ldSl H ac (ae+2)).bind λs8=>(pA ac ae n6 n7 s8 ah cf dN H).bind λr9=>(Hp.ldI r9.2 .i64 ac (ae+3)).bind λn10=>(Hp.ldI r9.2 .i64 ac ((ae+3)+1)).bind λn11=>(Hp.ldSl r9.2 ac ((ae+3)+2)).bind λs12=>(pA ac ae n10 n11 s12 ah cf dN r9.2).bind λr13=>(Hp.ldI r13.2 .i64 ac (ae+6)).bind λn14=>(Hp.ldI r13.2 .i64 ac ((ae+6)+1)).bind λn15=>(Hp.ldSl r13.2 ac ((ae+6)+2)).bind λs16=>(pB ac ae n14 n15 s16 cf ah (IntKind.i64.wrap (0 - dN)) r13.2).bind λr17=>some ((.tup []),r17.2)) else (some ((.tup []),H)))
def g_.tw (F:Nat) (ac:Nat) (ae:Nat) (ah:Int) (cf:Int) (dN:Int) (H:Hp):OA:=g_.twX F (dh.tw F) (di.tw F) ac ae ah cf dN H
def g_.mk (g:Nat->Nat->Int->Int->Int->Hp->OA) (args:List AV) (H:Hp):OA:=match args with
 | [(.ptr ac ae),(.int .i64 ah),(.int .i64 cf),(.int .i64 dN)]=>g ac ae ah cf dN H
 | _=>none
def g_.cs (F:Nat) (pA:Nat->Nat->Int->Int->Sl->Int->Int->Int->Hp->OA) (pB:Nat->Nat->Int->Int->Sl->Int->Int->Int->Hp->OA):Cs:=[(106,dh.mk pA),(107,di.mk pB)]
theorem g_.eqX (F:Nat) (pA:Nat->Nat->Int->Int->Sl->Int->Int->Int->Hp->OA) (pB:Nat->Nat->Int->Int->Sl->Int->Int->Int->Hp->OA) (ac:Nat) (ae:Nat) (ah:Int) (cf:Int) (dN:Int) (H:Hp):EX (bj (g_.cs F pA pB)) aY lh0 F Tryz.f84 [(.ptr ac ae),(.int .i64 ah),(.int .i64 cf),(.int .i64 dN)] H=g_.twX F pA pB ac ae ah cf dN H:=by kernel_rfl
theorem g_.k (F:Nat):Ok Tryz.prog 84 (g_.mk (g_.tw F)):=by
 intro args H v H' h
 unfold g_.mk at h
 split at h
 ·exact okT (TB:=aY) Tryz.func84 (bi (dh.k F) (bi (di.k F) ca)) ag.no ((g_.eqX F (dh.tw F) (di.tw F) _ _ _ _ _ H).trans h) (by kernel_rfl)
 ·cases h
def ij.twX (F:Nat) (pB:Nat->Nat->Int->Int->Sl->Int->Int->Int->Hp->OA) (pA:Nat->Nat->Int->Int->Sl->Int->Int->Int->Hp->OA) (ac:Nat) (ae:Nat) (ah:Int) (cf:Int) (dN:Int) (H:Hp):OA:=(bif (dN != 0) then ((Hp.ldI H .i64 ac ae).bind λn6=>(Hp.ldI H .i64 ac (ae+1)).bind λn7=>(Hp.ldSl H ac (ae+2)).bind λs8=>(pB ac ae n6 n7 s8 ah cf dN H).bind λr9=>(Hp.ldI r9.2 .i64 ac (ae+9)).bind λn10=>(Hp.ldI r9.2 .i64 ac ((ae+9)+1)).bind λn11=>(Hp.ldSl r9.2 ac ((ae+9)+2)).bind λs12=>(pB ac ae n10 n11 s12 ah cf dN r9.2).bind λr13=>(Hp.ldI r13.2 .i64 ac (ae+12)).bind λn14=>(Hp.ldI r13.2 .i64 ac ((ae+12)+1)).bind λn15=>(Hp.ldSl r13.2 ac ((ae+12)+2)).bind λs16=>(pA ac ae n14 n15 s16 cf ah (IntKind.i64.wrap (0 - dN)) r13.2).bind λr17=>some ((.tup []),r17.2)) else (some ((.tup []),H)))
def ij.tw (F:Nat) (ac:Nat) (ae:Nat) (ah:Int) (cf:Int) (dN:Int) (H:Hp):OA:=ij.twX F (di.tw F) (dh.tw F) ac ae ah cf dN H
def ij.mk (g:Nat->Nat->Int->Int->Int->Hp->OA) (args:List AV) (H:Hp):OA:=match args with
 | [(.ptr ac ae),(.int .i64 ah),(.int .i64 cf),(.int .i64 dN)]=>g ac ae ah cf dN H
 | _=>none
def ij.cs (F:Nat) (pB:Nat->Nat->Int->Int->Sl->Int->Int->Int->Hp->OA) (pA:Nat->Nat->Int->Int->Sl->Int->Int->Int->Hp->OA):Cs:=[(107,di.mk pB),(106,dh.mk pA)]
theorem ij.eqX (F:Nat) (pB:Nat->Nat->Int->Int->Sl->Int->Int->Int->Hp->OA) (pA:Nat->Nat->Int->Int->Sl->Int->Int->Int->Hp->OA) (ac:Nat) (ae:Nat) (ah:Int) (cf:Int) (dN:Int) (H:Hp):EX (bj (ij.cs F pB pA)) aY lh0 F Tryz.f86 [(.ptr ac ae),(.int .i64 ah),(.int .i64 cf),(.int .i64 dN)] H=ij.twX F pB pA ac ae ah cf dN H:=by kernel_rfl
theorem ij.k (F:Nat):Ok Tryz.prog 86 (ij.mk (ij.tw F)):=by
 intro args H v H' h
 unfold ij.mk at h
 split at h
 ·exact okT (TB:=aY) Tryz.func86 (bi (di.k F) (bi (dh.k F) ca)) ag.no ((ij.eqX F (di.tw F) (dh.tw F) _ _ _ _ _ H).trans h) (by kernel_rfl)
 ·cases h
def bX.l29 (F:Nat) (ar:Int->Int->Sl->Int->Int->Hp->OA) :Nat->Nat->Nat->Int->Int->Hp->OA
 | 0,_,_,_,_,_=>none
 | fi+1,qA,qB,oy,nB,H30=>(Hp.ldI H30 .i64 qA (qB+1)).bind λn37=>(bif (decide (nB<n37)) then ((Hp.ldI H30 .i64 qA qB).bind λn38=>(Hp.ldI H30 .i64 qA (qB+1)).bind λn39=>(Hp.ldSl H30 qA (qB+2)).bind λs40=>(ar n38 n39 s40 oy nB H30).bind λr41=>((r41.1).asI .i64).bind λn42=>(bif (n42 != 0) then (some ((.bool false),r41.2)) else (bX.l29 F ar fi qA qB oy (IntKind.i64.wrap (nB+1)) r41.2))) else (some ((.bool true),H30)))
termination_by structural n=>n
def bX.j1 (F:Nat) (ar:Int->Int->Sl->Int->Int->Hp->OA) (YL:Nat) (YM:Nat) (tW:Int) (H22:Hp):OA:=bX.l29 F ar F YL YM tW (IntKind.i64.wrap (tW+1)) H22
def bX.l13 (F:Nat) (ar:Int->Int->Sl->Int->Int->Hp->OA) :Nat->Nat->Nat->Int->Int->Hp->OA
 | 0,_,_,_,_,_=>none
 | jy+1,fa,im,fc,fj,H9=>(Hp.ldI H9 .i64 fa im).bind λn43=>(bif (decide (fj<n43)) then ((Hp.ldI H9 .i64 fa im).bind λn44=>(Hp.ldI H9 .i64 fa (im+1)).bind λn45=>(Hp.ldSl H9 fa (im+2)).bind λs46=>(ar n44 n45 s46 fj fc H9).bind λr47=>((r47.1).asI .i64).bind λn48=>(bif (n48 != 0) then (some ((.bool false),r47.2)) else (bX.l13 F ar jy fa im fc (IntKind.i64.wrap (fj+1)) r47.2))) else (bX.j1 F ar fa im fc H9))
termination_by structural n=>n
def bX.twX (F:Nat) (ar:Int->Int->Sl->Int->Int->Hp->OA) (ac:Nat) (ae:Nat) (ah:Int) (H:Hp):OA:=bX.l13 F ar F ac ae ah (IntKind.i64.wrap (ah+1)) H
def bX.tw (F:Nat) (ac:Nat) (ae:Nat) (ah:Int) (H:Hp):OA:=bX.twX F (bD.tw F) ac ae ah H
def bX.lh13 (F:Nat) (ar:Int->Int->Sl->Int->Int->Hp->OA) (ks:List Nat) (n:Nat) (tm:Tm) (H:Hp):OA:=match ks,tm 0,tm 1,tm 5 with
 | [],(.ptr fa im),(.int .i64 fc),(.int .i64 fj)=>bX.l13 F ar n fa im fc fj H
 | _,_,_,_=>none
theorem bX.lh13_inv {F:Nat} {ar:Int->Int->Sl->Int->Int->Hp->OA} {ks:List Nat} {n:Nat} {tm:Tm} {H:Hp} {r:AV×Hp} (h:bX.lh13 F ar ks n tm H=some r):∃ fa im fc fj,ks=[]/\ee tm [(0,(.ptr fa im)),(1,(.int .i64 fc)),(5,(.int .i64 fj))]/\bX.l13 F ar n fa im fc fj H=some r:=by
 unfold bX.lh13 at h
 split at h
 ·exact ⟨_,_,_,_,rfl,⟨‹_›,‹_›,‹_›,trivial⟩,h⟩
 ·cases h
def bX.lh29 (F:Nat) (ar:Int->Int->Sl->Int->Int->Hp->OA) (ks:List Nat) (n:Nat) (tm:Tm) (H:Hp):OA:=match ks,tm 0,tm 1,tm 6 with
 | [],(.ptr qA qB),(.int .i64 oy),(.int .i64 nB)=>bX.l29 F ar n qA qB oy nB H
 | _,_,_,_=>none
theorem bX.lh29_inv {F:Nat} {ar:Int->Int->Sl->Int->Int->Hp->OA} {ks:List Nat} {n:Nat} {tm:Tm} {H:Hp} {r:AV×Hp} (h:bX.lh29 F ar ks n tm H=some r):∃ qA qB oy nB,ks=[]/\ee tm [(0,(.ptr qA qB)),(1,(.int .i64 oy)),(6,(.int .i64 nB))]/\bX.l29 F ar n qA qB oy nB H=some r:=by
 unfold bX.lh29 at h
 split at h
 ·exact ⟨_,_,_,_,rfl,⟨‹_›,‹_›,‹_›,trivial⟩,h⟩
 ·cases h
def bX.lh (F:Nat) (ar:Int->Int->Sl->Int->Int->Hp->OA) (p:Nat) (ks:List Nat) (n:Nat) (tm:Tm) (H:Hp):OA:=bif p.beq 29 then bX.lh29 F ar ks n tm H else (bif p.beq 13 then bX.lh13 F ar ks n tm H else (none))
def bX.mk (g:Nat->Nat->Int->Hp->OA) (args:List AV) (H:Hp):OA:=match args with
 | [(.ptr ac ae),(.int .i64 ah)]=>g ac ae ah H
 | _=>none
def bX.cs (F:Nat) (ar:Int->Int->Sl->Int->Int->Hp->OA):Cs:=[(32,bD.mk ar)]
theorem bX.loops (F:Nat) (ar:Int->Int->Sl->Int->Int->Hp->OA):LO (bj (bX.cs F ar)) aY (bX.lh F ar) F Tryz.f87:=
 (ag.rt (ag.seq (ag.rt (ag.block (ag.loop (λtm H=>et λr h=>by obtain ⟨fa,im,fc,fj,hks,e,h⟩:=bX.lh13_inv (show bX.lh13 F ar [] 0 tm H=some r from h);cases h) (λk13 tm H r h=>by obtain ⟨fa,im,fc,fj,hks,e,h⟩:=bX.lh13_inv (show bX.lh13 F ar [] (k13+1) tm H=some r from h);rw [<- ef e];exact Eq.trans (by kernel_rfl) h) λk13=>ag.no))) (ag.lt (ag.rt (ag.block (ag.loop (λtm H=>et λr h=>by obtain ⟨qA,qB,oy,nB,hks,e,h⟩:=bX.lh29_inv (show bX.lh29 F ar [] 0 tm H=some r from h);cases h) (λk29 tm H r h=>by obtain ⟨qA,qB,oy,nB,hks,e,h⟩:=bX.lh29_inv (show bX.lh29 F ar [] (k29+1) tm H=some r from h);rw [<- ef e];exact Eq.trans (by kernel_rfl) h) λk29=>ag.no))))))
theorem bX.eqX (F:Nat) (ar:Int->Int->Sl->Int->Int->Hp->OA) (ac:Nat) (ae:Nat) (ah:Int) (H:Hp):EX (bj (bX.cs F ar)) aY (bX.lh F ar) F Tryz.f87 [(.ptr ac ae),(.int .i64 ah)] H=bX.twX F ar ac ae ah H:=by kernel_rfl
theorem bX.k (F:Nat):Ok Tryz.prog 87 (bX.mk (bX.tw F)):=by
 intro args H v H' h
 unfold bX.mk at h
 split at h
 ·exact okT (TB:=aY) Tryz.func87 (bi (bD.k F) ca) (bX.loops F (bD.tw F)) ((bX.eqX F (bD.tw F) _ _ _ H).trans h) (by kernel_rfl)
 ·cases h
def bE.j3 (F:Nat) (ar:Int->Int->Sl->Int->Int->Hp->OA) (C13_:Nat->Nat->Int->Int->Hp->OA) (YN:Nat) (YO:Nat) (xS:Int) (xT:Int) (H96:Hp):OA:=C13_ YN YO xS (IntKind.i64.wrap (xT+1)) H96
def bE.j4 (F:Nat) (ar:Int->Int->Sl->Int->Int->Hp->OA) (C13_:Nat->Nat->Int->Int->Hp->OA) (YP:Nat) (YQ:Nat) (xU:Int) (tX:Int) (H87:Hp):OA:=bE.j3 F ar C13_ YP YQ xU tX H87
def bE.l213 (F:Nat) (ar:Int->Int->Sl->Int->Int->Hp->OA) (C13_:Nat->Nat->Int->Int->Hp->OA):Nat->Nat->Nat->Int->Int->Int->Hp->OA
 | 0,_,_,_,_,_,_=>none
 | CF+1,oz,oA,mm,mn,nC,H67=>(Hp.ldI H67 .i64 oz (oA+1)).bind λn97=>(bif (decide (nC<n97)) then ((Hp.ldI H67 .i64 oz oA).bind λn98=>(Hp.ldI H67 .i64 oz (oA+1)).bind λn99=>(Hp.ldSl H67 oz (oA+2)).bind λs100=>(ar n98 n99 s100 mn nC H67).bind λr101=>((r101.1).asI .i64).bind λn102=>(if bu H67 r101.2 then ((Hp.ldI r101.2 .i64 oz oA).bind λn103=>(Hp.ldI r101.2 .i64 oz (oA+1)).bind λn104=>(Hp.ldSl r101.2 oz (oA+2)).bind λs105=>(ar n103 n104 s105 mm mm r101.2).bind λr106=>((r106.1).asI .i64).bind λn107=>(if n107=0 then none else ((bif ((Int.tmod n102 n107) != 0) then (some ((.int .i64 mn),r106.2)) else (bE.l213 F ar C13_ CF oz oA mm mn (IntKind.i64.wrap (nC+1)) r106.2))))) else none)) else (bE.j4 F ar C13_ oz oA mm mn H67))
termination_by structural n=>n
def bE.l13 (F:Nat) (ar:Int->Int->Sl->Int->Int->Hp->OA) :Nat->Nat->Nat->Int->Int->Hp->OA
 | 0,_,_,_,_,_=>none
 | jy+1,fa,im,fc,fj,H9=>(Hp.ldI H9 .i64 fa im).bind λn59=>(bif (decide (fj<n59)) then (bE.l213 F ar (bE.l13 F ar jy) F fa im fc fj (IntKind.i64.wrap (fc+1)) H9) else (some ((.int .i64 (-1)),H9)))
termination_by structural n=>n
def bE.twX (F:Nat) (ar:Int->Int->Sl->Int->Int->Hp->OA) (ac:Nat) (ae:Nat) (ah:Int) (H:Hp):OA:=bE.l13 F ar F ac ae ah (IntKind.i64.wrap (ah+1)) H
def bE.tw (F:Nat) (ac:Nat) (ae:Nat) (ah:Int) (H:Hp):OA:=bE.twX F (bD.tw F) ac ae ah H
def bE.lh13 (F:Nat) (ar:Int->Int->Sl->Int->Int->Hp->OA) (ks:List Nat) (n:Nat) (tm:Tm) (H:Hp):OA:=match ks,tm 0,tm 1,tm 5 with
 | [],(.ptr fa im),(.int .i64 fc),(.int .i64 fj)=>bE.l13 F ar n fa im fc fj H
 | _,_,_,_=>none
theorem bE.lh13_inv {F:Nat} {ar:Int->Int->Sl->Int->Int->Hp->OA} {ks:List Nat} {n:Nat} {tm:Tm} {H:Hp} {r:AV×Hp} (h:bE.lh13 F ar ks n tm H=some r):∃ fa im fc fj,ks=[]/\ee tm [(0,(.ptr fa im)),(1,(.int .i64 fc)),(5,(.int .i64 fj))]/\bE.l13 F ar n fa im fc fj H=some r:=by
 unfold bE.lh13 at h
 split at h
 ·exact ⟨_,_,_,_,rfl,⟨‹_›,‹_›,‹_›,trivial⟩,h⟩
 ·cases h
def bE.lh213 (F:Nat) (ar:Int->Int->Sl->Int->Int->Hp->OA) (ks:List Nat) (n:Nat) (tm:Tm) (H:Hp):OA:=match ks,tm 0,tm 1,tm 5,tm 6 with
 | [jy],(.ptr oz oA),(.int .i64 mm),(.int .i64 mn),(.int .i64 nC)=>bE.l213 F ar (bE.l13 F ar jy) n oz oA mm mn nC H
 | _,_,_,_,_=>none
theorem bE.lh213_inv {F:Nat} {ar:Int->Int->Sl->Int->Int->Hp->OA} {ks:List Nat} {n:Nat} {tm:Tm} {H:Hp} {r:AV×Hp} (h:bE.lh213 F ar ks n tm H=some r):∃ jy oz oA mm mn nC,ks=[jy]/\ee tm [(0,(.ptr oz oA)),(1,(.int .i64 mm)),(5,(.int .i64 mn)),(6,(.int .i64 nC))]/\bE.l213 F ar (bE.l13 F ar jy) n oz oA mm mn nC H=some r:=by
 unfold bE.lh213 at h
 split at h
 ·exact ⟨_,_,_,_,_,_,rfl,⟨‹_›,‹_›,‹_›,‹_›,trivial⟩,h⟩
 ·cases h
def bE.lh (F:Nat) (ar:Int->Int->Sl->Int->Int->Hp->OA) (p:Nat) (ks:List Nat) (n:Nat) (tm:Tm) (H:Hp):OA:=bif p.beq 213 then bE.lh213 F ar ks n tm H else (bif p.beq 13 then bE.lh13 F ar ks n tm H else (none))
def bE.pn:Nat->List Nat:=eX [(7,[13])]
def bE.tb:Nat->List (List Nat):=eX [(7,[[],[0],[0,1],[0,1,2],[],[],[0,1,2,3,4,5],[],[7],[7,8],[7,8,9],[],[],[0,1,2,3,4,5,6,7,8,9,10,11,12],[0,1,2,3,4,5,6,7,8,9,10,11,12,13],[0,1,2,3,4,5,6,7,8,9,10,11,12,13,14]])]
def bE.mk (g:Nat->Nat->Int->Hp->OA) (args:List AV) (H:Hp):OA:=match args with
 | [(.ptr ac ae),(.int .i64 ah)]=>g ac ae ah H
 | _=>none
def bE.cs (F:Nat) (ar:Int->Int->Sl->Int->Int->Hp->OA):Cs:=[(32,bD.mk ar)]
theorem bE.loops (F:Nat) (ar:Int->Int->Sl->Int->Int->Hp->OA):LO (bj (bE.cs F ar)) bE.pn (bE.lh F ar) F Tryz.f88:=
 (ag.rt (ag.lt (ag.rt (ag.block (ag.loop (λtm H=>et λr h=>by obtain ⟨fa,im,fc,fj,hks,e,h⟩:=bE.lh13_inv (show bE.lh13 F ar [] 0 tm H=some r from h);cases h) (λk13 tm H r h=>by obtain ⟨fa,im,fc,fj,hks,e,h⟩:=bE.lh13_inv (show bE.lh13 F ar [] (k13+1) tm H=some r from h);rw [<- ef e];exact Eq.trans (by kernel_rfl) h) λk13=>(ag.rt (ag.lt (ag.block (ag.rt (ag.block (ag.loop (λtm H=>et λr h=>by obtain ⟨jy,oz,oA,mm,mn,nC,hks,e,h⟩:=bE.lh213_inv (show bE.lh213 F ar [k13] 0 tm H=some r from h);cases h) (λk213 tm H r h=>by obtain ⟨jy,oz,oA,mm,mn,nC,hks,e,h⟩:=bE.lh213_inv (show bE.lh213 F ar [k13] (k213+1) tm H=some r from h);cases hks;rw [<- ef e];exact Eq.trans (by kernel_rfl) h) λk213=>ag.no)))))))))))
theorem bE.eqX (F:Nat) (ar:Int->Int->Sl->Int->Int->Hp->OA) (ac:Nat) (ae:Nat) (ah:Int) (H:Hp):EX (bj (bE.cs F ar)) bE.pn (bE.lh F ar) F Tryz.f88 [(.ptr ac ae),(.int .i64 ah)] H=bE.twX F ar ac ae ah H:=by kernel_rfl
theorem bE.k (F:Nat):Ok Tryz.prog 88 (bE.mk (bE.tw F)):=by
 intro args H v H' h
 unfold bE.mk at h
 split at h
 ·exact okT (TB:=bE.tb) Tryz.func88 (bi (bD.k F) ca) (bE.loops F (bD.tw F)) ((bE.eqX F (bD.tw F) _ _ _ H).trans h) (by kernel_rfl)
 ·cases h
def bs.j1 (F:Nat) (gP:Nat->Nat->Int->Hp->OA) (ar:Int->Int->Sl->Int->Int->Hp->OA) (gI:Int->Int->Hp->OA) (gJ:Nat->Nat->Int->Int->Int->Hp->OA) (gQ:Nat->Nat->Int->Int->Int->Hp->OA) (gR:Nat->Nat->Int->Hp->OA) (gS:Nat->Nat->Int->Hp->OA) (xV:Nat) (xW:Nat) (rO:Int) (H73:Hp):OA:=(Hp.ldB H73 xV (xW+15)).bind λb74=>(bif b74 then (some ((.tup [(.bool false),(.bool false)]),H73)) else ((gR xV xW rO H73).bind λr75=>((r75.1).asB).bind λb76=>(bif (!b76) then (some ((.tup [(.bool false),(.bool false)]),r75.2)) else ((gS xV xW rO r75.2).bind λr77=>((r77.1).asI .i64).bind λn78=>(bif (decide (n78<0)) then (some ((.tup [(.bool true),(.bool false)]),r77.2)) else ((gJ xV xW rO n78 (-1) r77.2).bind λr79=>some ((.tup [(.bool false),(.bool false)]),r79.2)))))))
def bs.l61 (F:Nat) (gP:Nat->Nat->Int->Hp->OA) (ar:Int->Int->Sl->Int->Int->Hp->OA) (gI:Int->Int->Hp->OA) (gJ:Nat->Nat->Int->Int->Int->Hp->OA) (gQ:Nat->Nat->Int->Int->Int->Hp->OA) (gR:Nat->Nat->Int->Hp->OA) (gS:Nat->Nat->Int->Hp->OA) :Nat->Nat->Nat->Int->Int->Hp->OA
 | 0,_,_,_,_,_=>none
 | eg+1,mZ,m_,jS,mo,H47=>(Hp.ldI H47 .i64 mZ (m_+1)).bind λn80=>(bif (decide (mo<n80)) then ((Hp.ldB H47 mZ (m_+15)).bind λb81=>(bif (!b81) then ((Hp.ldI H47 .i64 mZ m_).bind λn82=>(Hp.ldI H47 .i64 mZ (m_+1)).bind λn83=>(Hp.ldSl H47 mZ (m_+2)).bind λs84=>(ar n82 n83 s84 jS mo H47).bind λr85=>((r85.1).asI .i64).bind λn86=>(if bu H47 r85.2 then ((Hp.ldI r85.2 .i64 mZ m_).bind λn87=>(Hp.ldI r85.2 .i64 mZ (m_+1)).bind λn88=>(Hp.ldSl r85.2 mZ (m_+2)).bind λs89=>(ar n87 n88 s89 jS jS r85.2).bind λr90=>((r90.1).asI .i64).bind λn91=>(gI n86 n91 r90.2).bind λr92=>((r92.1).asI .i64).bind λn93=>(gQ mZ m_ mo jS n93 r92.2).bind λr94=>bs.l61 F gP ar gI gJ gQ gR gS eg mZ m_ jS (IntKind.i64.wrap (mo+1)) r94.2) else none)) else (bs.j1 F gP ar gI gJ gQ gR gS mZ m_ jS H47))) else (bs.j1 F gP ar gI gJ gQ gR gS mZ m_ jS H47))
termination_by structural n=>n
def bs.j2 (F:Nat) (gP:Nat->Nat->Int->Hp->OA) (ar:Int->Int->Sl->Int->Int->Hp->OA) (gI:Int->Int->Hp->OA) (gJ:Nat->Nat->Int->Int->Int->Hp->OA) (gQ:Nat->Nat->Int->Int->Int->Hp->OA) (gR:Nat->Nat->Int->Hp->OA) (gS:Nat->Nat->Int->Hp->OA) (YR:Nat) (YS:Nat) (tY:Int) (H37:Hp):OA:=bs.l61 F gP ar gI gJ gQ gR gS F YR YS tY (IntKind.i64.wrap (tY+1)) H37
def bs.l29 (F:Nat) (gP:Nat->Nat->Int->Hp->OA) (ar:Int->Int->Sl->Int->Int->Hp->OA) (gI:Int->Int->Hp->OA) (gJ:Nat->Nat->Int->Int->Int->Hp->OA) (gQ:Nat->Nat->Int->Int->Int->Hp->OA) (gR:Nat->Nat->Int->Hp->OA) (gS:Nat->Nat->Int->Hp->OA) :Nat->Nat->Nat->Int->Int->Hp->OA
 | 0,_,_,_,_,_=>none
 | fi+1,jj,hZ,c_,mp,H13=>(Hp.ldI H13 .i64 jj hZ).bind λn95=>(bif (decide (mp<n95)) then ((Hp.ldB H13 jj (hZ+15)).bind λb96=>(bif (!b96) then ((Hp.ldI H13 .i64 jj hZ).bind λn97=>(Hp.ldI H13 .i64 jj (hZ+1)).bind λn98=>(Hp.ldSl H13 jj (hZ+2)).bind λs99=>(ar n97 n98 s99 mp c_ H13).bind λr100=>((r100.1).asI .i64).bind λn101=>(if bu H13 r100.2 then ((Hp.ldI r100.2 .i64 jj hZ).bind λn102=>(Hp.ldI r100.2 .i64 jj (hZ+1)).bind λn103=>(Hp.ldSl r100.2 jj (hZ+2)).bind λs104=>(ar n102 n103 s104 c_ c_ r100.2).bind λr105=>((r105.1).asI .i64).bind λn106=>(gI n101 n106 r105.2).bind λr107=>((r107.1).asI .i64).bind λn108=>(gJ jj hZ mp c_ n108 r107.2).bind λr109=>bs.l29 F gP ar gI gJ gQ gR gS fi jj hZ c_ (IntKind.i64.wrap (mp+1)) r109.2) else none)) else (bs.j2 F gP ar gI gJ gQ gR gS jj hZ c_ H13))) else (bs.j2 F gP ar gI gJ gQ gR gS jj hZ c_ H13))
termination_by structural n=>n
def bs.twX (F:Nat) (gP:Nat->Nat->Int->Hp->OA) (ar:Int->Int->Sl->Int->Int->Hp->OA) (gI:Int->Int->Hp->OA) (gJ:Nat->Nat->Int->Int->Int->Hp->OA) (gQ:Nat->Nat->Int->Int->Int->Hp->OA) (gR:Nat->Nat->Int->Hp->OA) (gS:Nat->Nat->Int->Hp->OA) (ac:Nat) (ae:Nat) (ah:Int) (H:Hp):OA:=(gP ac ae ah H).bind λr4=>((r4.1).asB).bind λb5=>(bif (!b5) then (some ((.tup [(.bool true),(.bool true)]),r4.2)) else (bs.l29 F gP ar gI gJ gQ gR gS F ac ae ah (IntKind.i64.wrap (ah+1)) r4.2))
def bs.tw (F:Nat) (ac:Nat) (ae:Nat) (ah:Int) (H:Hp):OA:=bs.twX F (aF.tw F) (bD.tw F) (io.tw F) (g_.tw F) (ij.tw F) (bX.tw F) (bE.tw F) ac ae ah H
def bs.lh29 (F:Nat) (gP:Nat->Nat->Int->Hp->OA) (ar:Int->Int->Sl->Int->Int->Hp->OA) (gI:Int->Int->Hp->OA) (gJ:Nat->Nat->Int->Int->Int->Hp->OA) (gQ:Nat->Nat->Int->Int->Int->Hp->OA) (gR:Nat->Nat->Int->Hp->OA) (gS:Nat->Nat->Int->Hp->OA) (ks:List Nat) (n:Nat) (tm:Tm) (H:Hp):OA:=match ks,tm 0,tm 1,tm 6 with
 | [],(.ptr jj hZ),(.int .i64 c_),(.int .i64 mp)=>bs.l29 F gP ar gI gJ gQ gR gS n jj hZ c_ mp H
 | _,_,_,_=>none
theorem bs.lh29_inv {F:Nat} {gP:Nat->Nat->Int->Hp->OA} {ar:Int->Int->Sl->Int->Int->Hp->OA} {gI:Int->Int->Hp->OA} {gJ:Nat->Nat->Int->Int->Int->Hp->OA} {gQ:Nat->Nat->Int->Int->Int->Hp->OA} {gR:Nat->Nat->Int->Hp->OA} {gS:Nat->Nat->Int->Hp->OA} {ks:List Nat} {n:Nat} {tm:Tm} {H:Hp} {r:AV×Hp} (h:bs.lh29 F gP ar gI gJ gQ gR gS ks n tm H=some r):∃ jj hZ c_ mp,ks=[]/\ee tm [(0,(.ptr jj hZ)),(1,(.int .i64 c_)),(6,(.int .i64 mp))]/\bs.l29 F gP ar gI gJ gQ gR gS n jj hZ c_ mp H=some r:=by
 unfold bs.lh29 at h
 split at h
 ·exact ⟨_,_,_,_,rfl,⟨‹_›,‹_›,‹_›,trivial⟩,h⟩
 ·cases h
def bs.lh61 (F:Nat) (gP:Nat->Nat->Int->Hp->OA) (ar:Int->Int->Sl->Int->Int->Hp->OA) (gI:Int->Int->Hp->OA) (gJ:Nat->Nat->Int->Int->Int->Hp->OA) (gQ:Nat->Nat->Int->Int->Int->Hp->OA) (gR:Nat->Nat->Int->Hp->OA) (gS:Nat->Nat->Int->Hp->OA) (ks:List Nat) (n:Nat) (tm:Tm) (H:Hp):OA:=match ks,tm 0,tm 1,tm 7 with
 | [],(.ptr mZ m_),(.int .i64 jS),(.int .i64 mo)=>bs.l61 F gP ar gI gJ gQ gR gS n mZ m_ jS mo H
 | _,_,_,_=>none
theorem bs.lh61_inv {F:Nat} {gP:Nat->Nat->Int->Hp->OA} {ar:Int->Int->Sl->Int->Int->Hp->OA} {gI:Int->Int->Hp->OA} {gJ:Nat->Nat->Int->Int->Int->Hp->OA} {gQ:Nat->Nat->Int->Int->Int->Hp->OA} {gR:Nat->Nat->Int->Hp->OA} {gS:Nat->Nat->Int->Hp->OA} {ks:List Nat} {n:Nat} {tm:Tm} {H:Hp} {r:AV×Hp} (h:bs.lh61 F gP ar gI gJ gQ gR gS ks n tm H=some r):∃ mZ m_ jS mo,ks=[]/\ee tm [(0,(.ptr mZ m_)),(1,(.int .i64 jS)),(7,(.int .i64 mo))]/\bs.l61 F gP ar gI gJ gQ gR gS n mZ m_ jS mo H=some r:=by
 unfold bs.lh61 at h
 split at h
 ·exact ⟨_,_,_,_,rfl,⟨‹_›,‹_›,‹_›,trivial⟩,h⟩
 ·cases h
def bs.lh (F:Nat) (gP:Nat->Nat->Int->Hp->OA) (ar:Int->Int->Sl->Int->Int->Hp->OA) (gI:Int->Int->Hp->OA) (gJ:Nat->Nat->Int->Int->Int->Hp->OA) (gQ:Nat->Nat->Int->Int->Int->Hp->OA) (gR:Nat->Nat->Int->Hp->OA) (gS:Nat->Nat->Int->Hp->OA) (p:Nat) (ks:List Nat) (n:Nat) (tm:Tm) (H:Hp):OA:=bif p.beq 61 then bs.lh61 F gP ar gI gJ gQ gR gS ks n tm H else (bif p.beq 29 then bs.lh29 F gP ar gI gJ gQ gR gS ks n tm H else (none))
def bs.pn:Nat->List Nat:=eX [(6,[16,17,18]),(10,[16,17,18])]
def bs.tb:Nat->List (List Nat):=eX [(6,[[],[],[],[],[3],[3,4],[3,4,5],[],[],[3,4,5,6,7,8],[],[10],[10,11],[10,11,12],[],[],[3,4,5,6,7,8,9,10,11,12,13,14,15],[3,4,5,6,7,8,9,10,11,12,13,14,15,16],[0,1,2,3,4,5,6,7,8,9,10,11,12,13,14,15,16,17]]),(10,[[],[],[],[],[3],[3,4],[3,4,5],[],[],[3,4,5,6,7,8],[],[10],[10,11],[10,11,12],[],[],[3,4,5,6,7,8,9,10,11,12,13,14,15],[3,4,5,6,7,8,9,10,11,12,13,14,15,16],[0,1,2,3,4,5,6,7,8,9,10,11,12,13,14,15,16,17]])]
def bs.mk (g:Nat->Nat->Int->Hp->OA) (args:List AV) (H:Hp):OA:=match args with
 | [(.ptr ac ae),(.int .i64 ah)]=>g ac ae ah H
 | _=>none
def bs.cs (F:Nat) (gP:Nat->Nat->Int->Hp->OA) (ar:Int->Int->Sl->Int->Int->Hp->OA) (gI:Int->Int->Hp->OA) (gJ:Nat->Nat->Int->Int->Int->Hp->OA) (gQ:Nat->Nat->Int->Int->Int->Hp->OA) (gR:Nat->Nat->Int->Hp->OA) (gS:Nat->Nat->Int->Hp->OA):Cs:=[(83,aF.mk gP),(32,bD.mk ar),(85,io.mk gI),(84,g_.mk gJ),(86,ij.mk gQ),(87,bX.mk gR),(88,bE.mk gS)]
theorem bs.loops (F:Nat) (gP:Nat->Nat->Int->Hp->OA) (ar:Int->Int->Sl->Int->Int->Hp->OA) (gI:Int->Int->Hp->OA) (gJ:Nat->Nat->Int->Int->Int->Hp->OA) (gQ:Nat->Nat->Int->Int->Int->Hp->OA) (gR:Nat->Nat->Int->Hp->OA) (gS:Nat->Nat->Int->Hp->OA):LO (bj (bs.cs F gP ar gI gJ gQ gR gS)) bs.pn (bs.lh F gP ar gI gJ gQ gR gS) F Tryz.f68:=
 (ag.rt (ag.rt (ag.seq (ag.rt (ag.block (ag.loop (λtm H=>et λr h=>by obtain ⟨jj,hZ,c_,mp,hks,e,h⟩:=bs.lh29_inv (show bs.lh29 F gP ar gI gJ gQ gR gS [] 0 tm H=some r from h);cases h) (λk29 tm H r h=>by obtain ⟨jj,hZ,c_,mp,hks,e,h⟩:=bs.lh29_inv (show bs.lh29 F gP ar gI gJ gQ gR gS [] (k29+1) tm H=some r from h);rw [<- ef e];exact Eq.trans (by kernel_rfl) h) λk29=>ag.no))) (ag.lt (ag.rt (ag.block (ag.loop (λtm H=>et λr h=>by obtain ⟨mZ,m_,jS,mo,hks,e,h⟩:=bs.lh61_inv (show bs.lh61 F gP ar gI gJ gQ gR gS [] 0 tm H=some r from h);cases h) (λk61 tm H r h=>by obtain ⟨mZ,m_,jS,mo,hks,e,h⟩:=bs.lh61_inv (show bs.lh61 F gP ar gI gJ gQ gR gS [] (k61+1) tm H=some r from h);rw [<- ef e];exact Eq.trans (by kernel_rfl) h) λk61=>ag.no)))))))
theorem bs.eqX (F:Nat) (gP:Nat->Nat->Int->Hp->OA) (ar:Int->Int->Sl->Int->Int->Hp->OA) (gI:Int->Int->Hp->OA) (gJ:Nat->Nat->Int->Int->Int->Hp->OA) (gQ:Nat->Nat->Int->Int->Int->Hp->OA) (gR:Nat->Nat->Int->Hp->OA) (gS:Nat->Nat->Int->Hp->OA) (ac:Nat) (ae:Nat) (ah:Int) (H:Hp):EX (bj (bs.cs F gP ar gI gJ gQ gR gS)) bs.pn (bs.lh F gP ar gI gJ gQ gR gS) F Tryz.f68 [(.ptr ac ae),(.int .i64 ah)] H=bs.twX F gP ar gI gJ gQ gR gS ac ae ah H:=by kernel_rfl
theorem bs.k (F:Nat):Ok Tryz.prog 68 (bs.mk (bs.tw F)):=by
 intro args H v H' h
 unfold bs.mk at h
 split at h
 ·exact okT (TB:=bs.tb) Tryz.func68 (bi (aF.k F) (bi (bD.k F) (bi (io.k F) (bi (g_.k F) (bi (ij.k F) (bi (bX.k F) (bi (bE.k F) ca))))))) (bs.loops F (aF.tw F) (bD.tw F) (io.tw F) (g_.tw F) (ij.tw F) (bX.tw F) (bE.tw F)) ((bs.eqX F (aF.tw F) (bD.tw F) (io.tw F) (g_.tw F) (ij.tw F) (bX.tw F) (bE.tw F) _ _ _ H).trans h) (by kernel_rfl)
 ·cases h
def bw.j3 (F:Nat) (gd:Int->Hp->OA) (gK:Nat->Nat->Int->Hp->OA) (C29_:Nat->Nat->Nat->Nat->Int->Hp->OA) (CV:Nat) (YT:Nat) (CW:Nat) (YU:Nat) (xX:Int) (H161:Hp):OA:=C29_ CV YT CW YU (IntKind.i64.wrap (xX+1)) H161
def bw.j4 (F:Nat) (gd:Int->Hp->OA) (gK:Nat->Nat->Int->Hp->OA) (C29_:Nat->Nat->Nat->Nat->Int->Hp->OA) (pW:Nat) (YV:Nat) (pr:Nat) (wZ:Nat) (tZ:Int) (tU:Bool) (H146:Hp):OA:=(bif tU then (some ((.ptr pr wZ),H146)) else ((Hp.ldB H146 pr (wZ+15)).bind λb147=>(bif b147 then (some ((.ptr pr wZ),H146)) else (bw.j3 F gd gK C29_ pW YV pr wZ tZ H146))))
def bw.l938 (F:Nat) (gd:Int->Hp->OA) (gK:Nat->Nat->Int->Hp->OA) (C29_:Nat->Nat->Nat->Nat->Int->Hp->OA):Nat->Nat->Nat->Nat->Nat->Int->Bool->Bool->Hp->OA
 | 0,_,_,_,_,_,_,_,_=>none
 | YW+1,pE,rP,oB,qC,mq,pF,oC,H126=>(bif (!pF) then ((Hp.ldB H126 oB (qC+15)).bind λb162=>(bif (!b162) then ((gK oB qC mq H126).bind λr163=>((r163.1).asTup 2).bind λl164=>(l164[0]?).bind λv165=>((v165).asB).bind λb166=>(l164[1]?).bind λv167=>((v167).asB).bind λb168=>bw.l938 F gd gK C29_ YW pE rP oB qC mq b166 b168 r163.2) else (bw.j4 F gd gK C29_ pE rP oB qC mq oC H126))) else (bw.j4 F gd gK C29_ pE rP oB qC mq oC H126))
termination_by structural n=>n
def bw.l29 (F:Nat) (gd:Int->Hp->OA) (gK:Nat->Nat->Int->Hp->OA) :Nat->Nat->Nat->Nat->Nat->Int->Hp->OA
 | 0,_,_,_,_,_,_=>none
 | fi+1,pG,rQ,pZ,sF,oD,H56=>(Hp.ldI H56 .i64 pG rQ).bind λn113=>(Hp.ldI H56 .i64 pG (rQ+1)).bind λn114=>(bif (decide (oD<(if n114<n113 then n114 else n113))) then (bw.l938 F gd gK (bw.l29 F gd gK fi) F pG rQ pZ sF oD false false H56) else (some ((.ptr pZ sF),H56)))
termination_by structural n=>n
def bw.twX (F:Nat) (gd:Int->Hp->OA) (gK:Nat->Nat->Int->Hp->OA) (ac:Int) (ae:Int) (aK:Sl) (H:Hp):OA:=(Hp.new H [(.int .i64 ac),(.int .i64 ae),(.sl aK)]).bind λH4=>(Hp.ldI H4 .i64 H.length 0).bind λn5=>(Hp.ldI H4 .i64 H.length 1).bind λn6=>(Hp.new H4 []).bind λH7=>(Hp.ldSl H7 H.length 2).bind λs8=>(Sl.row H7 s8 1).bind λxs10=>(Hp.app H7 1 8 (⟨some (H4.length,0),0,.ex 0⟩:Sl) s8.n xs10).bind λa9=>(if bu H7 a9.2 then ((Hp.ldI a9.2 .i64 H.length 0).bind λn11=>(gd n11 a9.2).bind λr12=>((r12.1).asAgg 3).bind λl13=>(l13[0]?).bind λv14=>((v14).asI .i64).bind λn15=>(l13[1]?).bind λv16=>((v16).asI .i64).bind λn17=>(l13[2]?).bind λv18=>((v18).asSl).bind λs19=>(if bu a9.2 r12.2 then ((Hp.ldI r12.2 .i64 H.length 0).bind λn20=>(gd n20 r12.2).bind λr21=>((r21.1).asAgg 3).bind λl22=>(l22[0]?).bind λv23=>((v23).asI .i64).bind λn24=>(l22[1]?).bind λv25=>((v25).asI .i64).bind λn26=>(l22[2]?).bind λv27=>((v27).asSl).bind λs28=>(if bu r12.2 r21.2 then ((Hp.ldI r21.2 .i64 H.length 1).bind λn29=>(gd n29 r21.2).bind λr30=>((r30.1).asAgg 3).bind λl31=>(l31[0]?).bind λv32=>((v32).asI .i64).bind λn33=>(l31[1]?).bind λv34=>((v34).asI .i64).bind λn35=>(l31[2]?).bind λv36=>((v36).asSl).bind λs37=>(if bu r21.2 r30.2 then ((Hp.ldI r30.2 .i64 H.length 1).bind λn38=>(gd n38 r30.2).bind λr39=>((r39.1).asAgg 3).bind λl40=>(l40[0]?).bind λv41=>((v41).asI .i64).bind λn42=>(l40[1]?).bind λv43=>((v43).asI .i64).bind λn44=>(l40[2]?).bind λv45=>((v45).asSl).bind λs46=>(if bu r30.2 r39.2 then ((Hp.new r39.2 [(.int .i64 n5),(.int .i64 n6),(.sl a9.1),(.int .i64 n15),(.int .i64 n17),(.sl s19),(.int .i64 n24),(.int .i64 n26),(.sl s28),(.int .i64 n33),(.int .i64 n35),(.sl s37),(.int .i64 n42),(.int .i64 n44),(.sl s46),(.bool false)]).bind λH47=>bw.l29 F gd gK F H.length 0 r39.2.length 0 0 H47) else none)) else none)) else none)) else none)) else none)
def bw.tw (F:Nat) (ac:Int) (ae:Int) (aK:Sl) (H:Hp):OA:=bw.twX F (dE.tw F) (bs.tw F) ac ae aK H
def bw.lh29 (F:Nat) (gd:Int->Hp->OA) (gK:Nat->Nat->Int->Hp->OA) (ks:List Nat) (n:Nat) (tm:Tm) (H:Hp):OA:=match ks,tm 1,tm 2,tm 3,tm 4 with
 | [],(.ptr pG rQ),.nilp,(.ptr pZ sF),(.int .i64 oD)=>bw.l29 F gd gK n pG rQ pZ sF oD H
 | _,_,_,_,_=>none
theorem bw.lh29_inv {F:Nat} {gd:Int->Hp->OA} {gK:Nat->Nat->Int->Hp->OA} {ks:List Nat} {n:Nat} {tm:Tm} {H:Hp} {r:AV×Hp} (h:bw.lh29 F gd gK ks n tm H=some r):∃ pG rQ pZ sF oD,ks=[]/\ee tm [(1,(.ptr pG rQ)),(2,.nilp),(3,(.ptr pZ sF)),(4,(.int .i64 oD))]/\bw.l29 F gd gK n pG rQ pZ sF oD H=some r:=by
 unfold bw.lh29 at h
 split at h
 ·exact ⟨_,_,_,_,_,rfl,⟨‹_›,‹_›,‹_›,‹_›,trivial⟩,h⟩
 ·cases h
def bw.lh938 (F:Nat) (gd:Int->Hp->OA) (gK:Nat->Nat->Int->Hp->OA) (ks:List Nat) (n:Nat) (tm:Tm) (H:Hp):OA:=match ks,tm 1,tm 2,tm 3,tm 4,tm 5,tm 6 with
 | [fi],(.ptr pE rP),.nilp,(.ptr oB qC),(.int .i64 mq),(.bool pF),(.bool oC)=>bw.l938 F gd gK (bw.l29 F gd gK fi) n pE rP oB qC mq pF oC H
 | _,_,_,_,_,_,_=>none
theorem bw.lh938_inv {F:Nat} {gd:Int->Hp->OA} {gK:Nat->Nat->Int->Hp->OA} {ks:List Nat} {n:Nat} {tm:Tm} {H:Hp} {r:AV×Hp} (h:bw.lh938 F gd gK ks n tm H=some r):∃ fi pE rP oB qC mq pF oC,ks=[fi]/\ee tm [(1,(.ptr pE rP)),(2,.nilp),(3,(.ptr oB qC)),(4,(.int .i64 mq)),(5,(.bool pF)),(6,(.bool oC))]/\bw.l938 F gd gK (bw.l29 F gd gK fi) n pE rP oB qC mq pF oC H=some r:=by
 unfold bw.lh938 at h
 split at h
 ·exact ⟨_,_,_,_,_,_,_,_,rfl,⟨‹_›,‹_›,‹_›,‹_›,‹_›,‹_›,trivial⟩,h⟩
 ·cases h
def bw.lh (F:Nat) (gd:Int->Hp->OA) (gK:Nat->Nat->Int->Hp->OA) (p:Nat) (ks:List Nat) (n:Nat) (tm:Tm) (H:Hp):OA:=bif p.beq 938 then bw.lh938 F gd gK ks n tm H else (bif p.beq 29 then bw.lh29 F gd gK ks n tm H else (none))
def bw.tb:Nat->List (List Nat):=eX [(1,[[],[0],[],[2],[],[],[5],[4,5,6],[0,1,2,3,4,5,6,7],[],[9],[4,5,6,7,9,10],[],[12],[4,5,6,7,9,10,11,12,13],[],[15],[4,5,6,7,9,10,11,12,13,14,15,16],[],[18],[4,5,6,7,9,10,11,12,13,14,15,16,17,18,19],[0,1,2,3,4,5,6,7,8,9,10,11,12,13,14,15,16,17,18,19,20],[0,1,2,3,4,5,6,7,8,9,10,11,12,13,14,15,16,17,18,19,20,21],[0,1,2,3,4,5,6,7,8,9,10,11,12,13,14,15,16,17,18,19,20,21,22]])]
def bw.mk (g:Int->Int->Sl->Hp->OA) (args:List AV) (H:Hp):OA:=match args with
 | [(.agg [(.int .i64 ac),(.int .i64 ae),(.sl aK)])]=>g ac ae aK H
 | _=>none
def bw.cs (F:Nat) (gd:Int->Hp->OA) (gK:Nat->Nat->Int->Hp->OA):Cs:=[(67,dE.mk gd),(68,bs.mk gK)]
theorem bw.loops (F:Nat) (gd:Int->Hp->OA) (gK:Nat->Nat->Int->Hp->OA):LO (bj (bw.cs F gd gK)) aY (bw.lh F gd gK) F Tryz.f45:=
 (ag.rt (ag.rt (ag.lt (ag.rt (ag.block (ag.loop (λtm H=>et λr h=>by obtain ⟨pG,rQ,pZ,sF,oD,hks,e,h⟩:=bw.lh29_inv (show bw.lh29 F gd gK [] 0 tm H=some r from h);cases h) (λk29 tm H r h=>by obtain ⟨pG,rQ,pZ,sF,oD,hks,e,h⟩:=bw.lh29_inv (show bw.lh29 F gd gK [] (k29+1) tm H=some r from h);rw [<- ef e];exact Eq.trans (by kernel_rfl) h) λk29=>(ag.rt (ag.lt (ag.block (ag.rt (ag.lt (ag.block (ag.loop (λtm H=>et λr h=>by obtain ⟨fi,pE,rP,oB,qC,mq,pF,oC,hks,e,h⟩:=bw.lh938_inv (show bw.lh938 F gd gK [k29] 0 tm H=some r from h);cases h) (λk938 tm H r h=>by obtain ⟨fi,pE,rP,oB,qC,mq,pF,oC,hks,e,h⟩:=bw.lh938_inv (show bw.lh938 F gd gK [k29] (k938+1) tm H=some r from h);cases hks;rw [<- ef e];exact Eq.trans (by kernel_rfl) h) λk938=>ag.no)))))))))))))
theorem bw.eqX (F:Nat) (gd:Int->Hp->OA) (gK:Nat->Nat->Int->Hp->OA) (ac:Int) (ae:Int) (aK:Sl) (H:Hp):EX (bj (bw.cs F gd gK)) aY (bw.lh F gd gK) F Tryz.f45 [(.agg [(.int .i64 ac),(.int .i64 ae),(.sl aK)])] H=bw.twX F gd gK ac ae aK H:=by kernel_rfl
theorem bw.k (F:Nat):Ok Tryz.prog 45 (bw.mk (bw.tw F)):=by
 intro args H v H' h
 unfold bw.mk at h
 split at h
 ·exact okT (TB:=bw.tb) Tryz.func45 (bi (dE.k F) (bi (bs.k F) ca)) (bw.loops F (dE.tw F) (bs.tw F)) ((bw.eqX F (dE.tw F) (bs.tw F) _ _ _ H).trans h) (by kernel_rfl)
 ·cases h
def b_.j2 (F:Nat) (jk:Int->Int->Sl->Hp->OA) (ar:Int->Int->Sl->Int->Int->Hp->OA) (CX:Nat) (YX:Nat) (YY:Sl) (H61:Hp):OA:=(Hp.ldB H61 CX (YX+15)).bind λb62=>some ((.tup [(.sl YY),(.bool (!b62))]),H61)
def b_.j3 (F:Nat) (jk:Int->Int->Sl->Hp->OA) (ar:Int->Int->Sl->Int->Int->Hp->OA) (C61_:Nat->Nat->Nat->Nat->Sl->Int->Hp->OA) (CY:Nat) (YZ:Nat) (CZ:Nat) (Y_:Nat) (tX:Sl) (xY:Int) (H88:Hp):OA:=C61_ CY YZ CZ Y_ tX (IntKind.i64.wrap (xY+1)) H88
def b_.l61 (F:Nat) (jk:Int->Int->Sl->Hp->OA) (ar:Int->Int->Sl->Int->Int->Hp->OA) :Nat->Nat->Nat->Nat->Nat->Sl->Int->Hp->OA
 | 0,_,_,_,_,_,_,_=>none
 | eg+1,oZ,ra,e_,o_,kj,gf,H22=>(Hp.ldI H22 .i64 oZ ra).bind λn63=>(Hp.ldI H22 .i64 oZ (ra+1)).bind λn64=>(bif (decide (gf<(if n64<n63 then n64 else n63))) then ((Hp.ldB H22 e_ (o_+15)).bind λb65=>(bif (!b65) then ((Hp.ldI H22 .i64 e_ o_).bind λn66=>(Hp.ldI H22 .i64 e_ (o_+1)).bind λn67=>(Hp.ldSl H22 e_ (o_+2)).bind λs68=>(ar n66 n67 s68 gf gf H22).bind λr69=>((r69.1).asI .i64).bind λn70=>(bif (n70 != 0) then ((Hp.new r69.2 [(.int .i64 n70)]).bind λH71=>(Sl.row H71 (⟨some (r69.2.length,0),1,.ex 1⟩:Sl) 1).bind λxs73=>(Hp.app H71 1 8 kj (⟨some (r69.2.length,0),1,.ex 1⟩:Sl).n xs73).bind λa72=>b_.j3 F jk ar (b_.l61 F jk ar eg) oZ ra e_ o_ a72.1 gf a72.2) else (b_.j3 F jk ar (b_.l61 F jk ar eg) oZ ra e_ o_ kj gf r69.2))) else (b_.j2 F jk ar e_ o_ kj H22))) else (b_.j2 F jk ar e_ o_ kj H22))
termination_by structural n=>n
def b_.twX (F:Nat) (jk:Int->Int->Sl->Hp->OA) (ar:Int->Int->Sl->Int->Int->Hp->OA) (ac:Int) (ae:Int) (aK:Sl) (H:Hp):OA:=(Hp.new H [(.int .i64 ac),(.int .i64 ae),(.sl aK)]).bind λH4=>(Hp.ldI H4 .i64 H.length 0).bind λn5=>(Hp.ldI H4 .i64 H.length (0+1)).bind λn6=>(Hp.ldSl H4 H.length (0+2)).bind λs7=>(jk n5 n6 s7 H4).bind λr8=>((r8.1).asP).bind λp9=>(Hp.new r8.2 []).bind λH10=>b_.l61 F jk ar F H.length 0 p9.1 p9.2 (⟨some (r8.2.length,0),0,.ex 0⟩:Sl) 0 H10
def b_.tw (F:Nat) (ac:Int) (ae:Int) (aK:Sl) (H:Hp):OA:=b_.twX F (bw.tw F) (bD.tw F) ac ae aK H
def b_.lh61 (F:Nat) (jk:Int->Int->Sl->Hp->OA) (ar:Int->Int->Sl->Int->Int->Hp->OA) (ks:List Nat) (n:Nat) (tm:Tm) (H:Hp):OA:=match ks,tm 1,tm 4,tm 5,tm 6 with
 | [],(.ptr oZ ra),(.ptr e_ o_),(.sl kj),(.int .i64 gf)=>b_.l61 F jk ar n oZ ra e_ o_ kj gf H
 | _,_,_,_,_=>none
theorem b_.lh61_inv {F:Nat} {jk:Int->Int->Sl->Hp->OA} {ar:Int->Int->Sl->Int->Int->Hp->OA} {ks:List Nat} {n:Nat} {tm:Tm} {H:Hp} {r:AV×Hp} (h:b_.lh61 F jk ar ks n tm H=some r):∃ oZ ra e_ o_ kj gf,ks=[]/\ee tm [(1,(.ptr oZ ra)),(4,(.ptr e_ o_)),(5,(.sl kj)),(6,(.int .i64 gf))]/\b_.l61 F jk ar n oZ ra e_ o_ kj gf H=some r:=by
 unfold b_.lh61 at h
 split at h
 ·exact ⟨_,_,_,_,_,_,rfl,⟨‹_›,‹_›,‹_›,‹_›,trivial⟩,h⟩
 ·cases h
def b_.lh (F:Nat) (jk:Int->Int->Sl->Hp->OA) (ar:Int->Int->Sl->Int->Int->Hp->OA) (p:Nat) (ks:List Nat) (n:Nat) (tm:Tm) (H:Hp):OA:=bif p.beq 61 then b_.lh61 F jk ar ks n tm H else (none)
def b_.tb:Nat->List (List Nat):=eX [(9,[[],[],[1],[1,2],[1,2,3],[1,2,3,4],[0],[0,1,2,3,4,5,6]])]
def b_.mk (g:Int->Int->Sl->Hp->OA) (args:List AV) (H:Hp):OA:=match args with
 | [(.agg [(.int .i64 ac),(.int .i64 ae),(.sl aK)])]=>g ac ae aK H
 | _=>none
def b_.cs (F:Nat) (jk:Int->Int->Sl->Hp->OA) (ar:Int->Int->Sl->Int->Int->Hp->OA):Cs:=[(45,bw.mk jk),(32,bD.mk ar)]
theorem b_.loops (F:Nat) (jk:Int->Int->Sl->Hp->OA) (ar:Int->Int->Sl->Int->Int->Hp->OA):LO (bj (b_.cs F jk ar)) aY (b_.lh F jk ar) F Tryz.f20:=
 (ag.rt (ag.rt (ag.rt (ag.lt (ag.rt (ag.block (ag.loop (λtm H=>et λr h=>by obtain ⟨oZ,ra,e_,o_,kj,gf,hks,e,h⟩:=b_.lh61_inv (show b_.lh61 F jk ar [] 0 tm H=some r from h);cases h) (λk61 tm H r h=>by obtain ⟨oZ,ra,e_,o_,kj,gf,hks,e,h⟩:=b_.lh61_inv (show b_.lh61 F jk ar [] (k61+1) tm H=some r from h);rw [<- ef e];exact Eq.trans (by kernel_rfl) h) λk61=>ag.no)))))))
theorem b_.eqX (F:Nat) (jk:Int->Int->Sl->Hp->OA) (ar:Int->Int->Sl->Int->Int->Hp->OA) (ac:Int) (ae:Int) (aK:Sl) (H:Hp):EX (bj (b_.cs F jk ar)) aY (b_.lh F jk ar) F Tryz.f20 [(.agg [(.int .i64 ac),(.int .i64 ae),(.sl aK)])] H=b_.twX F jk ar ac ae aK H:=by kernel_rfl
theorem b_.k (F:Nat):Ok Tryz.prog 20 (b_.mk (b_.tw F)):=by
 intro args H v H' h
 unfold b_.mk at h
 split at h
 ·exact okT (TB:=b_.tb) Tryz.func20 (bi (bw.k F) (bi (bD.k F) ca)) (b_.loops F (bw.tw F) (bD.tw F)) ((b_.eqX F (bw.tw F) (bD.tw F) _ _ _ H).trans h) (by kernel_rfl)
 ·cases h
def eA.l6 (F:Nat) :Nat->Int->Int->Hp->OA
 | 0,_,_,_=>none
 | Za+1,eS,jc,H6=>(bif (decide (jc>0)) then ((if jc=0 then none else (eA.l6 F Za jc (Int.tmod eS jc) H6))) else (some ((.int .i64 eS),H6)))
def eA.twX (F:Nat) (ac:Int) (ap:Int) (H:Hp):OA:=eA.l6 F F ac ap H
def eA.tw (F:Nat) (ac:Int) (ap:Int) (H:Hp):OA:=eA.twX F ac ap H
def eA.lh6 (F:Nat) (ks:List Nat) (n:Nat) (tm:Tm) (H:Hp):OA:=match ks,tm 0,tm 1 with
 | [],(.int .i64 eS),(.int .i64 jc)=>eA.l6 F n eS jc H
 | _,_,_=>none
theorem eA.lh6_inv {F:Nat} {ks:List Nat} {n:Nat} {tm:Tm} {H:Hp} {r:AV×Hp} (h:eA.lh6 F ks n tm H=some r):∃ eS jc,ks=[]/\ee tm [(0,(.int .i64 eS)),(1,(.int .i64 jc))]/\eA.l6 F n eS jc H=some r:=by
 unfold eA.lh6 at h
 split at h
 ·exact ⟨_,_,rfl,⟨‹_›,‹_›,trivial⟩,h⟩
 ·cases h
def eA.lh (F:Nat) (p:Nat) (ks:List Nat) (n:Nat) (tm:Tm) (H:Hp):OA:=bif p.beq 6 then eA.lh6 F ks n tm H else (none)
def eA.tb:Nat->List (List Nat):=eX [(2,[[],[],[],[1,2],[0,1],[0,1,2,3,4]])]
def eA.mk (g:Int->Int->Hp->OA) (args:List AV) (H:Hp):OA:=match args with
 | [(.int .i64 ac),(.int .i64 ap)]=>g ac ap H
 | _=>none
theorem eA.loops (F:Nat):LO (bj []) aY (eA.lh F) F Tryz.f21:=
 (ag.rt (ag.lt (ag.block (ag.loop (λtm H=>et λr h=>by obtain ⟨eS,jc,hks,e,h⟩:=eA.lh6_inv (show eA.lh6 F [] 0 tm H=some r from h);cases h) (λk6 tm H r h=>by obtain ⟨eS,jc,hks,e,h⟩:=eA.lh6_inv (show eA.lh6 F [] (k6+1) tm H=some r from h);rw [<- ef e];exact Eq.trans (by kernel_rfl) h) λk6=>ag.no))))
theorem eA.eqX (F:Nat) (ac:Int) (ap:Int) (H:Hp):EX (bj []) aY (eA.lh F) F Tryz.f21 [(.int .i64 ac),(.int .i64 ap)] H=eA.twX F ac ap H:=by kernel_rfl
theorem eA.k (F:Nat):Ok Tryz.prog 21 (eA.mk (eA.tw F)):=by
 intro args H v H' h
 unfold eA.mk at h
 split at h
 ·exact okT (TB:=eA.tb) Tryz.func21 ca (eA.loops F) ((eA.eqX F _ _ H).trans h) (by kernel_rfl)
 ·cases h
def cW.j2 (F:Nat) (jT:Sl->Int->Hp->OA) (dY:Int->Int->Int->Hp->OA) (jU:Sl->Int->Hp->OA) (jV:Int->Int->Sl->Hp->OA) (jW:Int->Int->Hp->OA) (iy:Int->Int->Int->Hp->OA) (C1021_:Int->Nat->Nat->Sl->Int->Int->Hp->OA) (xZ:Int) (C_:Nat) (Zb:Nat) (Zc:Sl) (x_:Int) (ya:Int) (yb:Int) (H106:Hp):OA:=(iy x_ yb 1000000000000 H106).bind λr107=>((r107.1).asTup 2).bind λl108=>(l108[0]?).bind λv109=>((v109).asI .i64).bind λn110=>(l108[1]?).bind λv111=>((v111).asB).bind λb112=>(bif (!b112) then (some ((.tup [(.int .i64 0),(.int .i64 3)]),r107.2)) else (C1021_ xZ C_ Zb Zc n110 (IntKind.i64.wrap (ya+1)) r107.2))
def cW.l1021 (F:Nat) (jT:Sl->Int->Hp->OA) (dY:Int->Int->Int->Hp->OA) (jU:Sl->Int->Hp->OA) (jV:Int->Int->Sl->Hp->OA) (jW:Int->Int->Hp->OA) (iy:Int->Int->Int->Hp->OA) :Nat->Int->Nat->Nat->Sl->Int->Int->Hp->OA
 | 0,_,_,_,_,_,_,_=>none
 | PA+1,mr,pH,rR,rb,nD,lx,H50=>(Hp.ldI H50 .i64 pH (rR+1)).bind λn82=>(bif (decide (lx<n82)) then ((bif (decide (lx<(rb.n:Int))) then ((Sl.idx rb lx 1).bind λp83=>(Hp.ldI H50 .i64 p83.1 p83.2).bind λn84=>(jW mr n84 H50).bind λr85=>((r85.1).asI .i64).bind λn86=>cW.j2 F jT dY jU jV jW iy (cW.l1021 F jT dY jU jV jW iy PA) mr pH rR rb nD lx n86 r85.2) else (cW.j2 F jT dY jU jV jW iy (cW.l1021 F jT dY jU jV jW iy PA) mr pH rR rb nD lx mr H50))) else (some ((.tup [(.int .i64 nD),(.int .i64 0)]),H50)))
termination_by structural n=>n
def cW.twX (F:Nat) (jT:Sl->Int->Hp->OA) (dY:Int->Int->Int->Hp->OA) (jU:Sl->Int->Hp->OA) (jV:Int->Int->Sl->Hp->OA) (jW:Int->Int->Hp->OA) (iy:Int->Int->Int->Hp->OA) (ac:Sl) (ae:Int) (ah:Int) (H:Hp):OA:=(Hp.new H [(.sl ac),(.int .i64 ae)]).bind λH4=>(Hp.ldSl H4 H.length 0).bind λs5=>(Hp.ldI H4 .i64 H.length (0+1)).bind λn6=>(jT s5 n6 H4).bind λr7=>((r7.1).asB).bind λb8=>(bif (!b8) then (some ((.tup [(.int .i64 0),(.int .i64 1)]),r7.2)) else ((dY ah 1 30 r7.2).bind λr9=>((r9.1).asB).bind λb10=>(bif (!b10) then (some ((.tup [(.int .i64 0),(.int .i64 2)]),r9.2)) else ((Hp.ldSl r9.2 H.length 0).bind λs11=>(Hp.ldI r9.2 .i64 H.length (0+1)).bind λn12=>(jU s11 n12 r9.2).bind λr13=>((r13.1).asAgg 3).bind λl14=>(l14[0]?).bind λv15=>((v15).asI .i64).bind λn16=>(l14[1]?).bind λv17=>((v17).asI .i64).bind λn18=>(l14[2]?).bind λv19=>((v19).asSl).bind λs20=>(Hp.new r13.2 [.int .i64 0,.int .i64 0,.sl ⟨none,0,.ex 0⟩]).bind λH21=>(Hp.st H21 r13.2.length 0 (.int .i64 n16)).bind λH22=>(Hp.st H22 r13.2.length (0+1) (.int .i64 n18)).bind λH23=>(Hp.st H23 r13.2.length (0+1+1) (.sl s20)).bind λH24=>(Hp.ldI H24 .i64 r13.2.length 0).bind λn25=>(Hp.ldI H24 .i64 r13.2.length (0+1)).bind λn26=>(Hp.ldSl H24 r13.2.length (0+2)).bind λs27=>(jV n25 n26 s27 H24).bind λr28=>((r28.1).asTup 2).bind λl29=>(l29[0]?).bind λv30=>((v30).asSl).bind λs31=>(l29[1]?).bind λv32=>((v32).asB).bind λb33=>(bif (!b33) then (some ((.tup [(.int .i64 0),(.int .i64 3)]),r28.2)) else (cW.l1021 F jT dY jU jV jW iy F ah r13.2.length 0 s31 1 0 r28.2))))))
def cW.tw (F:Nat) (ac:Sl) (ae:Int) (ah:Int) (H:Hp):OA:=cW.twX F (gW.tw F) (fv.tw F) (dS.tw F) (b_.tw F) (eA.tw F) (gH.tw F) ac ae ah H
def cW.lh1021 (F:Nat) (jT:Sl->Int->Hp->OA) (dY:Int->Int->Int->Hp->OA) (jU:Sl->Int->Hp->OA) (jV:Int->Int->Sl->Hp->OA) (jW:Int->Int->Hp->OA) (iy:Int->Int->Int->Hp->OA) (ks:List Nat) (n:Nat) (tm:Tm) (H:Hp):OA:=match ks,tm 1,tm 6,tm 7,tm 9,tm 10 with
 | [],(.int .i64 mr),(.ptr pH rR),(.sl rb),(.int .i64 nD),(.int .i64 lx)=>cW.l1021 F jT dY jU jV jW iy n mr pH rR rb nD lx H
 | _,_,_,_,_,_=>none
theorem cW.lh1021_inv {F:Nat} {jT:Sl->Int->Hp->OA} {dY:Int->Int->Int->Hp->OA} {jU:Sl->Int->Hp->OA} {jV:Int->Int->Sl->Hp->OA} {jW:Int->Int->Hp->OA} {iy:Int->Int->Int->Hp->OA} {ks:List Nat} {n:Nat} {tm:Tm} {H:Hp} {r:AV×Hp} (h:cW.lh1021 F jT dY jU jV jW iy ks n tm H=some r):∃ mr pH rR rb nD lx,ks=[]/\ee tm [(1,(.int .i64 mr)),(6,(.ptr pH rR)),(7,(.sl rb)),(9,(.int .i64 nD)),(10,(.int .i64 lx))]/\cW.l1021 F jT dY jU jV jW iy n mr pH rR rb nD lx H=some r:=by
 unfold cW.lh1021 at h
 split at h
 ·exact ⟨_,_,_,_,_,_,rfl,⟨‹_›,‹_›,‹_›,‹_›,‹_›,trivial⟩,h⟩
 ·cases h
def cW.lh (F:Nat) (jT:Sl->Int->Hp->OA) (dY:Int->Int->Int->Hp->OA) (jU:Sl->Int->Hp->OA) (jV:Int->Int->Sl->Hp->OA) (jW:Int->Int->Hp->OA) (iy:Int->Int->Int->Hp->OA) (p:Nat) (ks:List Nat) (n:Nat) (tm:Tm) (H:Hp):OA:=bif p.beq 1021 then cW.lh1021 F jT dY jU jV jW iy ks n tm H else (none)
def cW.mk (g:Sl->Int->Int->Hp->OA) (args:List AV) (H:Hp):OA:=match args with
 | [(.agg [(.sl ac),(.int .i64 ae)]),(.int .i64 ah)]=>g ac ae ah H
 | _=>none
def cW.cs (F:Nat) (jT:Sl->Int->Hp->OA) (dY:Int->Int->Int->Hp->OA) (jU:Sl->Int->Hp->OA) (jV:Int->Int->Sl->Hp->OA) (jW:Int->Int->Hp->OA) (iy:Int->Int->Int->Hp->OA):Cs:=[(17,gW.mk jT),(18,fv.mk dY),(19,dS.mk jU),(20,b_.mk jV),(21,eA.mk jW),(22,gH.mk iy)]
theorem cW.loops (F:Nat) (jT:Sl->Int->Hp->OA) (dY:Int->Int->Int->Hp->OA) (jU:Sl->Int->Hp->OA) (jV:Int->Int->Sl->Hp->OA) (jW:Int->Int->Hp->OA) (iy:Int->Int->Int->Hp->OA):LO (bj (cW.cs F jT dY jU jV jW iy)) aY (cW.lh F jT dY jU jV jW iy) F Tryz.f6:=
 (ag.rt (ag.rt (ag.rt (ag.rt (ag.rt (ag.rt (ag.rt (ag.lt (ag.rt (ag.block (ag.loop (λtm H=>et λr h=>by obtain ⟨mr,pH,rR,rb,nD,lx,hks,e,h⟩:=cW.lh1021_inv (show cW.lh1021 F jT dY jU jV jW iy [] 0 tm H=some r from h);cases h) (λk1021 tm H r h=>by obtain ⟨mr,pH,rR,rb,nD,lx,hks,e,h⟩:=cW.lh1021_inv (show cW.lh1021 F jT dY jU jV jW iy [] (k1021+1) tm H=some r from h);rw [<- ef e];exact Eq.trans (by kernel_rfl) h) λk1021=>ag.no)))))))))))
theorem cW.eqX (F:Nat) (jT:Sl->Int->Hp->OA) (dY:Int->Int->Int->Hp->OA) (jU:Sl->Int->Hp->OA) (jV:Int->Int->Sl->Hp->OA) (jW:Int->Int->Hp->OA) (iy:Int->Int->Int->Hp->OA) (ac:Sl) (ae:Int) (ah:Int) (H:Hp):EX (bj (cW.cs F jT dY jU jV jW iy)) aY (cW.lh F jT dY jU jV jW iy) F Tryz.f6 [(.agg [(.sl ac),(.int .i64 ae)]),(.int .i64 ah)] H=cW.twX F jT dY jU jV jW iy ac ae ah H:=by kernel_rfl
theorem cW.k (F:Nat):Ok Tryz.prog 6 (cW.mk (cW.tw F)):=by
 intro args H v H' h
 unfold cW.mk at h
 split at h
 ·exact okT (TB:=aY) Tryz.func6 (bi (gW.k F) (bi (fv.k F) (bi (dS.k F) (bi (b_.k F) (bi (eA.k F) (bi (gH.k F) ca)))))) (cW.loops F (gW.tw F) (fv.tw F) (dS.tw F) (b_.tw F) (eA.tw F) (gH.tw F)) ((cW.eqX F (gW.tw F) (fv.tw F) (dS.tw F) (b_.tw F) (eA.tw F) (gH.tw F) _ _ _ H).trans h) (by kernel_rfl)
 ·cases h
def eV.twX (F:Nat) (ac:Sl) (H:Hp):OA:=some ((.int .i64 (ac.n:Int)),H)
def eV.tw (F:Nat) (ac:Sl) (H:Hp):OA:=eV.twX F ac H
def eV.mk (g:Sl->Hp->OA) (args:List AV) (H:Hp):OA:=match args with
 | [(.sl ac)]=>g ac H
 | _=>none
theorem eV.eqX (F:Nat) (ac:Sl) (H:Hp):EX (bj []) aY lh0 F Tryz.f52 [(.sl ac)] H=eV.twX F ac H:=by kernel_rfl
theorem eV.k (F:Nat):Ok Tryz.prog 52 (eV.mk (eV.tw F)):=by
 intro args H v H' h
 unfold eV.mk at h
 split at h
 ·exact okT (TB:=aY) Tryz.func52 ca ag.no ((eV.eqX F _ H).trans h) (by kernel_rfl)
 ·cases h
def gr.twX (F:Nat) (ac:Int) (ap:Int) (de:Int) (H:Hp):OA:=(bif (decide (ap<=ac)) then (some ((.bool (decide (ac<=de))),H)) else (some ((.bool false),H)))
def gr.tw (F:Nat) (ac:Int) (ap:Int) (de:Int) (H:Hp):OA:=gr.twX F ac ap de H
def gr.mk (g:Int->Int->Int->Hp->OA) (args:List AV) (H:Hp):OA:=match args with
 | [(.int .i64 ac),(.int .i64 ap),(.int .i64 de)]=>g ac ap de H
 | _=>none
theorem gr.eqX (F:Nat) (ac:Int) (ap:Int) (de:Int) (H:Hp):EX (bj []) aY lh0 F Tryz.f70 [(.int .i64 ac),(.int .i64 ap),(.int .i64 de)] H=gr.twX F ac ap de H:=by kernel_rfl
theorem gr.k (F:Nat):Ok Tryz.prog 70 (gr.mk (gr.tw F)):=by
 intro args H v H' h
 unfold gr.mk at h
 split at h
 ·exact okT (TB:=aY) Tryz.func70 ca ag.no ((gr.eqX F _ _ _ H).trans h) (by kernel_rfl)
 ·cases h
def jC.twX (F:Nat) (ac:Int) (ae:Int) (aK:Int) (cL:Int) (cH:Int) (H:Hp):OA:=(Hp.new H [(.int .i64 ac),(.int .i64 ae),(.int .i64 aK),(.int .i64 cL),(.int .i64 cH)]).bind λH6=>(Hp.ldI H6 .i64 H.length 4).bind λn7=>(bif (n7 != 1) then ((Hp.ldI H6 .i64 H.length 4).bind λn8=>some ((.bool (n8 != (-1))),H6)) else (some ((.bool false),H6)))
def jC.tw (F:Nat) (ac:Int) (ae:Int) (aK:Int) (cL:Int) (cH:Int) (H:Hp):OA:=jC.twX F ac ae aK cL cH H
def jC.mk (g:Int->Int->Int->Int->Int->Hp->OA) (args:List AV) (H:Hp):OA:=match args with
 | [(.agg [(.int .i64 ac),(.int .i64 ae),(.int .i64 aK),(.int .i64 cL),(.int .i64 cH)])]=>g ac ae aK cL cH H
 | _=>none
theorem jC.eqX (F:Nat) (ac:Int) (ae:Int) (aK:Int) (cL:Int) (cH:Int) (H:Hp):EX (bj []) aY lh0 F Tryz.f90 [(.agg [(.int .i64 ac),(.int .i64 ae),(.int .i64 aK),(.int .i64 cL),(.int .i64 cH)])] H=jC.twX F ac ae aK cL cH H:=by kernel_rfl
theorem jC.k (F:Nat):Ok Tryz.prog 90 (jC.mk (jC.tw F)):=by
 intro args H v H' h
 unfold jC.mk at h
 split at h
 ·exact okT (TB:=aY) Tryz.func90 ca ag.no ((jC.eqX F _ _ _ _ _ H).trans h) (by kernel_rfl)
 ·cases h
def eC.l13 (F:Nat) (ly:Int->Int->Int->Int->Int->Hp->OA) :Nat->Sl->Int->Int->Hp->OA
 | 0,_,_,_,_=>none
 | jy+1,na,iA,gu,H6=>(bif (decide (gu<iA)) then ((Sl.idx na gu 5).bind λp15=>(Hp.ldI H6 .i64 p15.1 p15.2).bind λn16=>(Hp.ldI H6 .i64 p15.1 (p15.2+1)).bind λn17=>(Hp.ldI H6 .i64 p15.1 (p15.2+2)).bind λn18=>(Hp.ldI H6 .i64 p15.1 (p15.2+3)).bind λn19=>(Hp.ldI H6 .i64 p15.1 (p15.2+4)).bind λn20=>(ly n16 n17 n18 n19 n20 H6).bind λr21=>((r21.1).asB).bind λb22=>(bif b22 then (some ((.int .i64 gu),r21.2)) else (eC.l13 F ly jy na iA (IntKind.i64.wrap (gu+1)) r21.2))) else (some ((.int .i64 (-1)),H6)))
def eC.twX (F:Nat) (ly:Int->Int->Int->Int->Int->Hp->OA) (ac:Sl) (H:Hp):OA:=eC.l13 F ly F ac (ac.n:Int) 0 H
def eC.tw (F:Nat) (ac:Sl) (H:Hp):OA:=eC.twX F (jC.tw F) ac H
def eC.lh13 (F:Nat) (ly:Int->Int->Int->Int->Int->Hp->OA) (ks:List Nat) (n:Nat) (tm:Tm) (H:Hp):OA:=match ks,tm 0,tm 1,tm 7,tm 8 with
 | [],(.sl na),(.fn 90 []),(.int .i64 iA),(.int .i64 gu)=>eC.l13 F ly n na iA gu H
 | _,_,_,_,_=>none
theorem eC.lh13_inv {F:Nat} {ly:Int->Int->Int->Int->Int->Hp->OA} {ks:List Nat} {n:Nat} {tm:Tm} {H:Hp} {r:AV×Hp} (h:eC.lh13 F ly ks n tm H=some r):∃ na iA gu,ks=[]/\ee tm [(0,(.sl na)),(1,(.fn 90 [])),(7,(.int .i64 iA)),(8,(.int .i64 gu))]/\eC.l13 F ly n na iA gu H=some r:=by
 unfold eC.lh13 at h
 split at h
 ·exact ⟨_,_,_,rfl,⟨‹_›,‹_›,‹_›,‹_›,trivial⟩,h⟩
 ·cases h
def eC.lh (F:Nat) (ly:Int->Int->Int->Int->Int->Hp->OA) (p:Nat) (ks:List Nat) (n:Nat) (tm:Tm) (H:Hp):OA:=bif p.beq 13 then eC.lh13 F ly ks n tm H else (none)
def eC.mk (g:Sl->Hp->OA) (args:List AV) (H:Hp):OA:=match args with
 | [(.sl ac),(.fn 90 [])]=>g ac H
 | _=>none
def eC.cs (F:Nat) (ly:Int->Int->Int->Int->Int->Hp->OA):Cs:=[(90,jC.mk ly)]
theorem eC.loops (F:Nat) (ly:Int->Int->Int->Int->Int->Hp->OA):LO (bj (eC.cs F ly)) aY (eC.lh F ly) F Tryz.f108:=
 (ag.rt (ag.lt (ag.rt (ag.block (ag.loop (λtm H=>et λr h=>by obtain ⟨na,iA,gu,hks,e,h⟩:=eC.lh13_inv (show eC.lh13 F ly [] 0 tm H=some r from h);cases h) (λk13 tm H r h=>by obtain ⟨na,iA,gu,hks,e,h⟩:=eC.lh13_inv (show eC.lh13 F ly [] (k13+1) tm H=some r from h);rw [<- ef e];exact Eq.trans (by kernel_rfl) h) λk13=>ag.no)))))
theorem eC.eqX (F:Nat) (ly:Int->Int->Int->Int->Int->Hp->OA) (ac:Sl) (H:Hp):EX (bj (eC.cs F ly)) aY (eC.lh F ly) F Tryz.f108 [(.sl ac),(.fn 90 [])] H=eC.twX F ly ac H:=by kernel_rfl
theorem eC.k (F:Nat):Ok Tryz.prog 108 (eC.mk (eC.tw F)):=by
 intro args H v H' h
 unfold eC.mk at h
 split at h
 ·exact okT (TB:=aY) Tryz.func108 (bi (jC.k F) ca) (eC.loops F (jC.tw F)) ((eC.eqX F (jC.tw F) _ H).trans h) (by kernel_rfl)
 ·cases h
def jl.twX (F:Nat) (yc:Sl->Hp->OA) (ac:Sl) (H:Hp):OA:=(yc ac H).bind λr2=>((r2.1).asI .i64).bind λn3=>some ((.bool (decide (n3>=0))),r2.2)
def jl.tw (F:Nat) (ac:Sl) (H:Hp):OA:=jl.twX F (eC.tw F) ac H
def jl.mk (g:Sl->Hp->OA) (args:List AV) (H:Hp):OA:=match args with
 | [(.sl ac),(.fn 90 [])]=>g ac H
 | _=>none
def jl.cs (F:Nat) (yc:Sl->Hp->OA):Cs:=[(108,eC.mk yc)]
theorem jl.eqX (F:Nat) (yc:Sl->Hp->OA) (ac:Sl) (H:Hp):EX (bj (jl.cs F yc)) aY lh0 F Tryz.f89 [(.sl ac),(.fn 90 [])] H=jl.twX F yc ac H:=by kernel_rfl
theorem jl.k (F:Nat):Ok Tryz.prog 89 (jl.mk (jl.tw F)):=by
 intro args H v H' h
 unfold jl.mk at h
 split at h
 ·exact okT (TB:=aY) Tryz.func89 (bi (eC.k F) ca) ag.no ((jl.eqX F (eC.tw F) _ H).trans h) (by kernel_rfl)
 ·cases h
def bits_Mul64.twX (F:Nat) (ac:Int) (ap:Int) (H:Hp):OA:=some ((.tup [(.int .u64 (IntKind.u64.wrap ((IntKind.u64.wrap ((IntKind.u64.wrap ((Int.fdiv ac (2 ^ (min (32:Int).toNat (IntKind.u64).bits))) * (Int.fdiv ap (2 ^ (min (32:Int).toNat (IntKind.u64).bits)))))+(Int.fdiv (IntKind.u64.wrap ((IntKind.u64.wrap ((Int.fdiv ac (2 ^ (min (32:Int).toNat (IntKind.u64).bits))) * (Go.bits .and .u64 ap 4294967295)))+(Int.fdiv (IntKind.u64.wrap ((Go.bits .and .u64 ac 4294967295) * (Go.bits .and .u64 ap 4294967295))) (2 ^ (min (32:Int).toNat (IntKind.u64).bits))))) (2 ^ (min (32:Int).toNat (IntKind.u64).bits)))))+(Int.fdiv (IntKind.u64.wrap ((Go.bits .and .u64 (IntKind.u64.wrap ((IntKind.u64.wrap ((Int.fdiv ac (2 ^ (min (32:Int).toNat (IntKind.u64).bits))) * (Go.bits .and .u64 ap 4294967295)))+(Int.fdiv (IntKind.u64.wrap ((Go.bits .and .u64 ac 4294967295) * (Go.bits .and .u64 ap 4294967295))) (2 ^ (min (32:Int).toNat (IntKind.u64).bits))))) 4294967295)+(IntKind.u64.wrap ((Go.bits .and .u64 ac 4294967295) * (Int.fdiv ap (2 ^ (min (32:Int).toNat (IntKind.u64).bits))))))) (2 ^ (min (32:Int).toNat (IntKind.u64).bits)))))),(.int .u64 (IntKind.u64.wrap (ac * ap)))]),H)
def bits_Mul64.tw (F:Nat) (ac:Int) (ap:Int) (H:Hp):OA:=bits_Mul64.twX F ac ap H
def bits_Mul64.mk (g:Int->Int->Hp->OA) (args:List AV) (H:Hp):OA:=match args with
 | [(.int .u64 ac),(.int .u64 ap)]=>g ac ap H
 | _=>none
theorem bits_Mul64.eqX (F:Nat) (ac:Int) (ap:Int) (H:Hp):EX (bj []) aY lh0 F Tryz.f131 [(.int .u64 ac),(.int .u64 ap)] H=bits_Mul64.twX F ac ap H:=by kernel_rfl
theorem bits_Mul64.k (F:Nat):Ok Tryz.prog 131 (bits_Mul64.mk (bits_Mul64.tw F)):=by
 intro args H v H' h
 unfold bits_Mul64.mk at h
 split at h
 ·exact okT (TB:=aY) Tryz.func131 ca ag.no ((bits_Mul64.eqX F _ _ H).trans h) (by kernel_rfl)
 ·cases h
def bits_Mul.twX (F:Nat) (g_bits_Mul64:Int->Int->Hp->OA) (ac:Int) (ap:Int) (H:Hp):OA:=(g_bits_Mul64 ac ap H).bind λr3=>((r3.1).asTup 2).bind λl4=>(l4[0]?).bind λv5=>((v5).asI .u64).bind λn6=>(l4[1]?).bind λv7=>((v7).asI .u64).bind λn8=>some ((.tup [(.int .u64 n6),(.int .u64 n8)]),r3.2)
def bits_Mul.tw (F:Nat) (ac:Int) (ap:Int) (H:Hp):OA:=bits_Mul.twX F (bits_Mul64.tw F) ac ap H
def bits_Mul.mk (g:Int->Int->Hp->OA) (args:List AV) (H:Hp):OA:=match args with
 | [(.int .u64 ac),(.int .u64 ap)]=>g ac ap H
 | _=>none
def bits_Mul.cs (F:Nat) (g_bits_Mul64:Int->Int->Hp->OA):Cs:=[(131,bits_Mul64.mk g_bits_Mul64)]
theorem bits_Mul.eqX (F:Nat) (g_bits_Mul64:Int->Int->Hp->OA) (ac:Int) (ap:Int) (H:Hp):EX (bj (bits_Mul.cs F g_bits_Mul64)) aY lh0 F Tryz.f127 [(.int .u64 ac),(.int .u64 ap)] H=bits_Mul.twX F g_bits_Mul64 ac ap H:=by kernel_rfl
theorem bits_Mul.k (F:Nat):Ok Tryz.prog 127 (bits_Mul.mk (bits_Mul.tw F)):=by
 intro args H v H' h
 unfold bits_Mul.mk at h
 split at h
 ·exact okT (TB:=aY) Tryz.func127 (bi (bits_Mul64.k F) ca) ag.no ((bits_Mul.eqX F (bits_Mul64.tw F) _ _ H).trans h) (by kernel_rfl)
 ·cases h
def dd.l254 (F:Nat) (g_bits_Mul:Int->Int->Hp->OA) :Nat->Sl->Int->Hp->OA
 | 0,_,_,_=>none
 | Zd+1,p_,rc,H33=>(bif (decide (rc<(p_.n:Int))) then ((Sl.cut p_ 2 rc (p_.n:Int)).bind λs37=>(Sl.cut p_ 2 0 rc).bind λs38=>(Hp.cpy H33 2 s37 s38).bind λc39=>dd.l254 F g_bits_Mul Zd p_ (IntKind.i64.wrap (rc+(c39.1:Int))) c39.2) else (some ((.sl p_),H33)))
def dd.j1 (F:Nat) (g_bits_Mul:Int->Int->Hp->OA) (Ze:Sl) (vj:Int) (H21:Hp):OA:=(Hp.mk H21 [.int .i64 0,.int .i64 0] 16 (IntKind.i64.wrap vj) (IntKind.i64.wrap vj)).bind λm22=>(Hp.cpy m22.2 2 m22.1 Ze).bind λc23=>dd.l254 F g_bits_Mul F m22.1 (c23.1:Int) c23.2
def dd.j2 (F:Nat) (g_bits_Mul:Int->Int->Hp->OA) (PB:Sl) (yd:Int) (H7:Hp):OA:=(g_bits_Mul (IntKind.u64.wrap (PB.n:Int)) (IntKind.u64.wrap yd) H7).bind λr8=>((r8.1).asTup 2).bind λl9=>(l9[0]?).bind λv10=>((v10).asI .u64).bind λn11=>(l9[1]?).bind λv12=>((v12).asI .u64).bind λn13=>(bif (decide (n11>0)) then (none) else ((bif (decide (n13>9223372036854775807)) then (none) else (dd.j1 F g_bits_Mul PB n13 r8.2))))
def dd.twX (F:Nat) (g_bits_Mul:Int->Int->Hp->OA) (ac:Sl) (ap:Int) (H:Hp):OA:=(bif (decide (ap<0)) then (none) else (dd.j2 F g_bits_Mul ac ap H))
def dd.tw (F:Nat) (ac:Sl) (ap:Int) (H:Hp):OA:=dd.twX F (bits_Mul.tw F) ac ap H
def dd.lh254 (F:Nat) (g_bits_Mul:Int->Int->Hp->OA) (ks:List Nat) (n:Nat) (tm:Tm) (H:Hp):OA:=match ks,tm 7,tm 8 with
 | [],(.sl p_),(.int .i64 rc)=>dd.l254 F g_bits_Mul n p_ rc H
 | _,_,_=>none
theorem dd.lh254_inv {F:Nat} {g_bits_Mul:Int->Int->Hp->OA} {ks:List Nat} {n:Nat} {tm:Tm} {H:Hp} {r:AV×Hp} (h:dd.lh254 F g_bits_Mul ks n tm H=some r):∃ p_ rc,ks=[]/\ee tm [(7,(.sl p_)),(8,(.int .i64 rc))]/\dd.l254 F g_bits_Mul n p_ rc H=some r:=by
 unfold dd.lh254 at h
 split at h
 ·exact ⟨_,_,rfl,⟨‹_›,‹_›,trivial⟩,h⟩
 ·cases h
def dd.lh (F:Nat) (g_bits_Mul:Int->Int->Hp->OA) (p:Nat) (ks:List Nat) (n:Nat) (tm:Tm) (H:Hp):OA:=bif p.beq 254 then dd.lh254 F g_bits_Mul ks n tm H else (none)
def dd.pn:Nat->List Nat:=eX [(9,[7])]
def dd.tb:Nat->List (List Nat):=eX [(9,[[],[],[],[1,2],[],[],[4,5],[1,2,3,4,5,6],[0,1,2,3,4,5,6,7],[0,1,2,3,4,5,6,7,8]])]
def dd.mk (g:Sl->Int->Hp->OA) (args:List AV) (H:Hp):OA:=match args with
 | [(.sl ac),(.int .i64 ap)]=>g ac ap H
 | _=>none
def dd.cs (F:Nat) (g_bits_Mul:Int->Int->Hp->OA):Cs:=[(127,bits_Mul.mk g_bits_Mul)]
theorem dd.loops (F:Nat) (g_bits_Mul:Int->Int->Hp->OA):LO (bj (dd.cs F g_bits_Mul)) dd.pn (dd.lh F g_bits_Mul) F Tryz.f109:=
 (ag.rt (ag.rt (ag.rt (ag.rt (ag.rt (ag.rt (ag.lt (ag.block (ag.loop (λtm H=>et λr h=>by obtain ⟨p_,rc,hks,e,h⟩:=dd.lh254_inv (show dd.lh254 F g_bits_Mul [] 0 tm H=some r from h);cases h) (λk254 tm H r h=>by obtain ⟨p_,rc,hks,e,h⟩:=dd.lh254_inv (show dd.lh254 F g_bits_Mul [] (k254+1) tm H=some r from h);rw [<- ef e];exact Eq.trans (by kernel_rfl) h) λk254=>ag.no)))))))))
theorem dd.eqX (F:Nat) (g_bits_Mul:Int->Int->Hp->OA) (ac:Sl) (ap:Int) (H:Hp):EX (bj (dd.cs F g_bits_Mul)) dd.pn (dd.lh F g_bits_Mul) F Tryz.f109 [(.sl ac),(.int .i64 ap)] H=dd.twX F g_bits_Mul ac ap H:=by kernel_rfl
theorem dd.k (F:Nat):Ok Tryz.prog 109 (dd.mk (dd.tw F)):=by
 intro args H v H' h
 unfold dd.mk at h
 split at h
 ·exact okT (TB:=dd.tb) Tryz.func109 (bi (bits_Mul.k F) ca) (dd.loops F (bits_Mul.tw F)) ((dd.eqX F (bits_Mul.tw F) _ _ H).trans h) (by kernel_rfl)
 ·cases h
def h_.twX (F:Nat) (ac:Int) (ae:Int) (aK:Int) (cL:Int) (cH:Int) (H:Hp):OA:=(Hp.new H [(.int .i64 ac),(.int .i64 ae),(.int .i64 aK),(.int .i64 cL),(.int .i64 cH)]).bind λH6=>(Hp.new H6 [.int .i64 0,.int .i64 0,.int .i64 0,.int .i64 0]).bind λH7=>(Hp.ldI H7 .i64 H.length 0).bind λn8=>(Hp.ldI H7 .i64 H.length 1).bind λn9=>(Hp.ldI H7 .i64 H.length 2).bind λn10=>(Hp.ldI H7 .i64 H.length 3).bind λn11=>(Hp.st H7 H6.length 0 (.int .i64 n8)).bind λH12=>(Hp.st H12 H6.length (0+1) (.int .i64 n9)).bind λH13=>(Hp.st H13 H6.length (0+1+1) (.int .i64 n10)).bind λH14=>(Hp.st H14 H6.length (0+1+1+1) (.int .i64 n11)).bind λH15=>(Hp.ldI H15 .i64 H6.length 0).bind λn16=>(Hp.ldI H15 .i64 H6.length (0+1)).bind λn17=>(Hp.ldI H15 .i64 H6.length (0+2)).bind λn18=>(Hp.ldI H15 .i64 H6.length (0+3)).bind λn19=>some ((.agg [(.int .i64 n16),(.int .i64 n17),(.int .i64 n18),(.int .i64 n19)]),H15)
def h_.tw (F:Nat) (ac:Int) (ae:Int) (aK:Int) (cL:Int) (cH:Int) (H:Hp):OA:=h_.twX F ac ae aK cL cH H
def h_.mk (g:Int->Int->Int->Int->Int->Hp->OA) (args:List AV) (H:Hp):OA:=match args with
 | [(.agg [(.int .i64 ac),(.int .i64 ae),(.int .i64 aK),(.int .i64 cL),(.int .i64 cH)])]=>g ac ae aK cL cH H
 | _=>none
theorem h_.eqX (F:Nat) (ac:Int) (ae:Int) (aK:Int) (cL:Int) (cH:Int) (H:Hp):EX (bj []) aY lh0 F Tryz.f110 [(.agg [(.int .i64 ac),(.int .i64 ae),(.int .i64 aK),(.int .i64 cL),(.int .i64 cH)])] H=h_.twX F ac ae aK cL cH H:=by kernel_rfl
theorem h_.k (F:Nat):Ok Tryz.prog 110 (h_.mk (h_.tw F)):=by
 intro args H v H' h
 unfold h_.mk at h
 split at h
 ·exact okT (TB:=aY) Tryz.func110 ca ag.no ((h_.eqX F _ _ _ _ _ H).trans h) (by kernel_rfl)
 ·cases h
def ia.twX (F:Nat) (ac:Int) (ae:Int) (aK:Int) (cL:Int) (cH:Int) (eJ:Int) (H:Hp):OA:=(Hp.new H [(.int .i64 ac),(.int .i64 ae),(.int .i64 aK),(.int .i64 cL),(.int .i64 cH)]).bind λH7=>(bif (eJ==0) then (some ((.bool true),H7)) else ((Hp.ldI H7 .i64 H.length 4).bind λn8=>some ((.bool (eJ==(IntKind.i64.wrap (2+n8)))),H7)))
def ia.tw (F:Nat) (ac:Int) (ae:Int) (aK:Int) (cL:Int) (cH:Int) (eJ:Int) (H:Hp):OA:=ia.twX F ac ae aK cL cH eJ H
def ia.mk (g:Int->Int->Int->Int->Int->Int->Hp->OA) (args:List AV) (H:Hp):OA:=match args with
 | [(.agg [(.int .i64 ac),(.int .i64 ae),(.int .i64 aK),(.int .i64 cL),(.int .i64 cH)]),(.int .i64 eJ)]=>g ac ae aK cL cH eJ H
 | _=>none
theorem ia.eqX (F:Nat) (ac:Int) (ae:Int) (aK:Int) (cL:Int) (cH:Int) (eJ:Int) (H:Hp):EX (bj []) aY lh0 F Tryz.f111 [(.agg [(.int .i64 ac),(.int .i64 ae),(.int .i64 aK),(.int .i64 cL),(.int .i64 cH)]),(.int .i64 eJ)] H=ia.twX F ac ae aK cL cH eJ H:=by kernel_rfl
theorem ia.k (F:Nat):Ok Tryz.prog 111 (ia.mk (ia.tw F)):=by
 intro args H v H' h
 unfold ia.mk at h
 split at h
 ·exact okT (TB:=aY) Tryz.func111 ca ag.no ((ia.eqX F _ _ _ _ _ _ H).trans h) (by kernel_rfl)
 ·cases h
def jX.twX (F:Nat) (ac:Sl) (H:Hp):OA:=some ((.int .i64 (ac.n:Int)),H)
def jX.tw (F:Nat) (ac:Sl) (H:Hp):OA:=jX.twX F ac H
def jX.mk (g:Sl->Hp->OA) (args:List AV) (H:Hp):OA:=match args with
 | [(.sl ac)]=>g ac H
 | _=>none
theorem jX.eqX (F:Nat) (ac:Sl) (H:Hp):EX (bj []) aY lh0 F Tryz.f128 [(.sl ac)] H=jX.twX F ac H:=by kernel_rfl
theorem jX.k (F:Nat):Ok Tryz.prog 128 (jX.mk (jX.tw F)):=by
 intro args H v H' h
 unfold jX.mk at h
 split at h
 ·exact okT (TB:=aY) Tryz.func128 ca ag.no ((jX.eqX F _ H).trans h) (by kernel_rfl)
 ·cases h
def ip.twX (F:Nat) (ye:Sl->Hp->OA) (ms:Int->Int->Int->Hp->OA) (ac:Sl) (ap:Int) (H:Hp):OA:=(ye ac H).bind λr3=>((r3.1).asI .i64).bind λn4=>(ms ap 0 (IntKind.i64.wrap (n4 - 1)) r3.2).bind λr5=>((r5.1).asB).bind λb6=>some ((.bool b6),r5.2)
def ip.tw (F:Nat) (ac:Sl) (ap:Int) (H:Hp):OA:=ip.twX F (jX.tw F) (gr.tw F) ac ap H
def ip.mk (g:Sl->Int->Hp->OA) (args:List AV) (H:Hp):OA:=match args with
 | [(.sl ac),(.int .i64 ap)]=>g ac ap H
 | _=>none
def ip.cs (F:Nat) (ye:Sl->Hp->OA) (ms:Int->Int->Int->Hp->OA):Cs:=[(128,jX.mk ye),(70,gr.mk ms)]
theorem ip.eqX (F:Nat) (ye:Sl->Hp->OA) (ms:Int->Int->Int->Hp->OA) (ac:Sl) (ap:Int) (H:Hp):EX (bj (ip.cs F ye ms)) aY lh0 F Tryz.f112 [(.sl ac),(.int .i64 ap)] H=ip.twX F ye ms ac ap H:=by kernel_rfl
theorem ip.k (F:Nat):Ok Tryz.prog 112 (ip.mk (ip.tw F)):=by
 intro args H v H' h
 unfold ip.mk at h
 split at h
 ·exact okT (TB:=aY) Tryz.func112 (bi (jX.k F) (bi (gr.k F) ca)) ag.no ((ip.eqX F (jX.tw F) (gr.tw F) _ _ H).trans h) (by kernel_rfl)
 ·cases h
def bY.l3931 (F:Nat) (hG:Sl->Int->Hp->OA) (gg:Int->Int->Int->Int->Int->Hp->OA) (gh:Int->Int->Int->Int->Int->Int->Hp->OA) (hJ:Sl->Int->Hp->OA) (C61_:Nat->Nat->Nat->Nat->Sl->Int->Int->Hp->OA):Nat->Nat->Nat->Nat->Nat->Sl->Int->Int->Nat->Nat->Int->Int->Int->Int->Int->Int->Hp->OA
 | 0,_,_,_,_,_,_,_,_,_,_,_,_,_,_,_,_=>none
 | PC+1,jd,jY,kz,mu,rS,nE,nF,nG,pI,mv,kl,kn,ko,kp,ib,H233=>(bif (decide (ib<4)) then ((if 0<=ib/\ib<(4:Int) then (([(.int .i64 kl),(.int .i64 kn),(.int .i64 ko),(.int .i64 kp)]:List AV)[(ib:Int).toNat * 1]?).bind λv283=>((v283).asI .i64).bind λn284=>(Hp.ldSl H233 kz mu).bind λs285=>(Hp.ldI H233 .i64 nG pI).bind λn286=>(Hp.ldI H233 .i64 nG (pI+1)).bind λn287=>(Hp.ldI H233 .i64 nG (pI+2)).bind λn288=>(Hp.ldI H233 .i64 nG (pI+3)).bind λn289=>(Hp.ldI H233 .i64 nG (pI+4)).bind λn290=>(gh n286 n287 n288 n289 n290 ib H233).bind λr291=>((r291.1).asB).bind λb292=>(bif b292 then ((Hp.ldSl r291.2 kz (mu+1)).bind λs293=>(hJ s293 n284 r291.2).bind λr294=>((r294.1).asB).bind λb295=>(bif (!b295) then ((Hp.ldSl r294.2 kz mu).bind λs296=>(Hp.ldSl r294.2 kz (mu+1)).bind λs297=>(Hp.st r294.2 jd jY (.sl s296)).bind λH298=>(Hp.st H298 jd (jY+1) (.sl s297)).bind λH299=>(Hp.ldSl H299 jd jY).bind λs300=>(Hp.ldSl H299 jd (jY+1)).bind λs301=>some ((.tup [(.agg [(.sl s300),(.sl s301)]),(.bool false)]),H299)) else ((Sl.idx s293 n284 2).bind λp302=>(Hp.ldI r294.2 .i64 p302.1 p302.2).bind λn303=>(bif (decide (n303>=0)) then ((Hp.ldSl r294.2 kz mu).bind λs304=>(Hp.ldSl r294.2 kz (mu+1)).bind λs305=>(Hp.st r294.2 jd jY (.sl s304)).bind λH306=>(Hp.st H306 jd (jY+1) (.sl s305)).bind λH307=>(Hp.ldSl H307 jd jY).bind λs308=>(Hp.ldSl H307 jd (jY+1)).bind λs309=>some ((.tup [(.agg [(.sl s308),(.sl s309)]),(.bool false)]),H307)) else ((Sl.idx s293 n284 2).bind λp310=>(Hp.st r294.2 p310.1 p310.2 (.int .i64 mv)).bind λH311=>(Hp.st H311 p310.1 (p310.2+1) (.int .i64 ib)).bind λH312=>bY.l3931 F hG gg gh hJ C61_ PC jd jY kz mu rS nE nF nG pI mv kl kn ko kp (IntKind.i64.wrap (ib+1)) H312))))) else ((hJ s285 n284 r291.2).bind λr313=>((r313.1).asB).bind λb314=>(bif (!b314) then ((Hp.ldSl r313.2 kz mu).bind λs315=>(Hp.ldSl r313.2 kz (mu+1)).bind λs316=>(Hp.st r313.2 jd jY (.sl s315)).bind λH317=>(Hp.st H317 jd (jY+1) (.sl s316)).bind λH318=>(Hp.ldSl H318 jd jY).bind λs319=>(Hp.ldSl H318 jd (jY+1)).bind λs320=>some ((.tup [(.agg [(.sl s319),(.sl s320)]),(.bool false)]),H318)) else ((Sl.idx s285 n284 2).bind λp321=>(Hp.ldI r313.2 .i64 p321.1 p321.2).bind λn322=>(bif (decide (n322>=0)) then ((Hp.ldSl r313.2 kz mu).bind λs323=>(Hp.ldSl r313.2 kz (mu+1)).bind λs324=>(Hp.st r313.2 jd jY (.sl s323)).bind λH325=>(Hp.st H325 jd (jY+1) (.sl s324)).bind λH326=>(Hp.ldSl H326 jd jY).bind λs327=>(Hp.ldSl H326 jd (jY+1)).bind λs328=>some ((.tup [(.agg [(.sl s327),(.sl s328)]),(.bool false)]),H326)) else ((Sl.idx s285 n284 2).bind λp329=>(Hp.st r313.2 p329.1 p329.2 (.int .i64 mv)).bind λH330=>(Hp.st H330 p329.1 (p329.2+1) (.int .i64 ib)).bind λH331=>bY.l3931 F hG gg gh hJ C61_ PC jd jY kz mu rS nE nF nG pI mv kl kn ko kp (IntKind.i64.wrap (ib+1)) H331)))))) else none)) else (C61_ jd jY kz mu rS nE (IntKind.i64.wrap (nF+1)) H233))
termination_by structural n=>n
def bY.l61 (F:Nat) (hG:Sl->Int->Hp->OA) (gg:Int->Int->Int->Int->Int->Hp->OA) (gh:Int->Int->Int->Int->Int->Int->Hp->OA) (hJ:Sl->Int->Hp->OA) :Nat->Nat->Nat->Nat->Nat->Sl->Int->Int->Hp->OA
 | 0,_,_,_,_,_,_,_,_=>none
 | eg+1,oE,qD,pJ,rT,sG,oF,mw,H29=>(bif (decide (mw<oF)) then ((Sl.idx sG mw 5).bind λp184=>(Hp.ldI H29 .i64 p184.1 p184.2).bind λn185=>(Hp.ldI H29 .i64 p184.1 (p184.2+1)).bind λn186=>(Hp.ldI H29 .i64 p184.1 (p184.2+2)).bind λn187=>(Hp.ldI H29 .i64 p184.1 (p184.2+3)).bind λn188=>(Hp.ldI H29 .i64 p184.1 (p184.2+4)).bind λn189=>(Hp.new H29 [.int .i64 0,.int .i64 0,.int .i64 0,.int .i64 0,.int .i64 0]).bind λH190=>(Hp.st H190 H29.length 0 (.int .i64 n185)).bind λH191=>(Hp.st H191 H29.length (0+1) (.int .i64 n186)).bind λH192=>(Hp.st H192 H29.length (0+1+1) (.int .i64 n187)).bind λH193=>(Hp.st H193 H29.length (0+1+1+1) (.int .i64 n188)).bind λH194=>(Hp.st H194 H29.length (0+1+1+1+1) (.int .i64 n189)).bind λH195=>(Hp.ldI H195 .i64 H29.length 0).bind λn196=>(Hp.ldI H195 .i64 H29.length (0+1)).bind λn197=>(Hp.ldI H195 .i64 H29.length (0+2)).bind λn198=>(Hp.ldI H195 .i64 H29.length (0+3)).bind λn199=>(Hp.ldI H195 .i64 H29.length (0+4)).bind λn200=>(gg n196 n197 n198 n199 n200 H195).bind λr201=>((r201.1).asAgg 4).bind λl202=>(l202[0]?).bind λv203=>((v203).asI .i64).bind λn204=>(l202[1]?).bind λv205=>((v205).asI .i64).bind λn206=>(l202[2]?).bind λv207=>((v207).asI .i64).bind λn208=>(l202[3]?).bind λv209=>((v209).asI .i64).bind λn210=>bY.l3931 F hG gg gh hJ (bY.l61 F hG gg gh hJ eg) F oE qD pJ rT sG oF mw H29.length 0 mw n204 n206 n208 n210 0 r201.2) else ((Hp.ldSl H29 pJ rT).bind λs332=>(Hp.ldSl H29 pJ (rT+1)).bind λs333=>(Hp.st H29 oE qD (.sl s332)).bind λH334=>(Hp.st H334 oE (qD+1) (.sl s333)).bind λH335=>(Hp.ldSl H335 oE qD).bind λs336=>(Hp.ldSl H335 oE (qD+1)).bind λs337=>some ((.tup [(.agg [(.sl s336),(.sl s337)]),(.bool true)]),H335)))
termination_by structural n=>n
def bY.twX (F:Nat) (hG:Sl->Int->Hp->OA) (gg:Int->Int->Int->Int->Int->Hp->OA) (gh:Int->Int->Int->Int->Int->Int->Hp->OA) (hJ:Sl->Int->Hp->OA) (ac:Sl) (ae:Int) (H:Hp):OA:=(Hp.new H [(.sl ac),(.int .i64 ae)]).bind λH3=>(Hp.new H3 [.sl ⟨none,0,.ex 0⟩,.sl ⟨none,0,.ex 0⟩]).bind λH4=>(Hp.ldSl H4 H.length 0).bind λs5=>(Hp.new H4 [(.int .i64 (-1)),(.int .i64 0)]).bind λH6=>(hG (⟨some (H4.length,0),1,.ex 1⟩:Sl) (IntKind.i64.wrap (2 * (s5.n:Int))) H6).bind λr7=>((r7.1).asSl).bind λs8=>(Hp.new r7.2 [(.int .i64 (-1)),(.int .i64 0)]).bind λH9=>(hG (⟨some (r7.2.length,0),1,.ex 1⟩:Sl) (IntKind.i64.wrap (2 * (s5.n:Int))) H9).bind λr10=>((r10.1).asSl).bind λs11=>(Hp.new r10.2 [.sl ⟨none,0,.ex 0⟩,.sl ⟨none,0,.ex 0⟩]).bind λH12=>(Hp.st H12 r10.2.length 0 (.sl s8)).bind λH13=>(Hp.st H13 r10.2.length (0+1) (.sl s11)).bind λH14=>(Hp.ldSl H14 H.length 0).bind λs15=>bY.l61 F hG gg gh hJ F H3.length 0 r10.2.length 0 s15 (s15.n:Int) 0 H14
def bY.tw (F:Nat) (ac:Sl) (ae:Int) (H:Hp):OA:=bY.twX F (dd.tw F) (h_.tw F) (ia.tw F) (ip.tw F) ac ae H
def bY.lh61 (F:Nat) (hG:Sl->Int->Hp->OA) (gg:Int->Int->Int->Int->Int->Hp->OA) (gh:Int->Int->Int->Int->Int->Int->Hp->OA) (hJ:Sl->Int->Hp->OA) (ks:List Nat) (n:Nat) (tm:Tm) (H:Hp):OA:=match ks,tm 2,tm 5,tm 25,tm 26,tm 27 with
 | [],(.ptr oE qD),(.ptr pJ rT),(.sl sG),(.int .i64 oF),(.int .i64 mw)=>bY.l61 F hG gg gh hJ n oE qD pJ rT sG oF mw H
 | _,_,_,_,_,_=>none
theorem bY.lh61_inv {F:Nat} {hG:Sl->Int->Hp->OA} {gg:Int->Int->Int->Int->Int->Hp->OA} {gh:Int->Int->Int->Int->Int->Int->Hp->OA} {hJ:Sl->Int->Hp->OA} {ks:List Nat} {n:Nat} {tm:Tm} {H:Hp} {r:AV×Hp} (h:bY.lh61 F hG gg gh hJ ks n tm H=some r):∃ oE qD pJ rT sG oF mw,ks=[]/\ee tm [(2,(.ptr oE qD)),(5,(.ptr pJ rT)),(25,(.sl sG)),(26,(.int .i64 oF)),(27,(.int .i64 mw))]/\bY.l61 F hG gg gh hJ n oE qD pJ rT sG oF mw H=some r:=by
 unfold bY.lh61 at h
 split at h
 ·exact ⟨_,_,_,_,_,_,_,rfl,⟨‹_›,‹_›,‹_›,‹_›,‹_›,trivial⟩,h⟩
 ·cases h
def bY.lh3931 (F:Nat) (hG:Sl->Int->Hp->OA) (gg:Int->Int->Int->Int->Int->Hp->OA) (gh:Int->Int->Int->Int->Int->Int->Hp->OA) (hJ:Sl->Int->Hp->OA) (ks:List Nat) (n:Nat) (tm:Tm) (H:Hp):OA:=match ks,tm 2,tm 5,tm 6,tm 7,tm 25,tm 26,tm 27,tm 33,tm 34 with
 | [eg],(.ptr jd jY),(.ptr kz mu),(.int .i64 mv),(.ptr nG pI),(.sl rS),(.int .i64 nE),(.int .i64 nF),(.agg [(.int .i64 kl),(.int .i64 kn),(.int .i64 ko),(.int .i64 kp)]),(.int .i64 ib)=>bY.l3931 F hG gg gh hJ (bY.l61 F hG gg gh hJ eg) n jd jY kz mu rS nE nF nG pI mv kl kn ko kp ib H
 | _,_,_,_,_,_,_,_,_,_=>none
theorem bY.lh3931_inv {F:Nat} {hG:Sl->Int->Hp->OA} {gg:Int->Int->Int->Int->Int->Hp->OA} {gh:Int->Int->Int->Int->Int->Int->Hp->OA} {hJ:Sl->Int->Hp->OA} {ks:List Nat} {n:Nat} {tm:Tm} {H:Hp} {r:AV×Hp} (h:bY.lh3931 F hG gg gh hJ ks n tm H=some r):∃ eg jd jY kz mu mv nG pI rS nE nF kl kn ko kp ib,ks=[eg]/\ee tm [(2,(.ptr jd jY)),(5,(.ptr kz mu)),(6,(.int .i64 mv)),(7,(.ptr nG pI)),(25,(.sl rS)),(26,(.int .i64 nE)),(27,(.int .i64 nF)),(33,(.agg [(.int .i64 kl),(.int .i64 kn),(.int .i64 ko),(.int .i64 kp)])),(34,(.int .i64 ib))]/\bY.l3931 F hG gg gh hJ (bY.l61 F hG gg gh hJ eg) n jd jY kz mu rS nE nF nG pI mv kl kn ko kp ib H=some r:=by
 unfold bY.lh3931 at h
 split at h
 ·exact ⟨_,_,_,_,_,_,_,_,_,_,_,_,_,_,_,_,rfl,⟨‹_›,‹_›,‹_›,‹_›,‹_›,‹_›,‹_›,‹_›,‹_›,trivial⟩,h⟩
 ·cases h
def bY.lh (F:Nat) (hG:Sl->Int->Hp->OA) (gg:Int->Int->Int->Int->Int->Hp->OA) (gh:Int->Int->Int->Int->Int->Int->Hp->OA) (hJ:Sl->Int->Hp->OA) (p:Nat) (ks:List Nat) (n:Nat) (tm:Tm) (H:Hp):OA:=bif p.beq 3931 then bY.lh3931 F hG gg gh hJ ks n tm H else (bif p.beq 61 then bY.lh61 F hG gg gh hJ ks n tm H else (none))
def bY.mk (g:Sl->Int->Hp->OA) (args:List AV) (H:Hp):OA:=match args with
 | [(.agg [(.sl ac),(.int .i64 ae)])]=>g ac ae H
 | _=>none
def bY.cs (F:Nat) (hG:Sl->Int->Hp->OA) (gg:Int->Int->Int->Int->Int->Hp->OA) (gh:Int->Int->Int->Int->Int->Int->Hp->OA) (hJ:Sl->Int->Hp->OA):Cs:=[(109,dd.mk hG),(110,h_.mk gg),(111,ia.mk gh),(112,ip.mk hJ)]
theorem bY.loops (F:Nat) (hG:Sl->Int->Hp->OA) (gg:Int->Int->Int->Int->Int->Hp->OA) (gh:Int->Int->Int->Int->Int->Int->Hp->OA) (hJ:Sl->Int->Hp->OA):LO (bj (bY.cs F hG gg gh hJ)) aY (bY.lh F hG gg gh hJ) F Tryz.f91:=
 (ag.rt (ag.rt (ag.rt (ag.lt (ag.rt (ag.block (ag.loop (λtm H=>et λr h=>by obtain ⟨oE,qD,pJ,rT,sG,oF,mw,hks,e,h⟩:=bY.lh61_inv (show bY.lh61 F hG gg gh hJ [] 0 tm H=some r from h);cases h) (λk61 tm H r h=>by obtain ⟨oE,qD,pJ,rT,sG,oF,mw,hks,e,h⟩:=bY.lh61_inv (show bY.lh61 F hG gg gh hJ [] (k61+1) tm H=some r from h);rw [<- ef e];exact Eq.trans (by kernel_rfl) h) λk61=>(ag.rt (ag.rt (ag.lt (ag.block (ag.rt (ag.rt (ag.block (ag.loop (λtm H=>et λr h=>by obtain ⟨eg,jd,jY,kz,mu,mv,nG,pI,rS,nE,nF,kl,kn,ko,kp,ib,hks,e,h⟩:=bY.lh3931_inv (show bY.lh3931 F hG gg gh hJ [k61] 0 tm H=some r from h);cases h) (λk3931 tm H r h=>by obtain ⟨eg,jd,jY,kz,mu,mv,nG,pI,rS,nE,nF,kl,kn,ko,kp,ib,hks,e,h⟩:=bY.lh3931_inv (show bY.lh3931 F hG gg gh hJ [k61] (k3931+1) tm H=some r from h);cases hks;rw [<- ef e];exact Eq.trans (by kernel_rfl) h) λk3931=>ag.no)))))))))))))))
theorem bY.eqX (F:Nat) (hG:Sl->Int->Hp->OA) (gg:Int->Int->Int->Int->Int->Hp->OA) (gh:Int->Int->Int->Int->Int->Int->Hp->OA) (hJ:Sl->Int->Hp->OA) (ac:Sl) (ae:Int) (H:Hp):EX (bj (bY.cs F hG gg gh hJ)) aY (bY.lh F hG gg gh hJ) F Tryz.f91 [(.agg [(.sl ac),(.int .i64 ae)])] H=bY.twX F hG gg gh hJ ac ae H:=by kernel_rfl
theorem bY.k (F:Nat):Ok Tryz.prog 91 (bY.mk (bY.tw F)):=by
 intro args H v H' h
 unfold bY.mk at h
 split at h
 ·exact okT (TB:=aY) Tryz.func91 (bi (dd.k F) (bi (h_.k F) (bi (ia.k F) (bi (ip.k F) ca)))) (bY.loops F (dd.tw F) (h_.tw F) (ia.tw F) (ip.tw F)) ((bY.eqX F (dd.tw F) (h_.tw F) (ia.tw F) (ip.tw F) _ _ H).trans h) (by kernel_rfl)
 ·cases h
def gU.twX (F:Nat) (gg:Int->Int->Int->Int->Int->Hp->OA) (gh:Int->Int->Int->Int->Int->Int->Hp->OA) (ac:Sl) (ae:Int) (ah:Sl) (ax:Sl) (bS:Int) (cQ:Int) (H:Hp):OA:=(Hp.new H [(.sl ac),(.int .i64 ae)]).bind λH7=>(Hp.new H7 [(.sl ah),(.sl ax)]).bind λH8=>(Hp.new H8 [(.int .i64 bS),(.int .i64 cQ)]).bind λH9=>(Hp.new H9 [.int .i64 0,.int .i64 0]).bind λH10=>(Hp.ldSl H10 H.length 0).bind λs11=>(Hp.ldI H10 .i64 H8.length 0).bind λn12=>(Sl.idx s11 n12 5).bind λp13=>(Hp.ldI H10 .i64 p13.1 p13.2).bind λn14=>(Hp.ldI H10 .i64 p13.1 (p13.2+1)).bind λn15=>(Hp.ldI H10 .i64 p13.1 (p13.2+2)).bind λn16=>(Hp.ldI H10 .i64 p13.1 (p13.2+3)).bind λn17=>(Hp.ldI H10 .i64 p13.1 (p13.2+4)).bind λn18=>(Hp.new H10 [.int .i64 0,.int .i64 0,.int .i64 0,.int .i64 0,.int .i64 0]).bind λH19=>(Hp.st H19 H10.length 0 (.int .i64 n14)).bind λH20=>(Hp.st H20 H10.length (0+1) (.int .i64 n15)).bind λH21=>(Hp.st H21 H10.length (0+1+1) (.int .i64 n16)).bind λH22=>(Hp.st H22 H10.length (0+1+1+1) (.int .i64 n17)).bind λH23=>(Hp.st H23 H10.length (0+1+1+1+1) (.int .i64 n18)).bind λH24=>(Hp.ldI H24 .i64 H10.length 0).bind λn25=>(Hp.ldI H24 .i64 H10.length (0+1)).bind λn26=>(Hp.ldI H24 .i64 H10.length (0+2)).bind λn27=>(Hp.ldI H24 .i64 H10.length (0+3)).bind λn28=>(Hp.ldI H24 .i64 H10.length (0+4)).bind λn29=>(gg n25 n26 n27 n28 n29 H24).bind λr30=>((r30.1).asAgg 4).bind λl31=>(l31[0]?).bind λv32=>((v32).asI .i64).bind λn33=>(l31[1]?).bind λv34=>((v34).asI .i64).bind λn35=>(l31[2]?).bind λv36=>((v36).asI .i64).bind λn37=>(l31[3]?).bind λv38=>((v38).asI .i64).bind λn39=>(if bu H24 r30.2 then ((Hp.ldI r30.2 .i64 H8.length 1).bind λn40=>(if 0<=n40/\n40<(4:Int) then (([(.int .i64 n33),(.int .i64 n35),(.int .i64 n37),(.int .i64 n39)]:List AV)[(n40:Int).toNat * 1]?).bind λv41=>((v41).asI .i64).bind λn42=>(Hp.ldI r30.2 .i64 H10.length 0).bind λn43=>(Hp.ldI r30.2 .i64 H10.length (0+1)).bind λn44=>(Hp.ldI r30.2 .i64 H10.length (0+2)).bind λn45=>(Hp.ldI r30.2 .i64 H10.length (0+3)).bind λn46=>(Hp.ldI r30.2 .i64 H10.length (0+4)).bind λn47=>(Hp.ldI r30.2 .i64 H8.length 1).bind λn48=>(gh n43 n44 n45 n46 n47 n48 r30.2).bind λr49=>((r49.1).asB).bind λb50=>(bif b50 then ((Hp.ldSl r49.2 H7.length 0).bind λs51=>(Sl.idx s51 n42 2).bind λp52=>(Hp.ldI r49.2 .i64 p52.1 p52.2).bind λn53=>(Hp.ldI r49.2 .i64 p52.1 (p52.2+1)).bind λn54=>(Hp.st r49.2 H9.length 0 (.int .i64 n53)).bind λH55=>(Hp.st H55 H9.length (0+1) (.int .i64 n54)).bind λH56=>(Hp.ldI H56 .i64 H9.length 0).bind λn57=>(Hp.ldI H56 .i64 H9.length (0+1)).bind λn58=>some ((.agg [(.int .i64 n57),(.int .i64 n58)]),H56)) else ((Hp.ldSl r49.2 H7.length 1).bind λs59=>(Sl.idx s59 n42 2).bind λp60=>(Hp.ldI r49.2 .i64 p60.1 p60.2).bind λn61=>(Hp.ldI r49.2 .i64 p60.1 (p60.2+1)).bind λn62=>(Hp.st r49.2 H9.length 0 (.int .i64 n61)).bind λH63=>(Hp.st H63 H9.length (0+1) (.int .i64 n62)).bind λH64=>(Hp.ldI H64 .i64 H9.length 0).bind λn65=>(Hp.ldI H64 .i64 H9.length (0+1)).bind λn66=>some ((.agg [(.int .i64 n65),(.int .i64 n66)]),H64))) else none)) else none)
def gU.tw (F:Nat) (ac:Sl) (ae:Int) (ah:Sl) (ax:Sl) (bS:Int) (cQ:Int) (H:Hp):OA:=gU.twX F (h_.tw F) (ia.tw F) ac ae ah ax bS cQ H
def gU.tb:Nat->List (List Nat):=eX [(2,[[],[0],[],[2],[0,1,2,3],[0,1,2,3,4]])]
def gU.mk (g:Sl->Int->Sl->Sl->Int->Int->Hp->OA) (args:List AV) (H:Hp):OA:=match args with
 | [(.agg [(.sl ac),(.int .i64 ae)]),(.agg [(.sl ah),(.sl ax)]),(.agg [(.int .i64 bS),(.int .i64 cQ)])]=>g ac ae ah ax bS cQ H
 | _=>none
def gU.cs (F:Nat) (gg:Int->Int->Int->Int->Int->Hp->OA) (gh:Int->Int->Int->Int->Int->Int->Hp->OA):Cs:=[(110,h_.mk gg),(111,ia.mk gh)]
theorem gU.eqX (F:Nat) (gg:Int->Int->Int->Int->Int->Hp->OA) (gh:Int->Int->Int->Int->Int->Int->Hp->OA) (ac:Sl) (ae:Int) (ah:Sl) (ax:Sl) (bS:Int) (cQ:Int) (H:Hp):EX (bj (gU.cs F gg gh)) aY lh0 F Tryz.f113 [(.agg [(.sl ac),(.int .i64 ae)]),(.agg [(.sl ah),(.sl ax)]),(.agg [(.int .i64 bS),(.int .i64 cQ)])] H=gU.twX F gg gh ac ae ah ax bS cQ H:=by kernel_rfl
theorem gU.k (F:Nat):Ok Tryz.prog 113 (gU.mk (gU.tw F)):=by
 intro args H v H' h
 unfold gU.mk at h
 split at h
 ·exact okT (TB:=gU.tb) Tryz.func113 (bi (h_.k F) (bi (ia.k F) ca)) ag.no ((gU.eqX F (h_.tw F) (ia.tw F) _ _ _ _ _ _ H).trans h) (by kernel_rfl)
 ·cases h
def bt.j4 (F:Nat) (gn:Sl->Int->Sl->Sl->Int->Int->Hp->OA) (C61_:Nat->Nat->Nat->Nat->Sl->Sl->Int->Int->Hp->OA) (Da:Nat) (Zf:Nat) (Db:Nat) (Zg:Nat) (Zh:Sl) (Zi:Sl) (yf:Int) (yh:Int) (H248:Hp):OA:=C61_ Da Zf Db Zg Zh Zi yf (IntKind.i64.wrap (yh+1)) H248
def bt.j5 (F:Nat) (gn:Sl->Int->Sl->Sl->Int->Int->Hp->OA) (C61_:Nat->Nat->Nat->Nat->Sl->Sl->Int->Int->Hp->OA) (Dc:Nat) (Zj:Nat) (xi:Nat) (Zk:Nat) (tV:Sl) (Zl:Sl) (yi:Int) (yj:Int) (H228:Hp):OA:=bt.j4 F gn C61_ Dc Zj xi Zk tV Zl yi yj H228
def bt.j6 (F:Nat) (gn:Sl->Int->Sl->Sl->Int->Int->Hp->OA) (C61_:Nat->Nat->Nat->Nat->Sl->Sl->Int->Int->Hp->OA) (AH:Nat) (PD:Nat) (AI:Nat) (PE:Nat) (PF:Sl) (PG:Sl) (PH:Sl) (t_:Int) (ua:Int) (H205:Hp):OA:=(bif (decide ((PH.n:Int)>0)) then ((Hp.new H205 [(.sl PH)]).bind λH206=>(Sl.row H206 (⟨some (H205.length,0),1,.ex 1⟩:Sl) 1).bind λxs208=>(Hp.app H206 1 24 PF (⟨some (H205.length,0),1,.ex 1⟩:Sl).n xs208).bind λa207=>bt.j5 F gn C61_ AH PD AI PE a207.1 PG t_ ua a207.2) else (bt.j5 F gn C61_ AH PD AI PE PF PG t_ ua H205))
def bt.l15725 (F:Nat) (gn:Sl->Int->Sl->Sl->Int->Int->Hp->OA) (C61_:Nat->Nat->Nat->Nat->Sl->Sl->Int->Int->Hp->OA):Nat->Nat->Nat->Nat->Nat->Sl->Sl->Int->Int->Sl->Int->Hp->OA
 | 0,_,_,_,_,_,_,_,_,_,_,_=>none
 | Zm+1,pa,rd,pb,rh,sH,ri,oG,oH,sI,kA,H164=>(Sl.idx ri kA 1).bind λp249=>(Hp.ldB H164 p249.1 p249.2).bind λb250=>(bif (!b250) then ((Sl.idx ri kA 1).bind λp251=>(Hp.st H164 p251.1 p251.2 (.bool true)).bind λH252=>(Hp.new H252 [(.int .i64 kA)]).bind λH253=>(Sl.row H253 (⟨some (H252.length,0),1,.ex 1⟩:Sl) 1).bind λxs255=>(Hp.app H253 1 8 sI (⟨some (H252.length,0),1,.ex 1⟩:Sl).n xs255).bind λa254=>(Hp.ldSl a254.2 pa rd).bind λs256=>(Hp.ldI a254.2 .i64 pa (rd+1)).bind λn257=>(Hp.ldSl a254.2 pb rh).bind λs258=>(Hp.ldSl a254.2 pb (rh+1)).bind λs259=>(gn s256 n257 s258 s259 (IntKind.i64.wrap (Int.tdiv kA 4)) (Int.tmod (IntKind.i64.wrap (kA+1)) 4) a254.2).bind λr260=>((r260.1).asAgg 2).bind λl261=>(l261[0]?).bind λv262=>((v262).asI .i64).bind λn263=>(l261[1]?).bind λv264=>((v264).asI .i64).bind λn265=>(Hp.new r260.2 [.int .i64 0,.int .i64 0]).bind λH266=>(Hp.st H266 r260.2.length 0 (.int .i64 n263)).bind λH267=>(Hp.st H267 r260.2.length (0+1) (.int .i64 n265)).bind λH268=>(Hp.ldI H268 .i64 r260.2.length 0).bind λn269=>(Hp.ldI H268 .i64 r260.2.length 1).bind λn270=>bt.l15725 F gn C61_ Zm pa rd pb rh sH ri oG oH a254.1 (IntKind.i64.wrap ((IntKind.i64.wrap (4 * n269))+n270)) H268) else (bt.j6 F gn C61_ pa rd pb rh sH ri sI oG oH H164))
termination_by structural n=>n
def bt.l61 (F:Nat) (gn:Sl->Int->Sl->Sl->Int->Int->Hp->OA) :Nat->Nat->Nat->Nat->Nat->Sl->Sl->Int->Int->Hp->OA
 | 0,_,_,_,_,_,_,_,_,_=>none
 | eg+1,qE,ub,qF,eZ,sJ,dc,oI,nH,H22=>(bif (decide (nH<oI)) then (bt.l15725 F gn (bt.l61 F gn eg) F qE ub qF eZ sJ dc oI nH (⟨none,0,.ex 0⟩:Sl) nH H22) else (some ((.sl sJ),H22)))
termination_by structural n=>n
def bt.twX (F:Nat) (gn:Sl->Int->Sl->Sl->Int->Int->Hp->OA) (ac:Sl) (ae:Int) (ah:Sl) (ax:Sl) (H:Hp):OA:=(Hp.new H [(.sl ac),(.int .i64 ae)]).bind λH5=>(Hp.new H5 [(.sl ah),(.sl ax)]).bind λH6=>(Hp.ldSl H6 H.length 0).bind λs7=>(Hp.mk H6 [.bool false] 1 (IntKind.i64.wrap (4 * (s7.n:Int))) (IntKind.i64.wrap (4 * (s7.n:Int)))).bind λm8=>bt.l61 F gn F H.length 0 H5.length 0 (⟨none,0,.ex 0⟩:Sl) m8.1 (m8.1.n:Int) 0 m8.2
def bt.tw (F:Nat) (ac:Sl) (ae:Int) (ah:Sl) (ax:Sl) (H:Hp):OA:=bt.twX F (gU.tw F) ac ae ah ax H
def bt.lh61 (F:Nat) (gn:Sl->Int->Sl->Sl->Int->Int->Hp->OA) (ks:List Nat) (n:Nat) (tm:Tm) (H:Hp):OA:=match ks,tm 2,tm 3,tm 5,tm 6,tm 17,tm 18 with
 | [],(.ptr qE ub),(.ptr qF eZ),(.sl sJ),(.sl dc),(.int .i64 oI),(.int .i64 nH)=>bt.l61 F gn n qE ub qF eZ sJ dc oI nH H
 | _,_,_,_,_,_,_=>none
theorem bt.lh61_inv {F:Nat} {gn:Sl->Int->Sl->Sl->Int->Int->Hp->OA} {ks:List Nat} {n:Nat} {tm:Tm} {H:Hp} {r:AV×Hp} (h:bt.lh61 F gn ks n tm H=some r):∃ qE ub qF eZ sJ dc oI nH,ks=[]/\ee tm [(2,(.ptr qE ub)),(3,(.ptr qF eZ)),(5,(.sl sJ)),(6,(.sl dc)),(17,(.int .i64 oI)),(18,(.int .i64 nH))]/\bt.l61 F gn n qE ub qF eZ sJ dc oI nH H=some r:=by
 unfold bt.lh61 at h
 split at h
 ·exact ⟨_,_,_,_,_,_,_,_,rfl,⟨‹_›,‹_›,‹_›,‹_›,‹_›,‹_›,trivial⟩,h⟩
 ·cases h
def bt.lh15725 (F:Nat) (gn:Sl->Int->Sl->Sl->Int->Int->Hp->OA) (ks:List Nat) (n:Nat) (tm:Tm) (H:Hp):OA:=match ks,tm 2,tm 3,tm 5,tm 6,tm 8,tm 9,tm 17,tm 18 with
 | [eg],(.ptr pa rd),(.ptr pb rh),(.sl sH),(.sl ri),(.sl sI),(.int .i64 kA),(.int .i64 oG),(.int .i64 oH)=>bt.l15725 F gn (bt.l61 F gn eg) n pa rd pb rh sH ri oG oH sI kA H
 | _,_,_,_,_,_,_,_,_=>none
theorem bt.lh15725_inv {F:Nat} {gn:Sl->Int->Sl->Sl->Int->Int->Hp->OA} {ks:List Nat} {n:Nat} {tm:Tm} {H:Hp} {r:AV×Hp} (h:bt.lh15725 F gn ks n tm H=some r):∃ eg pa rd pb rh sH ri sI kA oG oH,ks=[eg]/\ee tm [(2,(.ptr pa rd)),(3,(.ptr pb rh)),(5,(.sl sH)),(6,(.sl ri)),(8,(.sl sI)),(9,(.int .i64 kA)),(17,(.int .i64 oG)),(18,(.int .i64 oH))]/\bt.l15725 F gn (bt.l61 F gn eg) n pa rd pb rh sH ri oG oH sI kA H=some r:=by
 unfold bt.lh15725 at h
 split at h
 ·exact ⟨_,_,_,_,_,_,_,_,_,_,_,rfl,⟨‹_›,‹_›,‹_›,‹_›,‹_›,‹_›,‹_›,‹_›,trivial⟩,h⟩
 ·cases h
def bt.lh (F:Nat) (gn:Sl->Int->Sl->Sl->Int->Int->Hp->OA) (p:Nat) (ks:List Nat) (n:Nat) (tm:Tm) (H:Hp):OA:=bif p.beq 15725 then bt.lh15725 F gn ks n tm H else (bif p.beq 61 then bt.lh61 F gn ks n tm H else (none))
def bt.mk (g:Sl->Int->Sl->Sl->Hp->OA) (args:List AV) (H:Hp):OA:=match args with
 | [(.agg [(.sl ac),(.int .i64 ae)]),(.agg [(.sl ah),(.sl ax)])]=>g ac ae ah ax H
 | _=>none
def bt.cs (F:Nat) (gn:Sl->Int->Sl->Sl->Int->Int->Hp->OA):Cs:=[(113,gU.mk gn)]
theorem bt.loops (F:Nat) (gn:Sl->Int->Sl->Sl->Int->Int->Hp->OA):LO (bj (bt.cs F gn)) aY (bt.lh F gn) F Tryz.f93:=
 (ag.rt (ag.rt (ag.rt (ag.lt (ag.rt (ag.block (ag.loop (λtm H=>et λr h=>by obtain ⟨qE,ub,qF,eZ,sJ,dc,oI,nH,hks,e,h⟩:=bt.lh61_inv (show bt.lh61 F gn [] 0 tm H=some r from h);cases h) (λk61 tm H r h=>by obtain ⟨qE,ub,qF,eZ,sJ,dc,oI,nH,hks,e,h⟩:=bt.lh61_inv (show bt.lh61 F gn [] (k61+1) tm H=some r from h);rw [<- ef e];exact Eq.trans (by kernel_rfl) h) λk61=>(ag.rt (ag.rt (ag.lt (ag.block (ag.rt (ag.rt (ag.lt (ag.rt (ag.block (ag.loop (λtm H=>et λr h=>by obtain ⟨eg,pa,rd,pb,rh,sH,ri,sI,kA,oG,oH,hks,e,h⟩:=bt.lh15725_inv (show bt.lh15725 F gn [k61] 0 tm H=some r from h);cases h) (λk15725 tm H r h=>by obtain ⟨eg,pa,rd,pb,rh,sH,ri,sI,kA,oG,oH,hks,e,h⟩:=bt.lh15725_inv (show bt.lh15725 F gn [k61] (k15725+1) tm H=some r from h);cases hks;rw [<- ef e];exact Eq.trans (by kernel_rfl) h) λk15725=>ag.no)))))))))))))))))
theorem bt.eqX (F:Nat) (gn:Sl->Int->Sl->Sl->Int->Int->Hp->OA) (ac:Sl) (ae:Int) (ah:Sl) (ax:Sl) (H:Hp):EX (bj (bt.cs F gn)) aY (bt.lh F gn) F Tryz.f93 [(.agg [(.sl ac),(.int .i64 ae)]),(.agg [(.sl ah),(.sl ax)])] H=bt.twX F gn ac ae ah ax H:=by kernel_rfl
theorem bt.k (F:Nat):Ok Tryz.prog 93 (bt.mk (bt.tw F)):=by
 intro args H v H' h
 unfold bt.mk at h
 split at h
 ·exact okT (TB:=aY) Tryz.func93 (bi (gU.k F) ca) (bt.loops F (gU.tw F)) ((bt.eqX F (gU.tw F) _ _ _ _ H).trans h) (by kernel_rfl)
 ·cases h
def jZ.twX (F:Nat) (ac:Sl) (H:Hp):OA:=some ((.int .i64 (ac.n:Int)),H)
def jZ.tw (F:Nat) (ac:Sl) (H:Hp):OA:=jZ.twX F ac H
def jZ.mk (g:Sl->Hp->OA) (args:List AV) (H:Hp):OA:=match args with
 | [(.sl ac)]=>g ac H
 | _=>none
theorem jZ.eqX (F:Nat) (ac:Sl) (H:Hp):EX (bj []) aY lh0 F Tryz.f92 [(.sl ac)] H=jZ.twX F ac H:=by kernel_rfl
theorem jZ.k (F:Nat):Ok Tryz.prog 92 (jZ.mk (jZ.tw F)):=by
 intro args H v H' h
 unfold jZ.mk at h
 split at h
 ·exact okT (TB:=aY) Tryz.func92 ca ag.no ((jZ.eqX F _ H).trans h) (by kernel_rfl)
 ·cases h
def dW.l29 (F:Nat) :Nat->Sl->Int->Int->Hp->OA
 | 0,_,_,_,_=>none
 | fi+1,sK,oJ,mz,H7=>(bif (decide (mz<oJ)) then ((Hp.new H7 [(.int .i64 mz)]).bind λH11=>(Sl.row H11 (⟨some (H7.length,0),1,.ex 1⟩:Sl) 1).bind λxs13=>(Hp.app H11 1 8 sK (⟨some (H7.length,0),1,.ex 1⟩:Sl).n xs13).bind λa12=>dW.l29 F fi a12.1 oJ (IntKind.i64.wrap (mz+1)) a12.2) else (some ((.sl sK),H7)))
def dW.twX (F:Nat) (ac:Int) (H:Hp):OA:=dW.l29 F F (⟨none,0,.ex 0⟩:Sl) ac 0 H
def dW.tw (F:Nat) (ac:Int) (H:Hp):OA:=dW.twX F ac H
def dW.lh29 (F:Nat) (ks:List Nat) (n:Nat) (tm:Tm) (H:Hp):OA:=match ks,tm 3,tm 5,tm 6 with
 | [],(.sl sK),(.int .i64 oJ),(.int .i64 mz)=>dW.l29 F n sK oJ mz H
 | _,_,_,_=>none
theorem dW.lh29_inv {F:Nat} {ks:List Nat} {n:Nat} {tm:Tm} {H:Hp} {r:AV×Hp} (h:dW.lh29 F ks n tm H=some r):∃ sK oJ mz,ks=[]/\ee tm [(3,(.sl sK)),(5,(.int .i64 oJ)),(6,(.int .i64 mz))]/\dW.l29 F n sK oJ mz H=some r:=by
 unfold dW.lh29 at h
 split at h
 ·exact ⟨_,_,_,rfl,⟨‹_›,‹_›,‹_›,trivial⟩,h⟩
 ·cases h
def dW.lh (F:Nat) (p:Nat) (ks:List Nat) (n:Nat) (tm:Tm) (H:Hp):OA:=bif p.beq 29 then dW.lh29 F ks n tm H else (none)
def dW.mk (g:Int->Hp->OA) (args:List AV) (H:Hp):OA:=match args with
 | [(.int .i64 ac)]=>g ac H
 | _=>none
theorem dW.loops (F:Nat):LO (bj []) aY (dW.lh F) F Tryz.f71:=
 (ag.rt (ag.rt (ag.lt (ag.rt (ag.block (ag.loop (λtm H=>et λr h=>by obtain ⟨sK,oJ,mz,hks,e,h⟩:=dW.lh29_inv (show dW.lh29 F [] 0 tm H=some r from h);cases h) (λk29 tm H r h=>by obtain ⟨sK,oJ,mz,hks,e,h⟩:=dW.lh29_inv (show dW.lh29 F [] (k29+1) tm H=some r from h);rw [<- ef e];exact Eq.trans (by kernel_rfl) h) λk29=>ag.no))))))
theorem dW.eqX (F:Nat) (ac:Int) (H:Hp):EX (bj []) aY (dW.lh F) F Tryz.f71 [(.int .i64 ac)] H=dW.twX F ac H:=by kernel_rfl
theorem dW.k (F:Nat):Ok Tryz.prog 71 (dW.mk (dW.tw F)):=by
 intro args H v H' h
 unfold dW.mk at h
 split at h
 ·exact okT (TB:=aY) Tryz.func71 ca (dW.loops F) ((dW.eqX F _ H).trans h) (by kernel_rfl)
 ·cases h
def cI.j2 (F:Nat) (C7_:Sl->Int->Int->Sl->Int->Int->Hp->OA) (Zn:Sl) (yk:Int) (ym:Int) (Zo:Sl) (yn:Int) (yo:Int) (H50:Hp):OA:=C7_ Zn yk ym Zo yn (IntKind.i64.wrap (yo+1)) H50
def cI.l7 (F:Nat) :Nat->Sl->Int->Int->Sl->Int->Int->Hp->OA
 | 0,_,_,_,_,_,_,_=>none
 | nA+1,lR,nI,nJ,rU,nK,lz,H16=>(bif (decide (lz<nK)) then ((Sl.idx rU lz 1).bind λp34=>(Hp.ldI H16 .i64 p34.1 p34.2).bind λn35=>(bif (n35==nI) then ((Sl.idx lR lz 1).bind λp36=>(Hp.st H16 p36.1 p36.2 (.int .i64 nJ)).bind λH37=>cI.j2 F (cI.l7 F nA) lR nI nJ rU nK lz H37) else (cI.j2 F (cI.l7 F nA) lR nI nJ rU nK lz H16))) else (some ((.tup []),H16)))
def cI.twX (F:Nat) (ac:Sl) (ap:Int) (de:Int) (H:Hp):OA:=(Sl.idx ac de 1).bind λp4=>(Hp.ldI H .i64 p4.1 p4.2).bind λn5=>(Sl.idx ac ap 1).bind λp6=>(Hp.ldI H .i64 p6.1 p6.2).bind λn7=>cI.l7 F F ac n5 n7 ac (ac.n:Int) 0 H
def cI.tw (F:Nat) (ac:Sl) (ap:Int) (de:Int) (H:Hp):OA:=cI.twX F ac ap de H
def cI.lh7 (F:Nat) (ks:List Nat) (n:Nat) (tm:Tm) (H:Hp):OA:=match ks,tm 0,tm 6,tm 7,tm 18,tm 19,tm 20 with
 | [],(.sl lR),(.int .i64 nI),(.int .i64 nJ),(.sl rU),(.int .i64 nK),(.int .i64 lz)=>cI.l7 F n lR nI nJ rU nK lz H
 | _,_,_,_,_,_,_=>none
theorem cI.lh7_inv {F:Nat} {ks:List Nat} {n:Nat} {tm:Tm} {H:Hp} {r:AV×Hp} (h:cI.lh7 F ks n tm H=some r):∃ lR nI nJ rU nK lz,ks=[]/\ee tm [(0,(.sl lR)),(6,(.int .i64 nI)),(7,(.int .i64 nJ)),(18,(.sl rU)),(19,(.int .i64 nK)),(20,(.int .i64 lz))]/\cI.l7 F n lR nI nJ rU nK lz H=some r:=by
 unfold cI.lh7 at h
 split at h
 ·exact ⟨_,_,_,_,_,_,rfl,⟨‹_›,‹_›,‹_›,‹_›,‹_›,‹_›,trivial⟩,h⟩
 ·cases h
def cI.lh (F:Nat) (p:Nat) (ks:List Nat) (n:Nat) (tm:Tm) (H:Hp):OA:=bif p.beq 7 then cI.lh7 F ks n tm H else (none)
def cI.tb:Nat->List (List Nat):=eX [(0,[[],[],[0,1],[0,1,2],[],[],[4,5],[4,5,6],[0,1,2,3],[0,1,2,3,4,5,6,7,8]])]
def cI.mk (g:Sl->Int->Int->Hp->OA) (args:List AV) (H:Hp):OA:=match args with
 | [(.sl ac),(.int .i64 ap),(.int .i64 de)]=>g ac ap de H
 | _=>none
theorem cI.loops (F:Nat):LO (bj []) aY (cI.lh F) F Tryz.f72:=
 (ag.rt (ag.rt (ag.block (ag.loop (λtm H=>et λr h=>by obtain ⟨lR,nI,nJ,rU,nK,lz,hks,e,h⟩:=cI.lh7_inv (show cI.lh7 F [] 0 tm H=some r from h);cases h) (λk7 tm H r h=>by obtain ⟨lR,nI,nJ,rU,nK,lz,hks,e,h⟩:=cI.lh7_inv (show cI.lh7 F [] (k7+1) tm H=some r from h);rw [<- ef e];exact Eq.trans (by kernel_rfl) h) λk7=>ag.no))))
theorem cI.eqX (F:Nat) (ac:Sl) (ap:Int) (de:Int) (H:Hp):EX (bj []) aY (cI.lh F) F Tryz.f72 [(.sl ac),(.int .i64 ap),(.int .i64 de)] H=cI.twX F ac ap de H:=by kernel_rfl
theorem cI.k (F:Nat):Ok Tryz.prog 72 (cI.mk (cI.tw F)):=by
 intro args H v H' h
 unfold cI.mk at h
 split at h
 ·exact okT (TB:=cI.tb) Tryz.func72 ca (cI.loops F) ((cI.eqX F _ _ _ H).trans h) (by kernel_rfl)
 ·cases h
theorem nm_law:Keyed Tryz.prog 2:=int_keyed Tryz.underlying2
theorem nm_zero (w:World):(zeroValue 2).run Tryz.prog w=.ok (.int .i64 0) w:=by kernel_rfl
theorem nm_info:(Tryz.prog.info? 2).map (λi=>(i.zero,i.size,i.bytes))=some (some (.int .i64 0),1,8):=by kernel_rfl
theorem nm_none (a:Option Addr) (cap:Nat) (w:World):Calls Tryz.prog 73 #[.slice a 0 cap] w λe w'=>e=.returned (.slice none 0 0)/\Below w.heap.size w w':=by
 have hmm:=@run_makeMap Tryz.prog
 go_enter Tryz.func73,Tryz.ntmps73
 go_wp2
 refine wp_loop_rounds 1 ?_
 rw [rounds_succ]
 go_wp2
 go_ret
 exact ⟨rfl,(Below.refl _ _).alloc (Nat.le_refl _) _⟩
theorem nm_any (b off len cap:Nat) (zs:List Int) (w:World) (hreach:len<=4294967296) (hz:len<=zs.length) (hb:b<w.heap.size)
  (hc:∀ j,j<zs.length->w.cell? ⟨b,off+j,none⟩=some (.int .i64 (zs.getD j 0))) (hwz:∀ n∈zs,(Lit.int .i64 n).wf=true) :
  Calls Tryz.prog 73 #[.slice (some ⟨b,off,none⟩) len cap] w λe w'=>∃ v,e=.returned v/\w'.ownsRow (w.heap.size+1) 2 1 v len ((nst zs len).2.map (Value.int .i64))/\Below w.heap.size w w':=by
 have hmm:=@run_makeMap Tryz.prog
 obtain ⟨i0,hi,hz0,hz1,hz2⟩:=info_parts nm_info
 go_enter Tryz.func73,Tryz.ntmps73
 go_wp2
 go_loopw [4,12] (λv i wr=>∃ (k:Nat) (D:DataW Unit),k<=len/\i=.int .i64 k/\wr.ownsMap Tryz.prog 2 (plainElem Tryz.prog 2) w.heap.size k D/\ND D (nst zs k).1 /\
   wr.ownsRow (w.heap.size+1) 2 1 v k ((nst zs k).2.map (Value.int .i64))/\Below w.heap.size w wr/\w.heap.size+1<=wr.heap.size)
  (λ_ i _=>len - (intOf i).toNat)
 case atStart=>exact ⟨0,.map [],Nat.zero_le _,rfl,World.ownsMap_made _ _ _ _,ND.nil,World.ownsRow_nil _ _ _ _,(Below.refl _ _).alloc (Nat.le_refl _) _,by simp⟩
 case round=>
  obtain ⟨k,D,hk,rfl,hown,hD,hrow,hnx,hws⟩:=hrel
  obtain ⟨x,hx⟩:∃ x,x=zs.getD k 0:=⟨_,rfl⟩
  have hwx:(Lit.int .i64 x).wf=true:=by rw [hx];exact afF hwz k
  have hcx:k<len->wr.cell? ⟨b,off+k,none⟩=some (.int .i64 x):=λ_=>by rw [hx];exact (hnx.cell (by exact hb)).trans (hc k (by omega))
  have hkey:keyOf Tryz.prog 2 (.int .i64 x)=some (.int .i64 x):=keyOf_int_mk Tryz.underlying2 hwx
  have hl1:=WV zs k
  have hs1:Maps.size D<=k:=by rw [hD.size];exact hl1
  have hht:=hown.tidy nm_law
  have n1:nst zs (k+1)=(bif (nst zs k).1.contains x then (nst zs k).1 else (nst zs k).1++[x],(nst zs k).2++[(((bif (nst zs k).1.contains x then (nst zs k).1 else (nst zs k).1++[x]).idxOf x:Nat):Int)]):=by rw [hx];rfl
  clear hx
  go_wp2_with (first
   | (at_lookup;first
     | (refine wpList_lookup_own_ok_int _ rfl _ _ 123 rfl 2 2 .i64 nm_law Tryz.underlying123 Tryz.underlying2 (nm_zero _) w.heap.size k _ rfl hown _ _ rfl hkey ?_;intro c hat hwc)
     | (refine wpList_lookup_own_int _ rfl _ _ 123 rfl 2 2 .i64 nm_law Tryz.underlying123 Tryz.underlying2 (nm_zero _) w.heap.size (k+1) _ rfl hown1 _ _ rfl hkey ?_;intro c2 hat2 hwc2)
     | (refine wpList_lookup_own_int _ rfl _ _ 123 rfl 2 2 .i64 nm_law Tryz.underlying123 Tryz.underlying2 (nm_zero _) w.heap.size k _ rfl hown _ _ rfl hkey ?_;intro c2 hat2 hwc2))
   | (at_len;refine wpList_len_own _ rfl _ 123 rfl 2 2 Tryz.underlying123 _ w.heap.size k _ rfl hown ?_)
   | (at_mapUpdate;refine wpList_mapUpdate_own _ rfl _ _ _ 123 rfl 2 2 nm_law Tryz.underlying123 (plainElem Tryz.prog 2) w.heap.size k _ rfl hown (by unfold maxLen;omega) _ _ _ rfl rfl hkey _ [] (plainElem_int Tryz.underlying2 (WalkArith.wf_i64 (by omega))) ?_;intro w1 hown1 hgrow1)
   | (at_builtin;first
     | (refine wpList_append_own _ rfl _ _ 34 rfl (w.heap.size+1) 2 i0 (.int .i64 0) 1 8 Tryz.underlying34 hi hz0 hz1 hz2 rfl (by decide) _ _ _ rfl ((hrow.kept hgrow1 (Or.inr (Gq hrow (Nat.lt_succ_self _)).symm)).alloc _) ⟨w1.heap.size,0,none⟩ 1 1 [.int .i64 c2] rfl rfl (cell_one_new _ _ _) (ints_oneCell .i64 [c2]) (by unfold maxLen;omega) (by omega) (by have:=hgrow1.size;simp at this ⊢;omega) ?_;intro v' w2 hown' hgrow2 hnil2)
     | (refine wpList_append_own _ rfl _ _ 34 rfl (w.heap.size+1) 2 i0 (.int .i64 0) 1 8 Tryz.underlying34 hi hz0 hz1 hz2 rfl (by decide) _ _ _ rfl (hrow.alloc _) ⟨wr.heap.size,0,none⟩ 1 1 [.int .i64 c2] rfl rfl (cell_one_new _ _ _) (ints_oneCell .i64 [c2]) (by unfold maxLen;omega) (by omega) (by simp;omega) ?_;intro v' w2 hown' hgrow2 hnil2))
   | go_in)
  ·have hlt:k<len:=by assumption
   have ht:(!Maps.has D (Lit.int .i64 x))=true:=by assumption
   have hc0:(nst zs k).1.contains x=false:=by rw [<- hD.has x];simpa using ht
   have hr1:=hrow.kept hgrow1 (Or.inr (Gq hrow (Nat.lt_succ_self _)).symm)
   have s1:=hgrow1.size
   have s2:=hgrow2.size
   simp at s1 s2
   have hD1:=hD.new hht hc0
   rw [hD1.at_ x (by simp) _] at hat2
   have e2:c2=(((nst zs k).1++[x]).idxOf x:Nat):=by injection hat2 with q;injection q with _ q;exact q.symm
   rw [hc0,cond_false] at n1
   go_roundw
   case rel=>
    refine ⟨k+1,_,by omega,by go_num,(hown1.alloc _).kept hgrow2 (Gq hr1 (Nat.lt_succ_self _)),by rw [n1];exact hD1,?_,?_,by omega⟩
    ·rw [n1,List.map_append,<-e2];exact hown'
    ·exact (((hnx.grown hgrow1 hnx.size (λj hj=>by cases hj;exact Nat.le_refl _)).alloc (by omega) _).grown hgrow2 (by simp;omega) (λj hj=>Nat.le_trans (Nat.le_succ _) (hr1.lt j hj).1))
   case measure=>simp [intOf];omega
  ·have hlt:k<len:=by assumption
   have ht:(!Maps.has D (Lit.int .i64 x))=false:=by assumption
   have hc1:(nst zs k).1.contains x=true:=by rw [<- hD.has x];simpa using ht
   have s2:=hgrow2.size
   simp at s2
   rw [hD.at_ x hc1 _] at hat2
   have e2:c2=((nst zs k).1.idxOf x:Nat):=by injection hat2 with q;injection q with _ q;exact q.symm
   rw [hc1,cond_true] at n1
   go_roundw
   case rel=>
    refine ⟨k+1,_,by omega,by go_num,((hown.alloc _).kept hgrow2 (Gq hrow (Nat.lt_succ_self _))).mono (Nat.le_succ _),by rw [n1];exact hD,?_,?_,by omega⟩
    ·rw [n1,List.map_append,<-e2];exact hown'
    ·exact ((hnx.alloc hnx.size _).grown hgrow2 (by simp;omega) (λj hj=>Nat.le_trans (Nat.le_succ _) (hrow.lt j hj).1))
   case measure=>simp [intOf];omega
  ·have:k=len:=by omega
   subst this
   go_ret
   exact ⟨_,rfl,hrow,hnx⟩
theorem nm_ok:NumOk Tryz.prog 73 2:=⟨nm_none,nm_any⟩
def gT.tw (F:Nat) (ac:Sl) (H:Hp):OA:=Ct ac H
def gT.mk (g:Sl->Hp->OA) (args:List AV) (H:Hp):OA:=match args with
 | [.sl ac]=>g ac H
 | _=>none
theorem gT.T {F:Nat} {ac:Sl} {H:Hp} {v:AV} {H':Hp} (h:gT.tw F ac H=some (v,H')):Go.AE.T Tryz.prog 73 [.sl ac] H v H':=
 nm_ok.T (afG Tryz.func73 (by kernel_rfl) (by kernel_rfl)) h
theorem gT.mk_T {F:Nat} {args:List AV} {H:Hp} {v:AV} {H':Hp} (h:gT.mk (gT.tw F) args H=some (v,H')):Go.AE.T Tryz.prog 73 args H v H':=by
 unfold gT.mk at h
 split at h
 ·exact gT.T h
 ·cases h
theorem gT.k (F:Nat):Ok Tryz.prog 73 (gT.mk (gT.tw F)):=λ_ _ _ _ h=>gT.mk_T h
def eb.l29 (F:Nat) (dz:Sl->Hp->OA) (fy:Int->Hp->OA) (fz:Sl->Int->Int->Hp->OA) (fA:Sl->Hp->OA) :Nat->Nat->Nat->Sl->Sl->Int->Int->Hp->OA
 | 0,_,_,_,_,_,_,_=>none
 | fi+1,gq,sL,rV,sM,oK,mA,H26=>(bif (decide (mA<oK)) then ((Sl.idx sM mA 2).bind λp40=>(Hp.ldI H26 .i64 p40.1 p40.2).bind λn41=>(Hp.ldI H26 .i64 p40.1 (p40.2+1)).bind λn42=>(Hp.new H26 [.int .i64 0,.int .i64 0]).bind λH43=>(Hp.st H43 H26.length 0 (.int .i64 n41)).bind λH44=>(Hp.st H44 H26.length (0+1) (.int .i64 n42)).bind λH45=>(Hp.ldI H45 .i64 H26.length 0).bind λn46=>(Hp.ldSl H45 gq (sL+1)).bind λs47=>(Sl.idx s47 mA 2).bind λp48=>(Hp.ldI H45 .i64 p48.1 p48.2).bind λn49=>(fz rV n46 n49 H45).bind λr50=>eb.l29 F dz fy fz fA fi gq sL rV sM oK (IntKind.i64.wrap (mA+1)) r50.2) else ((fA rV H26).bind λr51=>((r51.1).asSl).bind λs52=>some ((.sl s52),r51.2)))
termination_by structural n=>n
def eb.twX (F:Nat) (dz:Sl->Hp->OA) (fy:Int->Hp->OA) (fz:Sl->Int->Int->Hp->OA) (fA:Sl->Hp->OA) (ac:Sl) (ae:Int) (ah:Sl) (ax:Sl) (H:Hp):OA:=(Hp.new H [(.sl ac),(.int .i64 ae)]).bind λH5=>(Hp.new H5 [(.sl ah),(.sl ax)]).bind λH6=>(Hp.ldSl H6 H.length 0).bind λs7=>(dz s7 H6).bind λr8=>((r8.1).asI .i64).bind λn9=>(fy n9 r8.2).bind λr10=>((r10.1).asSl).bind λs11=>(Hp.ldSl r10.2 H5.length 0).bind λs12=>eb.l29 F dz fy fz fA F H5.length 0 s11 s12 (s12.n:Int) 0 r10.2
def eb.tw (F:Nat) (ac:Sl) (ae:Int) (ah:Sl) (ax:Sl) (H:Hp):OA:=eb.twX F (eV.tw F) (dW.tw F) (cI.tw F) (gT.tw F) ac ae ah ax H
def eb.lh29 (F:Nat) (dz:Sl->Hp->OA) (fy:Int->Hp->OA) (fz:Sl->Int->Int->Hp->OA) (fA:Sl->Hp->OA) (ks:List Nat) (n:Nat) (tm:Tm) (H:Hp):OA:=match ks,tm 3,tm 5,tm 13,tm 14,tm 15 with
 | [],(.ptr gq sL),(.sl rV),(.sl sM),(.int .i64 oK),(.int .i64 mA)=>eb.l29 F dz fy fz fA n gq sL rV sM oK mA H
 | _,_,_,_,_,_=>none
theorem eb.lh29_inv {F:Nat} {dz:Sl->Hp->OA} {fy:Int->Hp->OA} {fz:Sl->Int->Int->Hp->OA} {fA:Sl->Hp->OA} {ks:List Nat} {n:Nat} {tm:Tm} {H:Hp} {r:AV×Hp} (h:eb.lh29 F dz fy fz fA ks n tm H=some r):∃ gq sL rV sM oK mA,ks=[]/\ee tm [(3,(.ptr gq sL)),(5,(.sl rV)),(13,(.sl sM)),(14,(.int .i64 oK)),(15,(.int .i64 mA))]/\eb.l29 F dz fy fz fA n gq sL rV sM oK mA H=some r:=by
 unfold eb.lh29 at h
 split at h
 ·exact ⟨_,_,_,_,_,_,rfl,⟨‹_›,‹_›,‹_›,‹_›,‹_›,trivial⟩,h⟩
 ·cases h
def eb.lh (F:Nat) (dz:Sl->Hp->OA) (fy:Int->Hp->OA) (fz:Sl->Int->Int->Hp->OA) (fA:Sl->Hp->OA) (p:Nat) (ks:List Nat) (n:Nat) (tm:Tm) (H:Hp):OA:=bif p.beq 29 then eb.lh29 F dz fy fz fA ks n tm H else (none)
def eb.pn:Nat->List Nat:=eX [(5,[9])]
def eb.tb:Nat->List (List Nat):=eX [(5,[[],[],[1],[],[3],[],[3,4,5],[3,4,5,6],[3,4,5,6,7],[0,1,2,3,4,5,6,7,8]])]
def eb.mk (g:Sl->Int->Sl->Sl->Hp->OA) (args:List AV) (H:Hp):OA:=match args with
 | [(.agg [(.sl ac),(.int .i64 ae)]),(.agg [(.sl ah),(.sl ax)])]=>g ac ae ah ax H
 | _=>none
def eb.cs (F:Nat) (dz:Sl->Hp->OA) (fy:Int->Hp->OA) (fz:Sl->Int->Int->Hp->OA) (fA:Sl->Hp->OA):Cs:=[(52,eV.mk dz),(71,dW.mk fy),(72,cI.mk fz),(73,gT.mk fA)]
theorem eb.loops (F:Nat) (dz:Sl->Hp->OA) (fy:Int->Hp->OA) (fz:Sl->Int->Int->Hp->OA) (fA:Sl->Hp->OA):LO (bj (eb.cs F dz fy fz fA)) eb.pn (eb.lh F dz fy fz fA) F Tryz.f94:=
 (ag.rt (ag.rt (ag.lt (ag.rt (ag.block (ag.loop (λtm H=>et λr h=>by obtain ⟨gq,sL,rV,sM,oK,mA,hks,e,h⟩:=eb.lh29_inv (show eb.lh29 F dz fy fz fA [] 0 tm H=some r from h);cases h) (λk29 tm H r h=>by obtain ⟨gq,sL,rV,sM,oK,mA,hks,e,h⟩:=eb.lh29_inv (show eb.lh29 F dz fy fz fA [] (k29+1) tm H=some r from h);rw [<- ef e];exact Eq.trans (by kernel_rfl) h) λk29=>ag.no))))))
theorem eb.eqX (F:Nat) (dz:Sl->Hp->OA) (fy:Int->Hp->OA) (fz:Sl->Int->Int->Hp->OA) (fA:Sl->Hp->OA) (ac:Sl) (ae:Int) (ah:Sl) (ax:Sl) (H:Hp):EX (bj (eb.cs F dz fy fz fA)) eb.pn (eb.lh F dz fy fz fA) F Tryz.f94 [(.agg [(.sl ac),(.int .i64 ae)]),(.agg [(.sl ah),(.sl ax)])] H=eb.twX F dz fy fz fA ac ae ah ax H:=by kernel_rfl
theorem eb.k (F:Nat):Ok Tryz.prog 94 (eb.mk (eb.tw F)):=by
 intro args H v H' h
 unfold eb.mk at h
 split at h
 ·exact okT (TB:=eb.tb) Tryz.func94 (bi (eV.k F) (bi (dW.k F) (bi (cI.k F) (bi (gT.k F) ca)))) (eb.loops F (eV.tw F) (dW.tw F) (cI.tw F) (gT.tw F)) ((eb.eqX F (eV.tw F) (dW.tw F) (cI.tw F) (gT.tw F) _ _ _ _ H).trans h) (by kernel_rfl)
 ·cases h
def dO.l61 (F:Nat) :Nat->Sl->Int->Int->Hp->OA
 | 0,_,_,_,_=>none
 | eg+1,lR,jz,nL,H13=>(bif (decide (nL<(lR.n:Int))) then ((Sl.idx lR nL 1).bind λp16=>(Hp.ldI H13 .i64 p16.1 p16.2).bind λn17=>dO.l61 F eg lR (if n17>jz then n17 else jz) (IntKind.i64.wrap (nL+1)) H13) else (some ((.int .i64 jz),H13)))
def dO.j1 (F:Nat) (PI:Sl) (H5:Hp):OA:=(Sl.idx PI 0 1).bind λp6=>(Hp.ldI H5 .i64 p6.1 p6.2).bind λn7=>dO.l61 F F PI n7 1 H5
def dO.twX (F:Nat) (ac:Sl) (H:Hp):OA:=(bif (decide ((ac.n:Int)<1)) then (none) else (dO.j1 F ac H))
def dO.tw (F:Nat) (ac:Sl) (H:Hp):OA:=dO.twX F ac H
def dO.lh61 (F:Nat) (ks:List Nat) (n:Nat) (tm:Tm) (H:Hp):OA:=match ks,tm 0,tm 3,tm 4 with
 | [],(.sl lR),(.int .i64 jz),(.int .i64 nL)=>dO.l61 F n lR jz nL H
 | _,_,_,_=>none
theorem dO.lh61_inv {F:Nat} {ks:List Nat} {n:Nat} {tm:Tm} {H:Hp} {r:AV×Hp} (h:dO.lh61 F ks n tm H=some r):∃ lR jz nL,ks=[]/\ee tm [(0,(.sl lR)),(3,(.int .i64 jz)),(4,(.int .i64 nL))]/\dO.l61 F n lR jz nL H=some r:=by
 unfold dO.lh61 at h
 split at h
 ·exact ⟨_,_,_,rfl,⟨‹_›,‹_›,‹_›,trivial⟩,h⟩
 ·cases h
def dO.lh (F:Nat) (p:Nat) (ks:List Nat) (n:Nat) (tm:Tm) (H:Hp):OA:=bif p.beq 61 then dO.lh61 F ks n tm H else (none)
def dO.mk (g:Sl->Hp->OA) (args:List AV) (H:Hp):OA:=match args with
 | [(.sl ac)]=>g ac H
 | _=>none
theorem dO.loops (F:Nat):LO (bj []) aY (dO.lh F) F Tryz.f95:=
 (ag.rt (ag.rt (ag.rt (ag.lt (ag.rt (ag.block (ag.loop (λtm H=>et λr h=>by obtain ⟨lR,jz,nL,hks,e,h⟩:=dO.lh61_inv (show dO.lh61 F [] 0 tm H=some r from h);cases h) (λk61 tm H r h=>by obtain ⟨lR,jz,nL,hks,e,h⟩:=dO.lh61_inv (show dO.lh61 F [] (k61+1) tm H=some r from h);rw [<- ef e];exact Eq.trans (by kernel_rfl) h) λk61=>ag.no)))))))
theorem dO.eqX (F:Nat) (ac:Sl) (H:Hp):EX (bj []) aY (dO.lh F) F Tryz.f95 [(.sl ac)] H=dO.twX F ac H:=by kernel_rfl
theorem dO.k (F:Nat):Ok Tryz.prog 95 (dO.mk (dO.tw F)):=by
 intro args H v H' h
 unfold dO.mk at h
 split at h
 ·exact okT (TB:=aY) Tryz.func95 ca (dO.loops F) ((dO.eqX F _ H).trans h) (by kernel_rfl)
 ·cases h
def gV.twX (F:Nat) (yp:Sl->Hp->OA) (ac:Sl) (H:Hp):OA:=(bif ((ac.n:Int)==0) then (some ((.int .i64 0),H)) else ((yp ac H).bind λr2=>((r2.1).asI .i64).bind λn3=>some ((.int .i64 (IntKind.i64.wrap (n3+1))),r2.2)))
def gV.tw (F:Nat) (ac:Sl) (H:Hp):OA:=gV.twX F (dO.tw F) ac H
def gV.mk (g:Sl->Hp->OA) (args:List AV) (H:Hp):OA:=match args with
 | [(.sl ac)]=>g ac H
 | _=>none
def gV.cs (F:Nat) (yp:Sl->Hp->OA):Cs:=[(95,dO.mk yp)]
theorem gV.eqX (F:Nat) (yp:Sl->Hp->OA) (ac:Sl) (H:Hp):EX (bj (gV.cs F yp)) aY lh0 F Tryz.f74 [(.sl ac)] H=gV.twX F yp ac H:=by kernel_rfl
theorem gV.k (F:Nat):Ok Tryz.prog 74 (gV.mk (gV.tw F)):=by
 intro args H v H' h
 unfold gV.mk at h
 split at h
 ·exact okT (TB:=aY) Tryz.func74 (bi (dO.k F) ca) ag.no ((gV.eqX F (dO.tw F) _ H).trans h) (by kernel_rfl)
 ·cases h
def gL.twX (F:Nat) (dz:Sl->Hp->OA) (ms:Int->Int->Int->Hp->OA) (yq:Sl->Hp->OA) (yr:Sl->Int->Hp->OA) (yt:Sl->Int->Sl->Sl->Hp->OA) (yu:Sl->Hp->OA) (yw:Sl->Int->Sl->Sl->Hp->OA) (iT:Sl->Hp->OA) (ac:Sl) (ae:Int) (H:Hp):OA:=(Hp.new H [(.sl ac),(.int .i64 ae)]).bind λH3=>(Hp.new H3 [.sl ⟨none,0,.ex 0⟩,.sl ⟨none,0,.ex 0⟩]).bind λH4=>(Hp.ldSl H4 H.length 0).bind λs5=>(dz s5 H4).bind λr6=>((r6.1).asI .i64).bind λn7=>(bif (decide (n7>10)) then ((Hp.st r6.2 H3.length 0 (.sl (⟨none,0,.ex 0⟩:Sl))).bind λH8=>(Hp.st H8 H3.length (0+1) (.sl (⟨none,0,.ex 0⟩:Sl))).bind λH9=>(Hp.ldSl H9 H3.length 0).bind λs10=>(Hp.ldSl H9 H3.length (0+1)).bind λs11=>some ((.tup [(.agg [(.sl s10),(.sl s11)]),(.bool false)]),H9)) else ((Hp.ldI r6.2 .i64 H.length 1).bind λn12=>(ms n12 0 8 r6.2).bind λr13=>((r13.1).asB).bind λb14=>(bif (!b14) then ((Hp.st r13.2 H3.length 0 (.sl (⟨none,0,.ex 0⟩:Sl))).bind λH15=>(Hp.st H15 H3.length (0+1) (.sl (⟨none,0,.ex 0⟩:Sl))).bind λH16=>(Hp.ldSl H16 H3.length 0).bind λs17=>(Hp.ldSl H16 H3.length (0+1)).bind λs18=>some ((.tup [(.agg [(.sl s17),(.sl s18)]),(.bool false)]),H16)) else ((Hp.ldSl r13.2 H.length 0).bind λs19=>(yq s19 r13.2).bind λr20=>((r20.1).asB).bind λb21=>(bif b21 then ((Hp.st r20.2 H3.length 0 (.sl (⟨none,0,.ex 0⟩:Sl))).bind λH22=>(Hp.st H22 H3.length (0+1) (.sl (⟨none,0,.ex 0⟩:Sl))).bind λH23=>(Hp.ldSl H23 H3.length 0).bind λs24=>(Hp.ldSl H23 H3.length (0+1)).bind λs25=>some ((.tup [(.agg [(.sl s24),(.sl s25)]),(.bool false)]),H23)) else ((Hp.ldSl r20.2 H.length 0).bind λs26=>(Hp.ldI r20.2 .i64 H.length (0+1)).bind λn27=>(yr s26 n27 r20.2).bind λr28=>((r28.1).asTup 2).bind λl29=>(l29[0]?).bind λv30=>((v30).asAgg 2).bind λl31=>(l31[0]?).bind λv32=>((v32).asSl).bind λs33=>(l31[1]?).bind λv34=>((v34).asSl).bind λs35=>(l29[1]?).bind λv36=>((v36).asB).bind λb37=>(Hp.new r28.2 [.sl ⟨none,0,.ex 0⟩,.sl ⟨none,0,.ex 0⟩]).bind λH38=>(Hp.st H38 r28.2.length 0 (.sl s33)).bind λH39=>(Hp.st H39 r28.2.length (0+1) (.sl s35)).bind λH40=>(bif (!b37) then ((Hp.st H40 H3.length 0 (.sl (⟨none,0,.ex 0⟩:Sl))).bind λH41=>(Hp.st H41 H3.length (0+1) (.sl (⟨none,0,.ex 0⟩:Sl))).bind λH42=>(Hp.ldSl H42 H3.length 0).bind λs43=>(Hp.ldSl H42 H3.length (0+1)).bind λs44=>some ((.tup [(.agg [(.sl s43),(.sl s44)]),(.bool false)]),H42)) else ((Hp.ldSl H40 H.length 0).bind λs45=>(Hp.ldI H40 .i64 H.length (0+1)).bind λn46=>(Hp.ldSl H40 r28.2.length 0).bind λs47=>(Hp.ldSl H40 r28.2.length (0+1)).bind λs48=>(yt s45 n46 s47 s48 H40).bind λr49=>((r49.1).asSl).bind λs50=>(if bu H40 r49.2 then ((yu s50 r49.2).bind λr51=>((r51.1).asI .i64).bind λn52=>(if bu r49.2 r51.2 then ((Hp.ldSl r51.2 H.length 0).bind λs53=>(Hp.ldI r51.2 .i64 H.length (0+1)).bind λn54=>(Hp.ldSl r51.2 r28.2.length 0).bind λs55=>(Hp.ldSl r51.2 r28.2.length (0+1)).bind λs56=>(yw s53 n54 s55 s56 r51.2).bind λr57=>((r57.1).asSl).bind λs58=>(iT s58 r57.2).bind λr59=>((r59.1).asI .i64).bind λn60=>(bif (n52 != (IntKind.i64.wrap (n7+(IntKind.i64.wrap (2 * n60))))) then ((Hp.st r59.2 H3.length 0 (.sl (⟨none,0,.ex 0⟩:Sl))).bind λH61=>(Hp.st H61 H3.length (0+1) (.sl (⟨none,0,.ex 0⟩:Sl))).bind λH62=>(Hp.ldSl H62 H3.length 0).bind λs63=>(Hp.ldSl H62 H3.length (0+1)).bind λs64=>some ((.tup [(.agg [(.sl s63),(.sl s64)]),(.bool false)]),H62)) else ((Hp.ldSl r59.2 r28.2.length 0).bind λs65=>(Hp.ldSl r59.2 r28.2.length (0+1)).bind λs66=>(Hp.st r59.2 H3.length 0 (.sl s65)).bind λH67=>(Hp.st H67 H3.length (0+1) (.sl s66)).bind λH68=>(Hp.ldSl H68 H3.length 0).bind λs69=>(Hp.ldSl H68 H3.length (0+1)).bind λs70=>some ((.tup [(.agg [(.sl s69),(.sl s70)]),(.bool true)]),H68)))) else none)) else none)))))))))
def gL.tw (F:Nat) (ac:Sl) (ae:Int) (H:Hp):OA:=gL.twX F (eV.tw F) (gr.tw F) (jl.tw F) (bY.tw F) (bt.tw F) (jZ.tw F) (eb.tw F) (gV.tw F) ac ae H
def gL.pn:Nat->List Nat:=eX [(5,[10,11])]
def gL.tb:Nat->List (List Nat):=eX [(5,[[],[0],[0,1],[0,1,2],[0,1,2],[0,1,2,3,4],[0,1,2,3,4,5],[0,1,2],[0,1,2],[0,1,2],[0,1,2,3,4,5,6,8,9],[0,1,2,3,4,5,6,8,9,10],[0,1,2,3,4,5,6,8,9,10,11],[0,1,2,3,4,5,6,7,8,9,10,11,12],[0,1,2,3,4,5,6,7,8,9,10,11,12,13],[0,1,2,3,4,5,6,7,8,9,10,11,12,13,14]])]
def gL.mk (g:Sl->Int->Hp->OA) (args:List AV) (H:Hp):OA:=match args with
 | [(.agg [(.sl ac),(.int .i64 ae)])]=>g ac ae H
 | _=>none
def gL.cs (F:Nat) (dz:Sl->Hp->OA) (ms:Int->Int->Int->Hp->OA) (yq:Sl->Hp->OA) (yr:Sl->Int->Hp->OA) (yt:Sl->Int->Sl->Sl->Hp->OA) (yu:Sl->Hp->OA) (yw:Sl->Int->Sl->Sl->Hp->OA) (iT:Sl->Hp->OA):Cs:=[(52,eV.mk dz),(70,gr.mk ms),(89,jl.mk yq),(91,bY.mk yr),(93,bt.mk yt),(92,jZ.mk yu),(94,eb.mk yw),(74,gV.mk iT)]
theorem gL.eqX (F:Nat) (dz:Sl->Hp->OA) (ms:Int->Int->Int->Hp->OA) (yq:Sl->Hp->OA) (yr:Sl->Int->Hp->OA) (yt:Sl->Int->Sl->Sl->Hp->OA) (yu:Sl->Hp->OA) (yw:Sl->Int->Sl->Sl->Hp->OA) (iT:Sl->Hp->OA) (ac:Sl) (ae:Int) (H:Hp):EX (bj (gL.cs F dz ms yq yr yt yu yw iT)) gL.pn lh0 F Tryz.f69 [(.agg [(.sl ac),(.int .i64 ae)])] H=gL.twX F dz ms yq yr yt yu yw iT ac ae H:=by kernel_rfl
theorem gL.k (F:Nat):Ok Tryz.prog 69 (gL.mk (gL.tw F)):=by
 intro args H v H' h
 unfold gL.mk at h
 split at h
 ·exact okT (TB:=gL.tb) Tryz.func69 (bi (eV.k F) (bi (gr.k F) (bi (jl.k F) (bi (bY.k F) (bi (bt.k F) (bi (jZ.k F) (bi (eb.k F) (bi (gV.k F) ca)))))))) ag.no ((gL.eqX F (eV.tw F) (gr.tw F) (jl.tw F) (bY.tw F) (bt.tw F) (jZ.tw F) (eb.tw F) (gV.tw F) _ _ H).trans h) (by kernel_rfl)
 ·cases h
def iU.twX (F:Nat) (yx:Sl->Int->Hp->OA) (ac:Sl) (ae:Int) (H:Hp):OA:=(Hp.new H [(.sl ac),(.int .i64 ae)]).bind λH3=>(Hp.ldSl H3 H.length 0).bind λs4=>(Hp.ldI H3 .i64 H.length (0+1)).bind λn5=>(yx s4 n5 H3).bind λr6=>((r6.1).asTup 2).bind λl7=>(l7[0]?).bind λv8=>((v8).asAgg 2).bind λl9=>(l9[0]?).bind λv10=>((v10).asSl).bind λs11=>(l9[1]?).bind λv12=>((v12).asSl).bind λs13=>(l7[1]?).bind λv14=>((v14).asB).bind λb15=>(Hp.new r6.2 [.sl ⟨none,0,.ex 0⟩,.sl ⟨none,0,.ex 0⟩]).bind λH16=>(Hp.st H16 r6.2.length 0 (.sl s11)).bind λH17=>(Hp.st H17 r6.2.length (0+1) (.sl s13)).bind λH18=>some ((.bool b15),H18)
def iU.tw (F:Nat) (ac:Sl) (ae:Int) (H:Hp):OA:=iU.twX F (gL.tw F) ac ae H
def iU.mk (g:Sl->Int->Hp->OA) (args:List AV) (H:Hp):OA:=match args with
 | [(.agg [(.sl ac),(.int .i64 ae)])]=>g ac ae H
 | _=>none
def iU.cs (F:Nat) (yx:Sl->Int->Hp->OA):Cs:=[(69,gL.mk yx)]
theorem iU.eqX (F:Nat) (yx:Sl->Int->Hp->OA) (ac:Sl) (ae:Int) (H:Hp):EX (bj (iU.cs F yx)) aY lh0 F Tryz.f48 [(.agg [(.sl ac),(.int .i64 ae)])] H=iU.twX F yx ac ae H:=by kernel_rfl
theorem iU.k (F:Nat):Ok Tryz.prog 48 (iU.mk (iU.tw F)):=by
 intro args H v H' h
 unfold iU.mk at h
 split at h
 ·exact okT (TB:=aY) Tryz.func48 (bi (gL.k F) ca) ag.no ((iU.eqX F (gL.tw F) _ _ H).trans h) (by kernel_rfl)
 ·cases h
def jD.twX (F:Nat) (ms:Int->Int->Int->Hp->OA) (ac:Int) (H:Hp):OA:=(ms ac 1 30 H).bind λr2=>((r2.1).asB).bind λb3=>some ((.bool b3),r2.2)
def jD.tw (F:Nat) (ac:Int) (H:Hp):OA:=jD.twX F (gr.tw F) ac H
def jD.mk (g:Int->Hp->OA) (args:List AV) (H:Hp):OA:=match args with
 | [(.int .i64 ac)]=>g ac H
 | _=>none
def jD.cs (F:Nat) (ms:Int->Int->Int->Hp->OA):Cs:=[(70,gr.mk ms)]
theorem jD.eqX (F:Nat) (ms:Int->Int->Int->Hp->OA) (ac:Int) (H:Hp):EX (bj (jD.cs F ms)) aY lh0 F Tryz.f49 [(.int .i64 ac)] H=jD.twX F ms ac H:=by kernel_rfl
theorem jD.k (F:Nat):Ok Tryz.prog 49 (jD.mk (jD.tw F)):=by
 intro args H v H' h
 unfold jD.mk at h
 split at h
 ·exact okT (TB:=aY) Tryz.func49 (bi (gr.k F) ca) ag.no ((jD.eqX F (gr.tw F) _ H).trans h) (by kernel_rfl)
 ·cases h
def iV.twX (F:Nat) (yy:Sl->Int->Hp->OA) (yz:Int->Hp->OA) (ac:Sl) (ae:Int) (ah:Int) (H:Hp):OA:=(Hp.new H [(.sl ac),(.int .i64 ae)]).bind λH4=>(Hp.ldSl H4 H.length 0).bind λs5=>(Hp.ldI H4 .i64 H.length (0+1)).bind λn6=>(yy s5 n6 H4).bind λr7=>((r7.1).asB).bind λb8=>(bif (!b8) then (some ((.int .i64 1),r7.2)) else ((yz ah r7.2).bind λr9=>((r9.1).asB).bind λb10=>(bif (!b10) then (some ((.int .i64 2),r9.2)) else (some ((.int .i64 0),r9.2)))))
def iV.tw (F:Nat) (ac:Sl) (ae:Int) (ah:Int) (H:Hp):OA:=iV.twX F (iU.tw F) (jD.tw F) ac ae ah H
def iV.mk (g:Sl->Int->Int->Hp->OA) (args:List AV) (H:Hp):OA:=match args with
 | [(.agg [(.sl ac),(.int .i64 ae)]),(.int .i64 ah)]=>g ac ae ah H
 | _=>none
def iV.cs (F:Nat) (yy:Sl->Int->Hp->OA) (yz:Int->Hp->OA):Cs:=[(48,iU.mk yy),(49,jD.mk yz)]
theorem iV.eqX (F:Nat) (yy:Sl->Int->Hp->OA) (yz:Int->Hp->OA) (ac:Sl) (ae:Int) (ah:Int) (H:Hp):EX (bj (iV.cs F yy yz)) aY lh0 F Tryz.f24 [(.agg [(.sl ac),(.int .i64 ae)]),(.int .i64 ah)] H=iV.twX F yy yz ac ae ah H:=by kernel_rfl
theorem iV.k (F:Nat):Ok Tryz.prog 24 (iV.mk (iV.tw F)):=by
 intro args H v H' h
 unfold iV.mk at h
 split at h
 ·exact okT (TB:=aY) Tryz.func24 (bi (iU.k F) (bi (jD.k F) ca)) ag.no ((iV.eqX F (iU.tw F) (jD.tw F) _ _ _ H).trans h) (by kernel_rfl)
 ·cases h
def dj.j1 (F:Nat) (dz:Sl->Hp->OA) (fy:Int->Hp->OA) (fz:Sl->Int->Int->Hp->OA) (fA:Sl->Hp->OA) (iT:Sl->Hp->OA) (Dd:Nat) (Zp:Nat) (Zq:Sl) (H47:Hp):OA:=(fA Zq H47).bind λr48=>((r48.1).asSl).bind λs49=>(iT s49 r48.2).bind λr50=>((r50.1).asI .i64).bind λn51=>(if bu r48.2 r50.2 then ((Hp.ldI r50.2 .i64 Dd (Zp+1)).bind λn52=>some ((.tup [(.sl s49),(.int .i64 (IntKind.i64.wrap (n51+n52)))]),r50.2)) else none)
def dj.l29 (F:Nat) (dz:Sl->Hp->OA) (fy:Int->Hp->OA) (fz:Sl->Int->Int->Hp->OA) (fA:Sl->Hp->OA) (iT:Sl->Hp->OA) :Nat->Nat->Nat->Sl->Sl->Int->Int->Hp->OA
 | 0,_,_,_,_,_,_,_=>none
 | fi+1,qd,dR,rW,sS,oL,nM,H20=>(bif (decide (nM<oL)) then ((Sl.idx sS nM 5).bind λp53=>(Hp.ldI H20 .i64 p53.1 p53.2).bind λn54=>(Hp.ldI H20 .i64 p53.1 (p53.2+1)).bind λn55=>(Hp.ldI H20 .i64 p53.1 (p53.2+2)).bind λn56=>(Hp.ldI H20 .i64 p53.1 (p53.2+3)).bind λn57=>(Hp.ldI H20 .i64 p53.1 (p53.2+4)).bind λn58=>(Hp.new H20 [.int .i64 0,.int .i64 0,.int .i64 0,.int .i64 0,.int .i64 0]).bind λH59=>(Hp.st H59 H20.length 0 (.int .i64 n54)).bind λH60=>(Hp.st H60 H20.length (0+1) (.int .i64 n55)).bind λH61=>(Hp.st H61 H20.length (0+1+1) (.int .i64 n56)).bind λH62=>(Hp.st H62 H20.length (0+1+1+1) (.int .i64 n57)).bind λH63=>(Hp.st H63 H20.length (0+1+1+1+1) (.int .i64 n58)).bind λH64=>(Hp.ldI H64 .i64 H20.length 1).bind λn65=>(Hp.ldI H64 .i64 H20.length 3).bind λn66=>(fz rW n65 n66 H64).bind λr67=>dj.l29 F dz fy fz fA iT fi qd dR rW sS oL (IntKind.i64.wrap (nM+1)) r67.2) else (dj.j1 F dz fy fz fA iT qd dR rW H20))
termination_by structural n=>n
def dj.twX (F:Nat) (dz:Sl->Hp->OA) (fy:Int->Hp->OA) (fz:Sl->Int->Int->Hp->OA) (fA:Sl->Hp->OA) (iT:Sl->Hp->OA) (ac:Sl) (ae:Int) (H:Hp):OA:=(Hp.new H [(.sl ac),(.int .i64 ae)]).bind λH3=>(Hp.ldSl H3 H.length 0).bind λs4=>(dz s4 H3).bind λr5=>((r5.1).asI .i64).bind λn6=>(fy (IntKind.i64.wrap (2 * n6)) r5.2).bind λr7=>((r7.1).asSl).bind λs8=>(Hp.ldSl r7.2 H.length 0).bind λs9=>dj.l29 F dz fy fz fA iT F H.length 0 s8 s9 (s9.n:Int) 0 r7.2
def dj.tw (F:Nat) (ac:Sl) (ae:Int) (H:Hp):OA:=dj.twX F (eV.tw F) (dW.tw F) (cI.tw F) (gT.tw F) (gV.tw F) ac ae H
def dj.lh29 (F:Nat) (dz:Sl->Hp->OA) (fy:Int->Hp->OA) (fz:Sl->Int->Int->Hp->OA) (fA:Sl->Hp->OA) (iT:Sl->Hp->OA) (ks:List Nat) (n:Nat) (tm:Tm) (H:Hp):OA:=match ks,tm 1,tm 4,tm 14,tm 15,tm 16 with
 | [],(.ptr qd dR),(.sl rW),(.sl sS),(.int .i64 oL),(.int .i64 nM)=>dj.l29 F dz fy fz fA iT n qd dR rW sS oL nM H
 | _,_,_,_,_,_=>none
theorem dj.lh29_inv {F:Nat} {dz:Sl->Hp->OA} {fy:Int->Hp->OA} {fz:Sl->Int->Int->Hp->OA} {fA:Sl->Hp->OA} {iT:Sl->Hp->OA} {ks:List Nat} {n:Nat} {tm:Tm} {H:Hp} {r:AV×Hp} (h:dj.lh29 F dz fy fz fA iT ks n tm H=some r):∃ qd dR rW sS oL nM,ks=[]/\ee tm [(1,(.ptr qd dR)),(4,(.sl rW)),(14,(.sl sS)),(15,(.int .i64 oL)),(16,(.int .i64 nM))]/\dj.l29 F dz fy fz fA iT n qd dR rW sS oL nM H=some r:=by
 unfold dj.lh29 at h
 split at h
 ·exact ⟨_,_,_,_,_,_,rfl,⟨‹_›,‹_›,‹_›,‹_›,‹_›,trivial⟩,h⟩
 ·cases h
def dj.lh (F:Nat) (dz:Sl->Hp->OA) (fy:Int->Hp->OA) (fz:Sl->Int->Int->Hp->OA) (fA:Sl->Hp->OA) (iT:Sl->Hp->OA) (p:Nat) (ks:List Nat) (n:Nat) (tm:Tm) (H:Hp):OA:=bif p.beq 29 then dj.lh29 F dz fy fz fA iT ks n tm H else (none)
def dj.tb:Nat->List (List Nat):=eX [(8,[[],[],[1],[],[3],[1,2,3,4],[0,1,2],[0,1,2,3,4,5,6]])]
def dj.mk (g:Sl->Int->Hp->OA) (args:List AV) (H:Hp):OA:=match args with
 | [(.agg [(.sl ac),(.int .i64 ae)])]=>g ac ae H
 | _=>none
def dj.cs (F:Nat) (dz:Sl->Hp->OA) (fy:Int->Hp->OA) (fz:Sl->Int->Int->Hp->OA) (fA:Sl->Hp->OA) (iT:Sl->Hp->OA):Cs:=[(52,eV.mk dz),(71,dW.mk fy),(72,cI.mk fz),(73,gT.mk fA),(74,gV.mk iT)]
theorem dj.loops (F:Nat) (dz:Sl->Hp->OA) (fy:Int->Hp->OA) (fz:Sl->Int->Int->Hp->OA) (fA:Sl->Hp->OA) (iT:Sl->Hp->OA):LO (bj (dj.cs F dz fy fz fA iT)) aY (dj.lh F dz fy fz fA iT) F Tryz.f50:=
 (ag.rt (ag.rt (ag.lt (ag.rt (ag.block (ag.loop (λtm H=>et λr h=>by obtain ⟨qd,dR,rW,sS,oL,nM,hks,e,h⟩:=dj.lh29_inv (show dj.lh29 F dz fy fz fA iT [] 0 tm H=some r from h);cases h) (λk29 tm H r h=>by obtain ⟨qd,dR,rW,sS,oL,nM,hks,e,h⟩:=dj.lh29_inv (show dj.lh29 F dz fy fz fA iT [] (k29+1) tm H=some r from h);rw [<- ef e];exact Eq.trans (by kernel_rfl) h) λk29=>ag.no))))))
theorem dj.eqX (F:Nat) (dz:Sl->Hp->OA) (fy:Int->Hp->OA) (fz:Sl->Int->Int->Hp->OA) (fA:Sl->Hp->OA) (iT:Sl->Hp->OA) (ac:Sl) (ae:Int) (H:Hp):EX (bj (dj.cs F dz fy fz fA iT)) aY (dj.lh F dz fy fz fA iT) F Tryz.f50 [(.agg [(.sl ac),(.int .i64 ae)])] H=dj.twX F dz fy fz fA iT ac ae H:=by kernel_rfl
theorem dj.k (F:Nat):Ok Tryz.prog 50 (dj.mk (dj.tw F)):=by
 intro args H v H' h
 unfold dj.mk at h
 split at h
 ·exact okT (TB:=dj.tb) Tryz.func50 (bi (eV.k F) (bi (dW.k F) (bi (cI.k F) (bi (gT.k F) (bi (gV.k F) ca))))) (dj.loops F (eV.tw F) (dW.tw F) (cI.tw F) (gT.tw F) (gV.tw F)) ((dj.eqX F (eV.tw F) (dW.tw F) (cI.tw F) (gT.tw F) (gV.tw F) _ _ H).trans h) (by kernel_rfl)
 ·cases h
def hK.twX (F:Nat) (ac:Int) (ap:Int) (H:Hp):OA:=(Hp.new H [.int .i64 0,.int .i64 0,.sl ⟨none,0,.ex 0⟩]).bind λH3=>(Hp.mk H3 [.int .i64 0] 8 (IntKind.i64.wrap (ac * ap)) (IntKind.i64.wrap (ac * ap))).bind λm4=>(Hp.st m4.2 H.length 0 (.int .i64 ac)).bind λH5=>(Hp.st H5 H.length (0+1) (.int .i64 ap)).bind λH6=>(Hp.st H6 H.length (0+1+1) (.sl m4.1)).bind λH7=>(Hp.ldI H7 .i64 H.length 0).bind λn8=>(Hp.ldI H7 .i64 H.length (0+1)).bind λn9=>(Hp.ldSl H7 H.length (0+2)).bind λs10=>some ((.agg [(.int .i64 n8),(.int .i64 n9),(.sl s10)]),H7)
def hK.tw (F:Nat) (ac:Int) (ap:Int) (H:Hp):OA:=hK.twX F ac ap H
def hK.mk (g:Int->Int->Hp->OA) (args:List AV) (H:Hp):OA:=match args with
 | [(.int .i64 ac),(.int .i64 ap)]=>g ac ap H
 | _=>none
theorem hK.eqX (F:Nat) (ac:Int) (ap:Int) (H:Hp):EX (bj []) aY lh0 F Tryz.f51 [(.int .i64 ac),(.int .i64 ap)] H=hK.twX F ac ap H:=by kernel_rfl
theorem hK.k (F:Nat):Ok Tryz.prog 51 (hK.mk (hK.tw F)):=by
 intro args H v H' h
 unfold hK.mk at h
 split at h
 ·exact okT (TB:=aY) Tryz.func51 ca ag.no ((hK.eqX F _ _ H).trans h) (by kernel_rfl)
 ·cases h
def bT.twX (F:Nat) (ac:Int) (ae:Int) (aK:Sl) (ax:Int) (bS:Int) (H:Hp):OA:=(Hp.new H [(.int .i64 ac),(.int .i64 ae),(.sl aK)]).bind λH6=>(Hp.ldSl H6 H.length 2).bind λs7=>(Hp.ldI H6 .i64 H.length 1).bind λn8=>(Sl.idx s7 (IntKind.i64.wrap ((IntKind.i64.wrap (ax * n8))+bS)) 1).bind λp9=>some ((.ptr p9.1 p9.2),H6)
def bT.tw (F:Nat) (ac:Int) (ae:Int) (aK:Sl) (ax:Int) (bS:Int) (H:Hp):OA:=bT.twX F ac ae aK ax bS H
def bT.mk (g:Int->Int->Sl->Int->Int->Hp->OA) (args:List AV) (H:Hp):OA:=match args with
 | [(.agg [(.int .i64 ac),(.int .i64 ae),(.sl aK)]),(.int .i64 ax),(.int .i64 bS)]=>g ac ae aK ax bS H
 | _=>none
theorem bT.eqX (F:Nat) (ac:Int) (ae:Int) (aK:Sl) (ax:Int) (bS:Int) (H:Hp):EX (bj []) aY lh0 F Tryz.f53 [(.agg [(.int .i64 ac),(.int .i64 ae),(.sl aK)]),(.int .i64 ax),(.int .i64 bS)] H=bT.twX F ac ae aK ax bS H:=by kernel_rfl
theorem bT.k (F:Nat):Ok Tryz.prog 53 (bT.mk (bT.tw F)):=by
 intro args H v H' h
 unfold bT.mk at h
 split at h
 ·exact okT (TB:=aY) Tryz.func53 ca ag.no ((bT.eqX F _ _ _ _ _ H).trans h) (by kernel_rfl)
 ·cases h
def dX.l61 (F:Nat) (lA:Sl->Int->Hp->OA) (dz:Sl->Hp->OA) (fU:Int->Int->Hp->OA) (ak:Int->Int->Sl->Int->Int->Hp->OA) :Nat->Nat->Nat->Sl->Nat->Nat->Sl->Int->Int->Hp->OA
 | 0,_,_,_,_,_,_,_,_,_=>none
 | eg+1,nN,pK,rj,kB,mB,sT,oM,kC,H42=>(bif (decide (kC<oM)) then ((Sl.idx sT kC 5).bind λp94=>(Hp.ldI H42 .i64 p94.1 p94.2).bind λn95=>(Hp.ldI H42 .i64 p94.1 (p94.2+1)).bind λn96=>(Hp.ldI H42 .i64 p94.1 (p94.2+2)).bind λn97=>(Hp.ldI H42 .i64 p94.1 (p94.2+3)).bind λn98=>(Hp.ldI H42 .i64 p94.1 (p94.2+4)).bind λn99=>(Hp.new H42 [.int .i64 0,.int .i64 0,.int .i64 0,.int .i64 0,.int .i64 0]).bind λH100=>(Hp.st H100 H42.length 0 (.int .i64 n95)).bind λH101=>(Hp.st H101 H42.length (0+1) (.int .i64 n96)).bind λH102=>(Hp.st H102 H42.length (0+1+1) (.int .i64 n97)).bind λH103=>(Hp.st H103 H42.length (0+1+1+1) (.int .i64 n98)).bind λH104=>(Hp.st H104 H42.length (0+1+1+1+1) (.int .i64 n99)).bind λH105=>(Hp.ldI H105 .i64 kB mB).bind λn106=>(Hp.ldI H105 .i64 kB (mB+1)).bind λn107=>(Hp.ldSl H105 kB (mB+2)).bind λs108=>(Hp.ldI H105 .i64 H42.length 1).bind λn109=>(Sl.idx rj n109 1).bind λp110=>(Hp.ldI H105 .i64 p110.1 p110.2).bind λn111=>(ak n106 n107 s108 kC n111 H105).bind λr112=>((r112.1).asP).bind λp113=>(Hp.ldI r112.2 .i64 p113.1 p113.2).bind λn114=>(Hp.st r112.2 p113.1 p113.2 (.int .i64 (IntKind.i64.wrap (n114+2)))).bind λH115=>(Hp.ldI H115 .i64 kB mB).bind λn116=>(Hp.ldI H115 .i64 kB (mB+1)).bind λn117=>(Hp.ldSl H115 kB (mB+2)).bind λs118=>(Hp.ldI H115 .i64 H42.length 0).bind λn119=>(Sl.idx rj n119 1).bind λp120=>(Hp.ldI H115 .i64 p120.1 p120.2).bind λn121=>(ak n116 n117 s118 kC n121 H115).bind λr122=>((r122.1).asP).bind λp123=>(Hp.ldI r122.2 .i64 p123.1 p123.2).bind λn124=>(Hp.st r122.2 p123.1 p123.2 (.int .i64 (IntKind.i64.wrap (n124 - 1)))).bind λH125=>(Hp.ldI H125 .i64 kB mB).bind λn126=>(Hp.ldI H125 .i64 kB (mB+1)).bind λn127=>(Hp.ldSl H125 kB (mB+2)).bind λs128=>(Hp.ldI H125 .i64 H42.length 2).bind λn129=>(Sl.idx rj n129 1).bind λp130=>(Hp.ldI H125 .i64 p130.1 p130.2).bind λn131=>(ak n126 n127 s128 kC n131 H125).bind λr132=>((r132.1).asP).bind λp133=>(Hp.ldI r132.2 .i64 p133.1 p133.2).bind λn134=>(Hp.st r132.2 p133.1 p133.2 (.int .i64 (IntKind.i64.wrap (n134 - 1)))).bind λH135=>dX.l61 F lA dz fU ak eg nN pK rj kB mB sT oM (IntKind.i64.wrap (kC+1)) H135) else ((Hp.ldI H42 .i64 kB mB).bind λn136=>(Hp.ldI H42 .i64 kB (mB+1)).bind λn137=>(Hp.ldSl H42 kB (mB+2)).bind λs138=>(Hp.st H42 nN pK (.int .i64 n136)).bind λH139=>(Hp.st H139 nN (pK+1) (.int .i64 n137)).bind λH140=>(Hp.st H140 nN (pK+1+1) (.sl s138)).bind λH141=>(Hp.ldI H141 .i64 nN pK).bind λn142=>(Hp.ldI H141 .i64 nN (pK+1)).bind λn143=>(Hp.ldSl H141 nN (pK+2)).bind λs144=>some ((.agg [(.int .i64 n142),(.int .i64 n143),(.sl s144)]),H141)))
termination_by structural n=>n
def dX.twX (F:Nat) (lA:Sl->Int->Hp->OA) (dz:Sl->Hp->OA) (fU:Int->Int->Hp->OA) (ak:Int->Int->Sl->Int->Int->Hp->OA) (ac:Sl) (ae:Int) (H:Hp):OA:=(Hp.new H [(.sl ac),(.int .i64 ae)]).bind λH3=>(Hp.new H3 [.int .i64 0,.int .i64 0,.sl ⟨none,0,.ex 0⟩]).bind λH4=>(Hp.ldSl H4 H.length 0).bind λs5=>(Hp.ldI H4 .i64 H.length (0+1)).bind λn6=>(lA s5 n6 H4).bind λr7=>((r7.1).asTup 2).bind λl8=>(l8[0]?).bind λv9=>((v9).asSl).bind λs10=>(l8[1]?).bind λv11=>((v11).asI .i64).bind λn12=>(Hp.ldSl r7.2 H.length 0).bind λs13=>(dz s13 r7.2).bind λr14=>((r14.1).asI .i64).bind λn15=>(fU n15 n12 r14.2).bind λr16=>((r16.1).asAgg 3).bind λl17=>(l17[0]?).bind λv18=>((v18).asI .i64).bind λn19=>(l17[1]?).bind λv20=>((v20).asI .i64).bind λn21=>(l17[2]?).bind λv22=>((v22).asSl).bind λs23=>(Hp.new r16.2 [.int .i64 0,.int .i64 0,.sl ⟨none,0,.ex 0⟩]).bind λH24=>(Hp.st H24 r16.2.length 0 (.int .i64 n19)).bind λH25=>(Hp.st H25 r16.2.length (0+1) (.int .i64 n21)).bind λH26=>(Hp.st H26 r16.2.length (0+1+1) (.sl s23)).bind λH27=>(Hp.ldSl H27 H.length 0).bind λs28=>dX.l61 F lA dz fU ak F H3.length 0 s10 r16.2.length 0 s28 (s28.n:Int) 0 H27
def dX.tw (F:Nat) (ac:Sl) (ae:Int) (H:Hp):OA:=dX.twX F (dj.tw F) (eV.tw F) (hK.tw F) (bT.tw F) ac ae H
def dX.lh61 (F:Nat) (lA:Sl->Int->Hp->OA) (dz:Sl->Hp->OA) (fU:Int->Int->Hp->OA) (ak:Int->Int->Sl->Int->Int->Hp->OA) (ks:List Nat) (n:Nat) (tm:Tm) (H:Hp):OA:=match ks,tm 2,tm 3,tm 5,tm 19,tm 20,tm 21 with
 | [],(.ptr nN pK),(.sl rj),(.ptr kB mB),(.sl sT),(.int .i64 oM),(.int .i64 kC)=>dX.l61 F lA dz fU ak n nN pK rj kB mB sT oM kC H
 | _,_,_,_,_,_,_=>none
theorem dX.lh61_inv {F:Nat} {lA:Sl->Int->Hp->OA} {dz:Sl->Hp->OA} {fU:Int->Int->Hp->OA} {ak:Int->Int->Sl->Int->Int->Hp->OA} {ks:List Nat} {n:Nat} {tm:Tm} {H:Hp} {r:AV×Hp} (h:dX.lh61 F lA dz fU ak ks n tm H=some r):∃ nN pK rj kB mB sT oM kC,ks=[]/\ee tm [(2,(.ptr nN pK)),(3,(.sl rj)),(5,(.ptr kB mB)),(19,(.sl sT)),(20,(.int .i64 oM)),(21,(.int .i64 kC))]/\dX.l61 F lA dz fU ak n nN pK rj kB mB sT oM kC H=some r:=by
 unfold dX.lh61 at h
 split at h
 ·exact ⟨_,_,_,_,_,_,_,_,rfl,⟨‹_›,‹_›,‹_›,‹_›,‹_›,‹_›,trivial⟩,h⟩
 ·cases h
def dX.lh (F:Nat) (lA:Sl->Int->Hp->OA) (dz:Sl->Hp->OA) (fU:Int->Int->Hp->OA) (ak:Int->Int->Sl->Int->Int->Hp->OA) (p:Nat) (ks:List Nat) (n:Nat) (tm:Tm) (H:Hp):OA:=bif p.beq 61 then dX.lh61 F lA dz fU ak ks n tm H else (none)
def dX.pn:Nat->List Nat:=eX [(6,[7,12]),(7,[7,12]),(8,[7,12])]
def dX.tb:Nat->List (List Nat):=eX [(6,[[],[],[],[],[3],[2,3,4],[2,3,4,5],[0,1,2,3,4,5,6],[0,1,2,3,4,5,6,7],[0,1,2,3,4,5,6,7,8],[0,1,2,3,4,5,6,7,8,9],[0,1,2,3,4,5,6,7,8,9,10],[0,1,2,3,4,5,6,7,8,9,10,11]]),(7,[[],[],[],[],[3],[2,3,4],[2,3,4,5],[0,1,2,3,4,5,6],[0,1,2,3,4,5,6,7],[0,1,2,3,4,5,6,7,8],[0,1,2,3,4,5,6,7,8,9],[0,1,2,3,4,5,6,7,8,9,10],[0,1,2,3,4,5,6,7,8,9,10,11]]),(8,[[],[],[],[],[3],[2,3,4],[2,3,4,5],[0,1,2,3,4,5,6],[0,1,2,3,4,5,6,7],[0,1,2,3,4,5,6,7,8],[0,1,2,3,4,5,6,7,8,9],[0,1,2,3,4,5,6,7,8,9,10],[0,1,2,3,4,5,6,7,8,9,10,11]])]
def dX.mk (g:Sl->Int->Hp->OA) (args:List AV) (H:Hp):OA:=match args with
 | [(.agg [(.sl ac),(.int .i64 ae)])]=>g ac ae H
 | _=>none
def dX.cs (F:Nat) (lA:Sl->Int->Hp->OA) (dz:Sl->Hp->OA) (fU:Int->Int->Hp->OA) (ak:Int->Int->Sl->Int->Int->Hp->OA):Cs:=[(50,dj.mk lA),(52,eV.mk dz),(51,hK.mk fU),(53,bT.mk ak)]
theorem dX.loops (F:Nat) (lA:Sl->Int->Hp->OA) (dz:Sl->Hp->OA) (fU:Int->Int->Hp->OA) (ak:Int->Int->Sl->Int->Int->Hp->OA):LO (bj (dX.cs F lA dz fU ak)) dX.pn (dX.lh F lA dz fU ak) F Tryz.f25:=
 (ag.rt (ag.rt (ag.rt (ag.lt (ag.rt (ag.block (ag.loop (λtm H=>et λr h=>by obtain ⟨nN,pK,rj,kB,mB,sT,oM,kC,hks,e,h⟩:=dX.lh61_inv (show dX.lh61 F lA dz fU ak [] 0 tm H=some r from h);cases h) (λk61 tm H r h=>by obtain ⟨nN,pK,rj,kB,mB,sT,oM,kC,hks,e,h⟩:=dX.lh61_inv (show dX.lh61 F lA dz fU ak [] (k61+1) tm H=some r from h);rw [<- ef e];exact Eq.trans (by kernel_rfl) h) λk61=>ag.no)))))))
theorem dX.eqX (F:Nat) (lA:Sl->Int->Hp->OA) (dz:Sl->Hp->OA) (fU:Int->Int->Hp->OA) (ak:Int->Int->Sl->Int->Int->Hp->OA) (ac:Sl) (ae:Int) (H:Hp):EX (bj (dX.cs F lA dz fU ak)) dX.pn (dX.lh F lA dz fU ak) F Tryz.f25 [(.agg [(.sl ac),(.int .i64 ae)])] H=dX.twX F lA dz fU ak ac ae H:=by kernel_rfl
theorem dX.k (F:Nat):Ok Tryz.prog 25 (dX.mk (dX.tw F)):=by
 intro args H v H' h
 unfold dX.mk at h
 split at h
 ·exact okT (TB:=dX.tb) Tryz.func25 (bi (dj.k F) (bi (eV.k F) (bi (hK.k F) (bi (bT.k F) ca)))) (dX.loops F (dj.tw F) (eV.tw F) (hK.tw F) (bT.tw F)) ((dX.eqX F (dj.tw F) (eV.tw F) (hK.tw F) (bT.tw F) _ _ H).trans h) (by kernel_rfl)
 ·cases h
def dP.l29 (F:Nat) (fU:Int->Int->Hp->OA) (ak:Int->Int->Sl->Int->Int->Hp->OA) :Nat->Nat->Nat->Nat->Nat->Int->Int->Hp->OA
 | 0,_,_,_,_,_,_,_=>none
 | fi+1,dM,ji,ii,gq,oN,mC,H22=>(bif (decide (mC<oN)) then ((Hp.ldI H22 .i64 ii gq).bind λn38=>(Hp.ldI H22 .i64 ii (gq+1)).bind λn39=>(Hp.ldSl H22 ii (gq+2)).bind λs40=>(ak n38 n39 s40 mC mC H22).bind λr41=>((r41.1).asP).bind λp42=>(Hp.st r41.2 p42.1 p42.2 (.int .i64 1)).bind λH43=>dP.l29 F fU ak fi dM ji ii gq oN (IntKind.i64.wrap (mC+1)) H43) else ((Hp.ldI H22 .i64 ii gq).bind λn44=>(Hp.ldI H22 .i64 ii (gq+1)).bind λn45=>(Hp.ldSl H22 ii (gq+2)).bind λs46=>(Hp.st H22 dM ji (.int .i64 n44)).bind λH47=>(Hp.st H47 dM (ji+1) (.int .i64 n45)).bind λH48=>(Hp.st H48 dM (ji+1+1) (.sl s46)).bind λH49=>(Hp.ldI H49 .i64 dM ji).bind λn50=>(Hp.ldI H49 .i64 dM (ji+1)).bind λn51=>(Hp.ldSl H49 dM (ji+2)).bind λs52=>some ((.agg [(.int .i64 n50),(.int .i64 n51),(.sl s52)]),H49)))
termination_by structural n=>n
def dP.twX (F:Nat) (fU:Int->Int->Hp->OA) (ak:Int->Int->Sl->Int->Int->Hp->OA) (ac:Int) (H:Hp):OA:=(Hp.new H [.int .i64 0,.int .i64 0,.sl ⟨none,0,.ex 0⟩]).bind λH2=>(fU ac ac H2).bind λr3=>((r3.1).asAgg 3).bind λl4=>(l4[0]?).bind λv5=>((v5).asI .i64).bind λn6=>(l4[1]?).bind λv7=>((v7).asI .i64).bind λn8=>(l4[2]?).bind λv9=>((v9).asSl).bind λs10=>(Hp.new r3.2 [.int .i64 0,.int .i64 0,.sl ⟨none,0,.ex 0⟩]).bind λH11=>(Hp.st H11 r3.2.length 0 (.int .i64 n6)).bind λH12=>(Hp.st H12 r3.2.length (0+1) (.int .i64 n8)).bind λH13=>(Hp.st H13 r3.2.length (0+1+1) (.sl s10)).bind λH14=>dP.l29 F fU ak F H.length 0 r3.2.length 0 ac 0 H14
def dP.tw (F:Nat) (ac:Int) (H:Hp):OA:=dP.twX F (hK.tw F) (bT.tw F) ac H
def dP.lh29 (F:Nat) (fU:Int->Int->Hp->OA) (ak:Int->Int->Sl->Int->Int->Hp->OA) (ks:List Nat) (n:Nat) (tm:Tm) (H:Hp):OA:=match ks,tm 2,tm 3,tm 8,tm 9 with
 | [],(.ptr dM ji),(.ptr ii gq),(.int .i64 oN),(.int .i64 mC)=>dP.l29 F fU ak n dM ji ii gq oN mC H
 | _,_,_,_,_=>none
theorem dP.lh29_inv {F:Nat} {fU:Int->Int->Hp->OA} {ak:Int->Int->Sl->Int->Int->Hp->OA} {ks:List Nat} {n:Nat} {tm:Tm} {H:Hp} {r:AV×Hp} (h:dP.lh29 F fU ak ks n tm H=some r):∃ dM ji ii gq oN mC,ks=[]/\ee tm [(2,(.ptr dM ji)),(3,(.ptr ii gq)),(8,(.int .i64 oN)),(9,(.int .i64 mC))]/\dP.l29 F fU ak n dM ji ii gq oN mC H=some r:=by
 unfold dP.lh29 at h
 split at h
 ·exact ⟨_,_,_,_,_,_,rfl,⟨‹_›,‹_›,‹_›,‹_›,trivial⟩,h⟩
 ·cases h
def dP.lh (F:Nat) (fU:Int->Int->Hp->OA) (ak:Int->Int->Sl->Int->Int->Hp->OA) (p:Nat) (ks:List Nat) (n:Nat) (tm:Tm) (H:Hp):OA:=bif p.beq 29 then dP.lh29 F fU ak ks n tm H else (none)
def dP.mk (g:Int->Hp->OA) (args:List AV) (H:Hp):OA:=match args with
 | [(.int .i64 ac)]=>g ac H
 | _=>none
def dP.cs (F:Nat) (fU:Int->Int->Hp->OA) (ak:Int->Int->Sl->Int->Int->Hp->OA):Cs:=[(51,hK.mk fU),(53,bT.mk ak)]
theorem dP.loops (F:Nat) (fU:Int->Int->Hp->OA) (ak:Int->Int->Sl->Int->Int->Hp->OA):LO (bj (dP.cs F fU ak)) aY (dP.lh F fU ak) F Tryz.f96:=
 (ag.rt (ag.rt (ag.lt (ag.rt (ag.block (ag.loop (λtm H=>et λr h=>by obtain ⟨dM,ji,ii,gq,oN,mC,hks,e,h⟩:=dP.lh29_inv (show dP.lh29 F fU ak [] 0 tm H=some r from h);cases h) (λk29 tm H r h=>by obtain ⟨dM,ji,ii,gq,oN,mC,hks,e,h⟩:=dP.lh29_inv (show dP.lh29 F fU ak [] (k29+1) tm H=some r from h);rw [<- ef e];exact Eq.trans (by kernel_rfl) h) λk29=>ag.no))))))
theorem dP.eqX (F:Nat) (fU:Int->Int->Hp->OA) (ak:Int->Int->Sl->Int->Int->Hp->OA) (ac:Int) (H:Hp):EX (bj (dP.cs F fU ak)) aY (dP.lh F fU ak) F Tryz.f96 [(.int .i64 ac)] H=dP.twX F fU ak ac H:=by kernel_rfl
theorem dP.k (F:Nat):Ok Tryz.prog 96 (dP.mk (dP.tw F)):=by
 intro args H v H' h
 unfold dP.mk at h
 split at h
 ·exact okT (TB:=aY) Tryz.func96 (bi (hK.k F) (bi (bT.k F) ca)) (dP.loops F (hK.tw F) (bT.tw F)) ((dP.eqX F (hK.tw F) (bT.tw F) _ H).trans h) (by kernel_rfl)
 ·cases h
def j_.twX (F:Nat) (ac:Sl) (H:Hp):OA:=(bif (ac.a.isNone) then (some ((.sl (⟨none,0,.ex 0⟩:Sl)),H)) else ((Hp.new H []).bind λH2=>(Sl.row H2 ac 1).bind λxs4=>(Hp.app H2 1 8 (⟨some (H.length,0),0,.ex 0⟩:Sl) ac.n xs4).bind λa3=>some ((.sl a3.1),a3.2)))
def j_.tw (F:Nat) (ac:Sl) (H:Hp):OA:=j_.twX F ac H
def j_.mk (g:Sl->Hp->OA) (args:List AV) (H:Hp):OA:=match args with
 | [(.sl ac)]=>g ac H
 | _=>none
theorem j_.eqX (F:Nat) (ac:Sl) (H:Hp):EX (bj []) aY lh0 F Tryz.f114 [(.sl ac)] H=j_.twX F ac H:=by kernel_rfl
theorem j_.k (F:Nat):Ok Tryz.prog 114 (j_.mk (j_.tw F)):=by
 intro args H v H' h
 unfold j_.mk at h
 split at h
 ·exact okT (TB:=aY) Tryz.func114 ca ag.no ((j_.eqX F _ H).trans h) (by kernel_rfl)
 ·cases h
def jm.twX (F:Nat) (yA:Sl->Hp->OA) (ac:Int) (ae:Int) (aK:Sl) (H:Hp):OA:=(Hp.new H [(.int .i64 ac),(.int .i64 ae),(.sl aK)]).bind λH4=>(Hp.new H4 [.int .i64 0,.int .i64 0,.sl ⟨none,0,.ex 0⟩]).bind λH5=>(Hp.ldSl H5 H.length 2).bind λs6=>(yA s6 H5).bind λr7=>((r7.1).asSl).bind λs8=>(Hp.st r7.2 H.length 2 (.sl s8)).bind λH9=>(Hp.ldI H9 .i64 H.length 0).bind λn10=>(Hp.ldI H9 .i64 H.length (0+1)).bind λn11=>(Hp.ldSl H9 H.length (0+2)).bind λs12=>(Hp.st H9 H4.length 0 (.int .i64 n10)).bind λH13=>(Hp.st H13 H4.length (0+1) (.int .i64 n11)).bind λH14=>(Hp.st H14 H4.length (0+1+1) (.sl s12)).bind λH15=>(Hp.ldI H15 .i64 H4.length 0).bind λn16=>(Hp.ldI H15 .i64 H4.length (0+1)).bind λn17=>(Hp.ldSl H15 H4.length (0+2)).bind λs18=>some ((.agg [(.int .i64 n16),(.int .i64 n17),(.sl s18)]),H15)
def jm.tw (F:Nat) (ac:Int) (ae:Int) (aK:Sl) (H:Hp):OA:=jm.twX F (j_.tw F) ac ae aK H
def jm.mk (g:Int->Int->Sl->Hp->OA) (args:List AV) (H:Hp):OA:=match args with
 | [(.agg [(.int .i64 ac),(.int .i64 ae),(.sl aK)])]=>g ac ae aK H
 | _=>none
def jm.cs (F:Nat) (yA:Sl->Hp->OA):Cs:=[(114,j_.mk yA)]
theorem jm.eqX (F:Nat) (yA:Sl->Hp->OA) (ac:Int) (ae:Int) (aK:Sl) (H:Hp):EX (bj (jm.cs F yA)) aY lh0 F Tryz.f97 [(.agg [(.int .i64 ac),(.int .i64 ae),(.sl aK)])] H=jm.twX F yA ac ae aK H:=by kernel_rfl
theorem jm.k (F:Nat):Ok Tryz.prog 97 (jm.mk (jm.tw F)):=by
 intro args H v H' h
 unfold jm.mk at h
 split at h
 ·exact okT (TB:=aY) Tryz.func97 (bi (j_.k F) ca) ag.no ((jm.eqX F (j_.tw F) _ _ _ H).trans h) (by kernel_rfl)
 ·cases h
def kL.twX (F:Nat) (sU:Int->Hp->OA) (yB:Int->Int->Sl->Hp->OA) (ac:Int) (ae:Int) (aK:Sl) (H:Hp):OA:=(Hp.new H [(.int .i64 ac),(.int .i64 ae),(.sl aK)]).bind λH4=>(Hp.ldI H4 .i64 H.length 0).bind λn5=>(sU n5 H4).bind λr6=>((r6.1).asAgg 3).bind λl7=>(l7[0]?).bind λv8=>((v8).asI .i64).bind λn9=>(l7[1]?).bind λv10=>((v10).asI .i64).bind λn11=>(l7[2]?).bind λv12=>((v12).asSl).bind λs13=>(if bu H4 r6.2 then ((Hp.ldI r6.2 .i64 H.length 0).bind λn14=>(sU n14 r6.2).bind λr15=>((r15.1).asAgg 3).bind λl16=>(l16[0]?).bind λv17=>((v17).asI .i64).bind λn18=>(l16[1]?).bind λv19=>((v19).asI .i64).bind λn20=>(l16[2]?).bind λv21=>((v21).asSl).bind λs22=>(if bu r6.2 r15.2 then ((Hp.ldI r15.2 .i64 H.length 0).bind λn23=>(Hp.ldI r15.2 .i64 H.length (0+1)).bind λn24=>(Hp.ldSl r15.2 H.length (0+2)).bind λs25=>(yB n23 n24 s25 r15.2).bind λr26=>((r26.1).asAgg 3).bind λl27=>(l27[0]?).bind λv28=>((v28).asI .i64).bind λn29=>(l27[1]?).bind λv30=>((v30).asI .i64).bind λn31=>(l27[2]?).bind λv32=>((v32).asSl).bind λs33=>(if bu r15.2 r26.2 then ((Hp.ldI r26.2 .i64 H.length 1).bind λn34=>(sU n34 r26.2).bind λr35=>((r35.1).asAgg 3).bind λl36=>(l36[0]?).bind λv37=>((v37).asI .i64).bind λn38=>(l36[1]?).bind λv39=>((v39).asI .i64).bind λn40=>(l36[2]?).bind λv41=>((v41).asSl).bind λs42=>(if bu r26.2 r35.2 then ((Hp.ldI r35.2 .i64 H.length 1).bind λn43=>(sU n43 r35.2).bind λr44=>((r44.1).asAgg 3).bind λl45=>(l45[0]?).bind λv46=>((v46).asI .i64).bind λn47=>(l45[1]?).bind λv48=>((v48).asI .i64).bind λn49=>(l45[2]?).bind λv50=>((v50).asSl).bind λs51=>(Hp.new r44.2 [(.int .i64 n9),(.int .i64 n11),(.sl s13),(.int .i64 n18),(.int .i64 n20),(.sl s22),(.int .i64 n29),(.int .i64 n31),(.sl s33),(.int .i64 n38),(.int .i64 n40),(.sl s42),(.int .i64 n47),(.int .i64 n49),(.sl s51),(.bool false)]).bind λH52=>some ((.ptr r44.2.length 0),H52)) else none)) else none)) else none)) else none)
def kL.tw (F:Nat) (ac:Int) (ae:Int) (aK:Sl) (H:Hp):OA:=kL.twX F (dP.tw F) (jm.tw F) ac ae aK H
def kL.pn:Nat->List Nat:=eX [(1,[13])]
def kL.tb:Nat->List (List Nat):=eX [(1,[[],[0],[0,1],[],[3],[0,1,2,3,4],[],[0,1,2,3,4,5,6],[],[8],[0,1,2,3,4,5,6,7,8,9],[],[11],[0,1,2,3,4,5,6,7,8,9,10,11,12],[0,1,2,3,4,5,6,7,8,9,10,11,12,13],[0,1,2,3,4,5,6,7,8,9,10,11,12,13,14],[0,1,2,3,4,5,6,7,8,9,10,11,12,13,14,15],[0,1,2,3,4,5,6,7,8,9,10,11,12,13,14,15,16]])]
def kL.mk (g:Int->Int->Sl->Hp->OA) (args:List AV) (H:Hp):OA:=match args with
 | [(.agg [(.int .i64 ac),(.int .i64 ae),(.sl aK)])]=>g ac ae aK H
 | _=>none
def kL.cs (F:Nat) (sU:Int->Hp->OA) (yB:Int->Int->Sl->Hp->OA):Cs:=[(96,dP.mk sU),(97,jm.mk yB)]
theorem kL.eqX (F:Nat) (sU:Int->Hp->OA) (yB:Int->Int->Sl->Hp->OA) (ac:Int) (ae:Int) (aK:Sl) (H:Hp):EX (bj (kL.cs F sU yB)) kL.pn lh0 F Tryz.f75 [(.agg [(.int .i64 ac),(.int .i64 ae),(.sl aK)])] H=kL.twX F sU yB ac ae aK H:=by kernel_rfl
theorem kL.k (F:Nat):Ok Tryz.prog 75 (kL.mk (kL.tw F)):=by
 intro args H v H' h
 unfold kL.mk at h
 split at h
 ·exact okT (TB:=kL.tb) Tryz.func75 (bi (dP.k F) (bi (jm.k F) ca)) ag.no ((kL.eqX F (dP.tw F) (jm.tw F) _ _ _ H).trans h) (by kernel_rfl)
 ·cases h
def eD.twX (F:Nat) (ac:Int) (H:Hp):OA:=(bif (decide (ac<0)) then (some ((.int .i64 (IntKind.i64.wrap (0 - ac))),H)) else (some ((.int .i64 ac),H)))
def eD.tw (F:Nat) (ac:Int) (H:Hp):OA:=eD.twX F ac H
def eD.mk (g:Int->Hp->OA) (args:List AV) (H:Hp):OA:=match args with
 | [(.int .i64 ac)]=>g ac H
 | _=>none
theorem eD.eqX (F:Nat) (ac:Int) (H:Hp):EX (bj []) aY lh0 F Tryz.f55 [(.int .i64 ac)] H=eD.twX F ac H:=by kernel_rfl
theorem eD.k (F:Nat):Ok Tryz.prog 55 (eD.mk (eD.tw F)):=by
 intro args H v H' h
 unfold eD.mk at h
 split at h
 ·exact okT (TB:=aY) Tryz.func55 ca ag.no ((eD.eqX F _ H).trans h) (by kernel_rfl)
 ·cases h
def bc.j5 (F:Nat) (ak:Int->Int->Sl->Int->Int->Hp->OA) (cS:Int->Hp->OA) (yC:Int) (yD:Int) (yE:Bool) (H134:Hp):OA:=some ((.tup [(.int .i64 yC),(.int .i64 yD),(.bool yE)]),H134)
def bc.j7 (F:Nat) (ak:Int->Int->Sl->Int->Int->Hp->OA) (cS:Int->Hp->OA) (C29_:Int->Int->Int->Bool->Nat->Nat->Int->Hp->OA) (yF:Int) (yG:Int) (yH:Int) (yI:Bool) (De:Nat) (Zr:Nat) (yJ:Int) (H205:Hp):OA:=C29_ yF yG yH yI De Zr (IntKind.i64.wrap (yJ+1)) H205
def bc.j8 (F:Nat) (ak:Int->Int->Sl->Int->Int->Hp->OA) (cS:Int->Hp->OA) (C29_:Int->Int->Int->Bool->Nat->Nat->Int->Hp->OA) (yK:Int) (yL:Int) (yM:Int) (yN:Bool) (Df:Nat) (Zs:Nat) (yO:Int) (H192:Hp):OA:=bc.j7 F ak cS C29_ yK yL yM yN Df Zs yO H192
def bc.j9 (F:Nat) (ak:Int->Int->Sl->Int->Int->Hp->OA) (cS:Int->Hp->OA) (C469_:Int->Int->Int->Bool->Nat->Nat->Int->Int->Hp->OA) (yP:Int) (yQ:Int) (yR:Int) (yS:Bool) (Dg:Nat) (Zt:Nat) (yT:Int) (yU:Int) (H237:Hp):OA:=C469_ yP yQ yR yS Dg Zt yT (IntKind.i64.wrap (yU+1)) H237
def bc.l469 (F:Nat) (ak:Int->Int->Sl->Int->Int->Hp->OA) (cS:Int->Hp->OA) (C29_:Int->Int->Int->Bool->Nat->Nat->Int->Hp->OA):Nat->Int->Int->Int->Bool->Nat->Nat->Int->Int->Hp->OA
 | 0,_,_,_,_,_,_,_,_,_=>none
 | sE+1,lB,mD,mE,mF,kM,nb,jE,jF,H147=>(Hp.ldI H147 .i64 kM (nb+1)).bind λn206=>(bif (decide (jF<n206)) then ((Hp.ldI H147 .i64 kM nb).bind λn207=>(Hp.ldI H147 .i64 kM (nb+1)).bind λn208=>(Hp.ldSl H147 kM (nb+2)).bind λs209=>(ak n207 n208 s209 jE jF H147).bind λr210=>((r210.1).asP).bind λp211=>(Hp.ldI r210.2 .i64 p211.1 p211.2).bind λn212=>(cS n212 r210.2).bind λr213=>((r213.1).asI .i64).bind λn214=>(bif (n214 != 0) then ((bif (!mF) then (bc.l469 F ak cS C29_ sE lB jE jF true kM nb jE (IntKind.i64.wrap (jF+1)) r213.2) else ((Hp.ldI r213.2 .i64 kM nb).bind λn215=>(Hp.ldI r213.2 .i64 kM (nb+1)).bind λn216=>(Hp.ldSl r213.2 kM (nb+2)).bind λs217=>(ak n215 n216 s217 mD mE r213.2).bind λr218=>((r218.1).asP).bind λp219=>(Hp.ldI r218.2 .i64 p219.1 p219.2).bind λn220=>(cS n220 r218.2).bind λr221=>((r221.1).asI .i64).bind λn222=>(bif (decide (n214<n222)) then (bc.j9 F ak cS (bc.l469 F ak cS C29_ sE) lB jE jF true kM nb jE jF r221.2) else (bc.j9 F ak cS (bc.l469 F ak cS C29_ sE) lB mD mE mF kM nb jE jF r221.2))))) else (bc.l469 F ak cS C29_ sE lB mD mE mF kM nb jE (IntKind.i64.wrap (jF+1)) r213.2))) else (bc.j8 F ak cS C29_ lB mD mE mF kM nb jE H147))
termination_by structural n=>n
def bc.l29 (F:Nat) (ak:Int->Int->Sl->Int->Int->Hp->OA) (cS:Int->Hp->OA) :Nat->Int->Int->Int->Bool->Nat->Nat->Int->Hp->OA
 | 0,_,_,_,_,_,_,_,_=>none
 | fi+1,dR,fl,eY,oO,qe,sV,oP,H20=>(Hp.ldI H20 .i64 qe sV).bind λn135=>(bif (decide (oP<n135)) then (bc.l469 F ak cS (bc.l29 F ak cS fi) F dR fl eY oO qe sV oP dR H20) else (bc.j5 F ak cS fl eY oO H20))
termination_by structural n=>n
def bc.twX (F:Nat) (ak:Int->Int->Sl->Int->Int->Hp->OA) (cS:Int->Hp->OA) (ac:Nat) (ae:Nat) (ah:Int) (H:Hp):OA:=(Hp.ldI H .i64 ac (ae+6)).bind λn4=>(Hp.ldI H .i64 ac ((ae+6)+1)).bind λn5=>(Hp.ldSl H ac ((ae+6)+2)).bind λs6=>(Hp.new H [.int .i64 0,.int .i64 0,.sl ⟨none,0,.ex 0⟩]).bind λH7=>(Hp.st H7 H.length 0 (.int .i64 n4)).bind λH8=>(Hp.st H8 H.length (0+1) (.int .i64 n5)).bind λH9=>(Hp.st H9 H.length (0+1+1) (.sl s6)).bind λH10=>bc.l29 F ak cS F ah 0 0 false H.length 0 ah H10
def bc.tw (F:Nat) (ac:Nat) (ae:Nat) (ah:Int) (H:Hp):OA:=bc.twX F (bT.tw F) (eD.tw F) ac ae ah H
def bc.lh29 (F:Nat) (ak:Int->Int->Sl->Int->Int->Hp->OA) (cS:Int->Hp->OA) (ks:List Nat) (n:Nat) (tm:Tm) (H:Hp):OA:=match ks,tm 1,tm 4,tm 5,tm 6,tm 7,tm 8 with
 | [],(.int .i64 dR),(.int .i64 fl),(.int .i64 eY),(.bool oO),(.ptr qe sV),(.int .i64 oP)=>bc.l29 F ak cS n dR fl eY oO qe sV oP H
 | _,_,_,_,_,_,_=>none
theorem bc.lh29_inv {F:Nat} {ak:Int->Int->Sl->Int->Int->Hp->OA} {cS:Int->Hp->OA} {ks:List Nat} {n:Nat} {tm:Tm} {H:Hp} {r:AV×Hp} (h:bc.lh29 F ak cS ks n tm H=some r):∃ dR fl eY oO qe sV oP,ks=[]/\ee tm [(1,(.int .i64 dR)),(4,(.int .i64 fl)),(5,(.int .i64 eY)),(6,(.bool oO)),(7,(.ptr qe sV)),(8,(.int .i64 oP))]/\bc.l29 F ak cS n dR fl eY oO qe sV oP H=some r:=by
 unfold bc.lh29 at h
 split at h
 ·exact ⟨_,_,_,_,_,_,_,rfl,⟨‹_›,‹_›,‹_›,‹_›,‹_›,‹_›,trivial⟩,h⟩
 ·cases h
def bc.lh469 (F:Nat) (ak:Int->Int->Sl->Int->Int->Hp->OA) (cS:Int->Hp->OA) (ks:List Nat) (n:Nat) (tm:Tm) (H:Hp):OA:=match ks,tm 1,tm 4,tm 5,tm 6,tm 7,tm 8,tm 9 with
 | [fi],(.int .i64 lB),(.int .i64 mD),(.int .i64 mE),(.bool mF),(.ptr kM nb),(.int .i64 jE),(.int .i64 jF)=>bc.l469 F ak cS (bc.l29 F ak cS fi) n lB mD mE mF kM nb jE jF H
 | _,_,_,_,_,_,_,_=>none
theorem bc.lh469_inv {F:Nat} {ak:Int->Int->Sl->Int->Int->Hp->OA} {cS:Int->Hp->OA} {ks:List Nat} {n:Nat} {tm:Tm} {H:Hp} {r:AV×Hp} (h:bc.lh469 F ak cS ks n tm H=some r):∃ fi lB mD mE mF kM nb jE jF,ks=[fi]/\ee tm [(1,(.int .i64 lB)),(4,(.int .i64 mD)),(5,(.int .i64 mE)),(6,(.bool mF)),(7,(.ptr kM nb)),(8,(.int .i64 jE)),(9,(.int .i64 jF))]/\bc.l469 F ak cS (bc.l29 F ak cS fi) n lB mD mE mF kM nb jE jF H=some r:=by
 unfold bc.lh469 at h
 split at h
 ·exact ⟨_,_,_,_,_,_,_,_,_,rfl,⟨‹_›,‹_›,‹_›,‹_›,‹_›,‹_›,‹_›,trivial⟩,h⟩
 ·cases h
def bc.lh (F:Nat) (ak:Int->Int->Sl->Int->Int->Hp->OA) (cS:Int->Hp->OA) (p:Nat) (ks:List Nat) (n:Nat) (tm:Tm) (H:Hp):OA:=bif p.beq 469 then bc.lh469 F ak cS ks n tm H else (bif p.beq 29 then bc.lh29 F ak cS ks n tm H else (none))
def bc.mk (g:Nat->Nat->Int->Hp->OA) (args:List AV) (H:Hp):OA:=match args with
 | [(.ptr ac ae),(.int .i64 ah)]=>g ac ae ah H
 | _=>none
def bc.cs (F:Nat) (ak:Int->Int->Sl->Int->Int->Hp->OA) (cS:Int->Hp->OA):Cs:=[(53,bT.mk ak),(55,eD.mk cS)]
theorem bc.loops (F:Nat) (ak:Int->Int->Sl->Int->Int->Hp->OA) (cS:Int->Hp->OA):LO (bj (bc.cs F ak cS)) aY (bc.lh F ak cS) F Tryz.f115:=
 (ag.rt (ag.rt (ag.lt (ag.rt (ag.block (ag.loop (λtm H=>et λr h=>by obtain ⟨dR,fl,eY,oO,qe,sV,oP,hks,e,h⟩:=bc.lh29_inv (show bc.lh29 F ak cS [] 0 tm H=some r from h);cases h) (λk29 tm H r h=>by obtain ⟨dR,fl,eY,oO,qe,sV,oP,hks,e,h⟩:=bc.lh29_inv (show bc.lh29 F ak cS [] (k29+1) tm H=some r from h);rw [<- ef e];exact Eq.trans (by kernel_rfl) h) λk29=>(ag.rt (ag.lt (ag.block (ag.rt (ag.block (ag.loop (λtm H=>et λr h=>by obtain ⟨fi,lB,mD,mE,mF,kM,nb,jE,jF,hks,e,h⟩:=bc.lh469_inv (show bc.lh469 F ak cS [k29] 0 tm H=some r from h);cases h) (λk469 tm H r h=>by obtain ⟨fi,lB,mD,mE,mF,kM,nb,jE,jF,hks,e,h⟩:=bc.lh469_inv (show bc.lh469 F ak cS [k29] (k469+1) tm H=some r from h);cases hks;rw [<- ef e];exact Eq.trans (by kernel_rfl) h) λk469=>ag.no))))))))))))
theorem bc.eqX (F:Nat) (ak:Int->Int->Sl->Int->Int->Hp->OA) (cS:Int->Hp->OA) (ac:Nat) (ae:Nat) (ah:Int) (H:Hp):EX (bj (bc.cs F ak cS)) aY (bc.lh F ak cS) F Tryz.f115 [(.ptr ac ae),(.int .i64 ah)] H=bc.twX F ak cS ac ae ah H:=by kernel_rfl
theorem bc.k (F:Nat):Ok Tryz.prog 115 (bc.mk (bc.tw F)):=by
 intro args H v H' h
 unfold bc.mk at h
 split at h
 ·exact okT (TB:=aY) Tryz.func115 (bi (bT.k F) (bi (eD.k F) ca)) (bc.loops F (bT.tw F) (eD.tw F)) ((bc.eqX F (bT.tw F) (eD.tw F) _ _ _ H).trans h) (by kernel_rfl)
 ·cases h
def dw.l7 (F:Nat) (ak:Int->Int->Sl->Int->Int->Hp->OA) :Nat->Int->Int->Nat->Nat->Int->Int->Hp->OA
 | 0,_,_,_,_,_,_,_=>none
 | nA+1,iB,iC,cE,jn,iD,gv,H17=>(bif (decide (gv<iD)) then ((Hp.ldI H17 .i64 cE jn).bind λn32=>(Hp.ldI H17 .i64 cE (jn+1)).bind λn33=>(Hp.ldSl H17 cE (jn+2)).bind λs34=>(ak n32 n33 s34 iB gv H17).bind λr35=>((r35.1).asP).bind λp36=>(if bu H17 r35.2 then ((Hp.ldI r35.2 .i64 cE jn).bind λn37=>(Hp.ldI r35.2 .i64 cE (jn+1)).bind λn38=>(Hp.ldSl r35.2 cE (jn+2)).bind λs39=>(ak n37 n38 s39 iC gv r35.2).bind λr40=>((r40.1).asP).bind λp41=>(Hp.ldI r40.2 .i64 p41.1 p41.2).bind λn42=>(Hp.ldI r40.2 .i64 p36.1 p36.2).bind λn43=>(Hp.st r40.2 p36.1 p36.2 (.int .i64 n42)).bind λH44=>(Hp.st H44 p41.1 p41.2 (.int .i64 n43)).bind λH45=>dw.l7 F ak nA iB iC cE jn iD (IntKind.i64.wrap (gv+1)) H45) else none)) else (some ((.tup []),H17)))
termination_by structural n=>n
def dw.twX (F:Nat) (ak:Int->Int->Sl->Int->Int->Hp->OA) (ac:Int) (ae:Int) (aK:Sl) (ax:Int) (bS:Int) (H:Hp):OA:=(Hp.new H [(.int .i64 ac),(.int .i64 ae),(.sl aK)]).bind λH6=>(Hp.ldI H6 .i64 H.length 1).bind λn7=>dw.l7 F ak F ax bS H.length 0 n7 0 H6
def dw.tw (F:Nat) (ac:Int) (ae:Int) (aK:Sl) (ax:Int) (bS:Int) (H:Hp):OA:=dw.twX F (bT.tw F) ac ae aK ax bS H
def dw.lh7 (F:Nat) (ak:Int->Int->Sl->Int->Int->Hp->OA) (ks:List Nat) (n:Nat) (tm:Tm) (H:Hp):OA:=match ks,tm 1,tm 2,tm 3,tm 10,tm 11 with
 | [],(.int .i64 iB),(.int .i64 iC),(.ptr cE jn),(.int .i64 iD),(.int .i64 gv)=>dw.l7 F ak n iB iC cE jn iD gv H
 | _,_,_,_,_,_=>none
theorem dw.lh7_inv {F:Nat} {ak:Int->Int->Sl->Int->Int->Hp->OA} {ks:List Nat} {n:Nat} {tm:Tm} {H:Hp} {r:AV×Hp} (h:dw.lh7 F ak ks n tm H=some r):∃ iB iC cE jn iD gv,ks=[]/\ee tm [(1,(.int .i64 iB)),(2,(.int .i64 iC)),(3,(.ptr cE jn)),(10,(.int .i64 iD)),(11,(.int .i64 gv))]/\dw.l7 F ak n iB iC cE jn iD gv H=some r:=by
 unfold dw.lh7 at h
 split at h
 ·exact ⟨_,_,_,_,_,_,rfl,⟨‹_›,‹_›,‹_›,‹_›,‹_›,trivial⟩,h⟩
 ·cases h
def dw.lh (F:Nat) (ak:Int->Int->Sl->Int->Int->Hp->OA) (p:Nat) (ks:List Nat) (n:Nat) (tm:Tm) (H:Hp):OA:=bif p.beq 7 then dw.lh7 F ak ks n tm H else (none)
def dw.pn:Nat->List Nat:=eX [(4,[7]),(5,[9,11])]
def dw.tb:Nat->List (List Nat):=eX [(4,[[],[],[],[0,1,2],[],[],[],[0,1,2,3,4,5,6],[0,1,2,3,4,5,6,7],[0,1,2,3,4,5,6,7,8]]),(5,[[],[],[],[2],[2,3],[],[5],[5,6],[0,2,3,4,5,6,7],[0,2,3,4,5,6,7,8],[0,1,2,3,4,5,6,7,8,9],[0,1,2,3,4,5,6,7,8,9,10]])]
def dw.mk (g:Int->Int->Sl->Int->Int->Hp->OA) (args:List AV) (H:Hp):OA:=match args with
 | [(.agg [(.int .i64 ac),(.int .i64 ae),(.sl aK)]),(.int .i64 ax),(.int .i64 bS)]=>g ac ae aK ax bS H
 | _=>none
def dw.cs (F:Nat) (ak:Int->Int->Sl->Int->Int->Hp->OA):Cs:=[(53,bT.mk ak)]
theorem dw.loops (F:Nat) (ak:Int->Int->Sl->Int->Int->Hp->OA):LO (bj (dw.cs F ak)) dw.pn (dw.lh F ak) F Tryz.f116:=
 (ag.rt (ag.rt (ag.block (ag.loop (λtm H=>et λr h=>by obtain ⟨iB,iC,cE,jn,iD,gv,hks,e,h⟩:=dw.lh7_inv (show dw.lh7 F ak [] 0 tm H=some r from h);cases h) (λk7 tm H r h=>by obtain ⟨iB,iC,cE,jn,iD,gv,hks,e,h⟩:=dw.lh7_inv (show dw.lh7 F ak [] (k7+1) tm H=some r from h);rw [<- ef e];exact Eq.trans (by kernel_rfl) h) λk7=>ag.no))))
theorem dw.eqX (F:Nat) (ak:Int->Int->Sl->Int->Int->Hp->OA) (ac:Int) (ae:Int) (aK:Sl) (ax:Int) (bS:Int) (H:Hp):EX (bj (dw.cs F ak)) dw.pn (dw.lh F ak) F Tryz.f116 [(.agg [(.int .i64 ac),(.int .i64 ae),(.sl aK)]),(.int .i64 ax),(.int .i64 bS)] H=dw.twX F ak ac ae aK ax bS H:=by kernel_rfl
theorem dw.k (F:Nat):Ok Tryz.prog 116 (dw.mk (dw.tw F)):=by
 intro args H v H' h
 unfold dw.mk at h
 split at h
 ·exact okT (TB:=dw.tb) Tryz.func116 (bi (bT.k F) ca) (dw.loops F (bT.tw F)) ((dw.eqX F (bT.tw F) _ _ _ _ _ H).trans h) (by kernel_rfl)
 ·cases h
def dx.l7 (F:Nat) (ak:Int->Int->Sl->Int->Int->Hp->OA) :Nat->Int->Int->Nat->Nat->Int->Int->Hp->OA
 | 0,_,_,_,_,_,_,_=>none
 | nA+1,iB,iC,cE,jn,iD,gv,H17=>(bif (decide (gv<iD)) then ((Hp.ldI H17 .i64 cE jn).bind λn32=>(Hp.ldI H17 .i64 cE (jn+1)).bind λn33=>(Hp.ldSl H17 cE (jn+2)).bind λs34=>(ak n32 n33 s34 gv iB H17).bind λr35=>((r35.1).asP).bind λp36=>(if bu H17 r35.2 then ((Hp.ldI r35.2 .i64 cE jn).bind λn37=>(Hp.ldI r35.2 .i64 cE (jn+1)).bind λn38=>(Hp.ldSl r35.2 cE (jn+2)).bind λs39=>(ak n37 n38 s39 gv iC r35.2).bind λr40=>((r40.1).asP).bind λp41=>(Hp.ldI r40.2 .i64 p41.1 p41.2).bind λn42=>(Hp.ldI r40.2 .i64 p36.1 p36.2).bind λn43=>(Hp.st r40.2 p36.1 p36.2 (.int .i64 n42)).bind λH44=>(Hp.st H44 p41.1 p41.2 (.int .i64 n43)).bind λH45=>dx.l7 F ak nA iB iC cE jn iD (IntKind.i64.wrap (gv+1)) H45) else none)) else (some ((.tup []),H17)))
termination_by structural n=>n
def dx.twX (F:Nat) (ak:Int->Int->Sl->Int->Int->Hp->OA) (ac:Int) (ae:Int) (aK:Sl) (ax:Int) (bS:Int) (H:Hp):OA:=(Hp.new H [(.int .i64 ac),(.int .i64 ae),(.sl aK)]).bind λH6=>(Hp.ldI H6 .i64 H.length 0).bind λn7=>dx.l7 F ak F ax bS H.length 0 n7 0 H6
def dx.tw (F:Nat) (ac:Int) (ae:Int) (aK:Sl) (ax:Int) (bS:Int) (H:Hp):OA:=dx.twX F (bT.tw F) ac ae aK ax bS H
def dx.lh7 (F:Nat) (ak:Int->Int->Sl->Int->Int->Hp->OA) (ks:List Nat) (n:Nat) (tm:Tm) (H:Hp):OA:=match ks,tm 1,tm 2,tm 3,tm 10,tm 11 with
 | [],(.int .i64 iB),(.int .i64 iC),(.ptr cE jn),(.int .i64 iD),(.int .i64 gv)=>dx.l7 F ak n iB iC cE jn iD gv H
 | _,_,_,_,_,_=>none
theorem dx.lh7_inv {F:Nat} {ak:Int->Int->Sl->Int->Int->Hp->OA} {ks:List Nat} {n:Nat} {tm:Tm} {H:Hp} {r:AV×Hp} (h:dx.lh7 F ak ks n tm H=some r):∃ iB iC cE jn iD gv,ks=[]/\ee tm [(1,(.int .i64 iB)),(2,(.int .i64 iC)),(3,(.ptr cE jn)),(10,(.int .i64 iD)),(11,(.int .i64 gv))]/\dx.l7 F ak n iB iC cE jn iD gv H=some r:=by
 unfold dx.lh7 at h
 split at h
 ·exact ⟨_,_,_,_,_,_,rfl,⟨‹_›,‹_›,‹_›,‹_›,‹_›,trivial⟩,h⟩
 ·cases h
def dx.lh (F:Nat) (ak:Int->Int->Sl->Int->Int->Hp->OA) (p:Nat) (ks:List Nat) (n:Nat) (tm:Tm) (H:Hp):OA:=bif p.beq 7 then dx.lh7 F ak ks n tm H else (none)
def dx.pn:Nat->List Nat:=eX [(4,[7]),(5,[9,11])]
def dx.tb:Nat->List (List Nat):=eX [(4,[[],[],[],[0,1,2],[],[],[],[0,1,2,3,4,5,6],[0,1,2,3,4,5,6,7],[0,1,2,3,4,5,6,7,8]]),(5,[[],[],[],[2],[2,3],[],[5],[5,6],[0,2,3,4,5,6,7],[0,2,3,4,5,6,7,8],[0,1,2,3,4,5,6,7,8,9],[0,1,2,3,4,5,6,7,8,9,10]])]
def dx.mk (g:Int->Int->Sl->Int->Int->Hp->OA) (args:List AV) (H:Hp):OA:=match args with
 | [(.agg [(.int .i64 ac),(.int .i64 ae),(.sl aK)]),(.int .i64 ax),(.int .i64 bS)]=>g ac ae aK ax bS H
 | _=>none
def dx.cs (F:Nat) (ak:Int->Int->Sl->Int->Int->Hp->OA):Cs:=[(53,bT.mk ak)]
theorem dx.loops (F:Nat) (ak:Int->Int->Sl->Int->Int->Hp->OA):LO (bj (dx.cs F ak)) dx.pn (dx.lh F ak) F Tryz.f117:=
 (ag.rt (ag.rt (ag.block (ag.loop (λtm H=>et λr h=>by obtain ⟨iB,iC,cE,jn,iD,gv,hks,e,h⟩:=dx.lh7_inv (show dx.lh7 F ak [] 0 tm H=some r from h);cases h) (λk7 tm H r h=>by obtain ⟨iB,iC,cE,jn,iD,gv,hks,e,h⟩:=dx.lh7_inv (show dx.lh7 F ak [] (k7+1) tm H=some r from h);rw [<- ef e];exact Eq.trans (by kernel_rfl) h) λk7=>ag.no))))
theorem dx.eqX (F:Nat) (ak:Int->Int->Sl->Int->Int->Hp->OA) (ac:Int) (ae:Int) (aK:Sl) (ax:Int) (bS:Int) (H:Hp):EX (bj (dx.cs F ak)) dx.pn (dx.lh F ak) F Tryz.f117 [(.agg [(.int .i64 ac),(.int .i64 ae),(.sl aK)]),(.int .i64 ax),(.int .i64 bS)] H=dx.twX F ak ac ae aK ax bS H:=by kernel_rfl
theorem dx.k (F:Nat):Ok Tryz.prog 117 (dx.mk (dx.tw F)):=by
 intro args H v H' h
 unfold dx.mk at h
 split at h
 ·exact okT (TB:=dx.tb) Tryz.func117 (bi (bT.k F) ca) (dx.loops F (bT.tw F)) ((dx.eqX F (bT.tw F) _ _ _ _ _ H).trans h) (by kernel_rfl)
 ·cases h
def fm.twX (F:Nat) (ac:Int) (ae:Int) (aK:Sl) (ax:Int) (H:Hp):OA:=(Hp.new H [(.int .i64 ac),(.int .i64 ae),(.sl aK)]).bind λH5=>(Hp.ldSl H5 H.length 2).bind λs6=>(Hp.ldI H5 .i64 H.length 1).bind λn7=>(Hp.ldI H5 .i64 H.length 1).bind λn8=>(Sl.cut s6 1 (IntKind.i64.wrap (ax * n7)) (IntKind.i64.wrap ((IntKind.i64.wrap (ax+1)) * n8))).bind λs9=>some ((.sl s9),H5)
def fm.tw (F:Nat) (ac:Int) (ae:Int) (aK:Sl) (ax:Int) (H:Hp):OA:=fm.twX F ac ae aK ax H
def fm.mk (g:Int->Int->Sl->Int->Hp->OA) (args:List AV) (H:Hp):OA:=match args with
 | [(.agg [(.int .i64 ac),(.int .i64 ae),(.sl aK)]),(.int .i64 ax)]=>g ac ae aK ax H
 | _=>none
theorem fm.eqX (F:Nat) (ac:Int) (ae:Int) (aK:Sl) (ax:Int) (H:Hp):EX (bj []) aY lh0 F Tryz.f118 [(.agg [(.int .i64 ac),(.int .i64 ae),(.sl aK)]),(.int .i64 ax)] H=fm.twX F ac ae aK ax H:=by kernel_rfl
theorem fm.k (F:Nat):Ok Tryz.prog 118 (fm.mk (fm.tw F)):=by
 intro args H v H' h
 unfold fm.mk at h
 split at h
 ·exact okT (TB:=aY) Tryz.func118 ca ag.no ((fm.eqX F _ _ _ _ H).trans h) (by kernel_rfl)
 ·cases h
def bI.l32747 (F:Nat) (fk:Nat->Nat->Int->Hp->OA) (fd:Int->Int->Sl->Int->Int->Hp->OA) (fe:Int->Int->Sl->Int->Int->Hp->OA) (ak:Int->Int->Sl->Int->Int->Hp->OA) (cg:Int->Int->Sl->Int->Hp->OA) :Nat->Nat->Nat->Int->Int->Int->Hp->OA
 | 0,_,_,_,_,_,_=>none
 | Zu+1,pL,pM,nO,oQ,mG,H159=>(bif (decide (mG<oQ)) then ((Hp.ldI H159 .i64 pL (pM+3)).bind λn172=>(Hp.ldI H159 .i64 pL ((pM+3)+1)).bind λn173=>(Hp.ldSl H159 pL ((pM+3)+2)).bind λs174=>(ak n172 n173 s174 mG nO H159).bind λr175=>((r175.1).asP).bind λp176=>(if bu H159 r175.2 then ((Hp.ldI r175.2 .i64 pL (pM+3)).bind λn177=>(Hp.ldI r175.2 .i64 pL ((pM+3)+1)).bind λn178=>(Hp.ldSl r175.2 pL ((pM+3)+2)).bind λs179=>(ak n177 n178 s179 mG nO r175.2).bind λr180=>((r180.1).asP).bind λp181=>(Hp.ldI r180.2 .i64 p181.1 p181.2).bind λn182=>(Hp.st r180.2 p176.1 p176.2 (.int .i64 (IntKind.i64.wrap (0 - n182)))).bind λH183=>bI.l32747 F fk fd fe ak cg Zu pL pM nO oQ (IntKind.i64.wrap (mG+1)) H183) else none)) else (some ((.bool true),H159)))
termination_by structural n=>n
def bI.j3 (F:Nat) (fk:Nat->Nat->Int->Hp->OA) (fd:Int->Int->Sl->Int->Int->Hp->OA) (fe:Int->Int->Sl->Int->Int->Hp->OA) (ak:Int->Int->Sl->Int->Int->Hp->OA) (cg:Int->Int->Sl->Int->Hp->OA) (PJ:Nat) (PK:Nat) (yV:Int) (H142:Hp):OA:=(Hp.ldI H142 .i64 PJ (PK+3)).bind λn143=>bI.l32747 F fk fd fe ak cg F PJ PK yV n143 0 H142
def bI.j4 (F:Nat) (fk:Nat->Nat->Int->Hp->OA) (fd:Int->Int->Sl->Int->Int->Hp->OA) (fe:Int->Int->Sl->Int->Int->Hp->OA) (ak:Int->Int->Sl->Int->Int->Hp->OA) (cg:Int->Int->Sl->Int->Hp->OA) (C32745_:Nat->Nat->Int->Sl->Int->Int->Hp->OA) (Zv:Nat) (Zw:Nat) (Zx:Int) (Zy:Sl) (Zz:Int) (ZA:Int) (H242:Hp):OA:=C32745_ Zv Zw Zx Zy Zz (IntKind.i64.wrap (ZA+1)) H242
def bI.j5 (F:Nat) (fk:Nat->Nat->Int->Hp->OA) (fd:Int->Int->Sl->Int->Int->Hp->OA) (fe:Int->Int->Sl->Int->Int->Hp->OA) (ak:Int->Int->Sl->Int->Int->Hp->OA) (cg:Int->Int->Sl->Int->Hp->OA) (C32745_:Nat->Nat->Int->Sl->Int->Int->Hp->OA) (ZB:Nat) (ZC:Nat) (ZD:Int) (ZE:Sl) (ZF:Int) (ZG:Int) (H224:Hp):OA:=bI.j4 F fk fd fe ak cg C32745_ ZB ZC ZD ZE ZF ZG H224
def bI.l2095707 (F:Nat) (fk:Nat->Nat->Int->Hp->OA) (fd:Int->Int->Sl->Int->Int->Hp->OA) (fe:Int->Int->Sl->Int->Int->Hp->OA) (ak:Int->Int->Sl->Int->Int->Hp->OA) (cg:Int->Int->Sl->Int->Hp->OA) (C32745_:Nat->Nat->Int->Sl->Int->Int->Hp->OA):Nat->Nat->Nat->Int->Sl->Int->Int->Sl->Int->Int->Hp->OA
 | 0,_,_,_,_,_,_,_,_,_,_=>none
 | ZH+1,sW,sX,sY,sZ,s_,ta,rX,tc,rl,H202=>(bif (decide (rl<tc)) then ((Sl.idx rX rl 1).bind λp243=>(Hp.ldI H202 .i64 p243.1 p243.2).bind λn244=>(Sl.idx rX rl 1).bind λp245=>(Hp.st H202 p245.1 p245.2 (.int .i64 (IntKind.i64.wrap (0 - n244)))).bind λH246=>bI.l2095707 F fk fd fe ak cg C32745_ ZH sW sX sY sZ s_ ta rX tc (IntKind.i64.wrap (rl+1)) H246) else (bI.j5 F fk fd fe ak cg C32745_ sW sX sY sZ s_ ta H202))
termination_by structural n=>n
def bI.l32745 (F:Nat) (fk:Nat->Nat->Int->Hp->OA) (fd:Int->Int->Sl->Int->Int->Hp->OA) (fe:Int->Int->Sl->Int->Int->Hp->OA) (ak:Int->Int->Sl->Int->Int->Hp->OA) (cg:Int->Int->Sl->Int->Hp->OA) :Nat->Nat->Nat->Int->Sl->Int->Int->Hp->OA
 | 0,_,_,_,_,_,_,_=>none
 | uc+1,lS,lT,iq,td,te,rY,H65=>(bif (decide (rY<te)) then ((Sl.idx td rY 1).bind λp184=>(Hp.ldSl H65 p184.1 p184.2).bind λs185=>bI.l2095707 F fk fd fe ak cg (bI.l32745 F fk fd fe ak cg uc) F lS lT iq td te rY s185 (s185.n:Int) 0 H65) else (bI.j3 F fk fd fe ak cg lS lT iq H65))
termination_by structural n=>n
def bI.twX (F:Nat) (fk:Nat->Nat->Int->Hp->OA) (fd:Int->Int->Sl->Int->Int->Hp->OA) (fe:Int->Int->Sl->Int->Int->Hp->OA) (ak:Int->Int->Sl->Int->Int->Hp->OA) (cg:Int->Int->Sl->Int->Hp->OA) (ac:Nat) (ae:Nat) (ah:Int) (H:Hp):OA:=(fk ac ae ah H).bind λr4=>((r4.1).asTup 3).bind λl5=>(l5[0]?).bind λv6=>((v6).asI .i64).bind λn7=>(l5[1]?).bind λv8=>((v8).asI .i64).bind λn9=>(l5[2]?).bind λv10=>((v10).asB).bind λb11=>(bif (!b11) then (some ((.bool false),r4.2)) else ((Hp.ldI r4.2 .i64 ac (ae+6)).bind λn12=>(Hp.ldI r4.2 .i64 ac ((ae+6)+1)).bind λn13=>(Hp.ldSl r4.2 ac ((ae+6)+2)).bind λs14=>(fd n12 n13 s14 n7 ah r4.2).bind λr15=>(Hp.ldI r15.2 .i64 ac ae).bind λn16=>(Hp.ldI r15.2 .i64 ac (ae+1)).bind λn17=>(Hp.ldSl r15.2 ac (ae+2)).bind λs18=>(fd n16 n17 s18 n7 ah r15.2).bind λr19=>(Hp.ldI r19.2 .i64 ac (ae+3)).bind λn20=>(Hp.ldI r19.2 .i64 ac ((ae+3)+1)).bind λn21=>(Hp.ldSl r19.2 ac ((ae+3)+2)).bind λs22=>(fe n20 n21 s22 n7 ah r19.2).bind λr23=>(Hp.ldI r23.2 .i64 ac (ae+6)).bind λn24=>(Hp.ldI r23.2 .i64 ac ((ae+6)+1)).bind λn25=>(Hp.ldSl r23.2 ac ((ae+6)+2)).bind λs26=>(fe n24 n25 s26 n9 ah r23.2).bind λr27=>(Hp.ldI r27.2 .i64 ac (ae+9)).bind λn28=>(Hp.ldI r27.2 .i64 ac ((ae+9)+1)).bind λn29=>(Hp.ldSl r27.2 ac ((ae+9)+2)).bind λs30=>(fe n28 n29 s30 n9 ah r27.2).bind λr31=>(Hp.ldI r31.2 .i64 ac (ae+12)).bind λn32=>(Hp.ldI r31.2 .i64 ac ((ae+12)+1)).bind λn33=>(Hp.ldSl r31.2 ac ((ae+12)+2)).bind λs34=>(fd n32 n33 s34 n9 ah r31.2).bind λr35=>(Hp.ldI r35.2 .i64 ac (ae+6)).bind λn36=>(Hp.ldI r35.2 .i64 ac ((ae+6)+1)).bind λn37=>(Hp.ldSl r35.2 ac ((ae+6)+2)).bind λs38=>(ak n36 n37 s38 ah ah r35.2).bind λr39=>((r39.1).asP).bind λp40=>(Hp.ldI r39.2 .i64 p40.1 p40.2).bind λn41=>(bif (decide (n41<0)) then ((Hp.ldI r39.2 .i64 ac (ae+6)).bind λn42=>(Hp.ldI r39.2 .i64 ac ((ae+6)+1)).bind λn43=>(Hp.ldSl r39.2 ac ((ae+6)+2)).bind λs44=>(cg n42 n43 s44 ah r39.2).bind λr45=>((r45.1).asSl).bind λs46=>(if bu r39.2 r45.2 then ((Hp.ldI r45.2 .i64 ac ae).bind λn47=>(Hp.ldI r45.2 .i64 ac (ae+1)).bind λn48=>(Hp.ldSl r45.2 ac (ae+2)).bind λs49=>(cg n47 n48 s49 ah r45.2).bind λr50=>((r50.1).asSl).bind λs51=>(Hp.new r50.2 [(.sl s46),(.sl s51)]).bind λH52=>bI.l32745 F fk fd fe ak cg F ac ae ah (⟨some (r50.2.length,0),2,.ex 2⟩:Sl) ((⟨some (r50.2.length,0),2,.ex 2⟩:Sl).n:Int) 0 H52) else none)) else (some ((.bool true),r39.2)))))
def bI.tw (F:Nat) (ac:Nat) (ae:Nat) (ah:Int) (H:Hp):OA:=bI.twX F (bc.tw F) (dw.tw F) (dx.tw F) (bT.tw F) (fm.tw F) ac ae ah H
def bI.lh32745 (F:Nat) (fk:Nat->Nat->Int->Hp->OA) (fd:Int->Int->Sl->Int->Int->Hp->OA) (fe:Int->Int->Sl->Int->Int->Hp->OA) (ak:Int->Int->Sl->Int->Int->Hp->OA) (cg:Int->Int->Sl->Int->Hp->OA) (ks:List Nat) (n:Nat) (tm:Tm) (H:Hp):OA:=match ks,tm 0,tm 1,tm 94,tm 95,tm 96 with
 | [],(.ptr lS lT),(.int .i64 iq),(.sl td),(.int .i64 te),(.int .i64 rY)=>bI.l32745 F fk fd fe ak cg n lS lT iq td te rY H
 | _,_,_,_,_,_=>none
theorem bI.lh32745_inv {F:Nat} {fk:Nat->Nat->Int->Hp->OA} {fd:Int->Int->Sl->Int->Int->Hp->OA} {fe:Int->Int->Sl->Int->Int->Hp->OA} {ak:Int->Int->Sl->Int->Int->Hp->OA} {cg:Int->Int->Sl->Int->Hp->OA} {ks:List Nat} {n:Nat} {tm:Tm} {H:Hp} {r:AV×Hp} (h:bI.lh32745 F fk fd fe ak cg ks n tm H=some r):∃ lS lT iq td te rY,ks=[]/\ee tm [(0,(.ptr lS lT)),(1,(.int .i64 iq)),(94,(.sl td)),(95,(.int .i64 te)),(96,(.int .i64 rY))]/\bI.l32745 F fk fd fe ak cg n lS lT iq td te rY H=some r:=by
 unfold bI.lh32745 at h
 split at h
 ·exact ⟨_,_,_,_,_,_,rfl,⟨‹_›,‹_›,‹_›,‹_›,‹_›,trivial⟩,h⟩
 ·cases h
def bI.lh32747 (F:Nat) (fk:Nat->Nat->Int->Hp->OA) (fd:Int->Int->Sl->Int->Int->Hp->OA) (fe:Int->Int->Sl->Int->Int->Hp->OA) (ak:Int->Int->Sl->Int->Int->Hp->OA) (cg:Int->Int->Sl->Int->Hp->OA) (ks:List Nat) (n:Nat) (tm:Tm) (H:Hp):OA:=match ks,tm 0,tm 1,tm 120,tm 121 with
 | [],(.ptr pL pM),(.int .i64 nO),(.int .i64 oQ),(.int .i64 mG)=>bI.l32747 F fk fd fe ak cg n pL pM nO oQ mG H
 | _,_,_,_,_=>none
theorem bI.lh32747_inv {F:Nat} {fk:Nat->Nat->Int->Hp->OA} {fd:Int->Int->Sl->Int->Int->Hp->OA} {fe:Int->Int->Sl->Int->Int->Hp->OA} {ak:Int->Int->Sl->Int->Int->Hp->OA} {cg:Int->Int->Sl->Int->Hp->OA} {ks:List Nat} {n:Nat} {tm:Tm} {H:Hp} {r:AV×Hp} (h:bI.lh32747 F fk fd fe ak cg ks n tm H=some r):∃ pL pM nO oQ mG,ks=[]/\ee tm [(0,(.ptr pL pM)),(1,(.int .i64 nO)),(120,(.int .i64 oQ)),(121,(.int .i64 mG))]/\bI.l32747 F fk fd fe ak cg n pL pM nO oQ mG H=some r:=by
 unfold bI.lh32747 at h
 split at h
 ·exact ⟨_,_,_,_,_,rfl,⟨‹_›,‹_›,‹_›,‹_›,trivial⟩,h⟩
 ·cases h
def bI.lh2095707 (F:Nat) (fk:Nat->Nat->Int->Hp->OA) (fd:Int->Int->Sl->Int->Int->Hp->OA) (fe:Int->Int->Sl->Int->Int->Hp->OA) (ak:Int->Int->Sl->Int->Int->Hp->OA) (cg:Int->Int->Sl->Int->Hp->OA) (ks:List Nat) (n:Nat) (tm:Tm) (H:Hp):OA:=match ks,tm 0,tm 1,tm 9,tm 94,tm 95,tm 96,tm 101,tm 102 with
 | [uc],(.ptr sW sX),(.int .i64 sY),(.sl rX),(.sl sZ),(.int .i64 s_),(.int .i64 ta),(.int .i64 tc),(.int .i64 rl)=>bI.l2095707 F fk fd fe ak cg (bI.l32745 F fk fd fe ak cg uc) n sW sX sY sZ s_ ta rX tc rl H
 | _,_,_,_,_,_,_,_,_=>none
theorem bI.lh2095707_inv {F:Nat} {fk:Nat->Nat->Int->Hp->OA} {fd:Int->Int->Sl->Int->Int->Hp->OA} {fe:Int->Int->Sl->Int->Int->Hp->OA} {ak:Int->Int->Sl->Int->Int->Hp->OA} {cg:Int->Int->Sl->Int->Hp->OA} {ks:List Nat} {n:Nat} {tm:Tm} {H:Hp} {r:AV×Hp} (h:bI.lh2095707 F fk fd fe ak cg ks n tm H=some r):∃ uc sW sX sY rX sZ s_ ta tc rl,ks=[uc]/\ee tm [(0,(.ptr sW sX)),(1,(.int .i64 sY)),(9,(.sl rX)),(94,(.sl sZ)),(95,(.int .i64 s_)),(96,(.int .i64 ta)),(101,(.int .i64 tc)),(102,(.int .i64 rl))]/\bI.l2095707 F fk fd fe ak cg (bI.l32745 F fk fd fe ak cg uc) n sW sX sY sZ s_ ta rX tc rl H=some r:=by
 unfold bI.lh2095707 at h
 split at h
 ·exact ⟨_,_,_,_,_,_,_,_,_,_,rfl,⟨‹_›,‹_›,‹_›,‹_›,‹_›,‹_›,‹_›,‹_›,trivial⟩,h⟩
 ·cases h
def bI.lh (F:Nat) (fk:Nat->Nat->Int->Hp->OA) (fd:Int->Int->Sl->Int->Int->Hp->OA) (fe:Int->Int->Sl->Int->Int->Hp->OA) (ak:Int->Int->Sl->Int->Int->Hp->OA) (cg:Int->Int->Sl->Int->Hp->OA) (p:Nat) (ks:List Nat) (n:Nat) (tm:Tm) (H:Hp):OA:=bif p.beq 2095707 then bI.lh2095707 F fk fd fe ak cg ks n tm H else (bif p.beq 32747 then bI.lh32747 F fk fd fe ak cg ks n tm H else (bif p.beq 32745 then bI.lh32745 F fk fd fe ak cg ks n tm H else (none)))
def bI.pn:Nat->List Nat:=eX [(11,[13]),(23,[15,20])]
def bI.tb:Nat->List (List Nat):=eX [(11,[[],[0],[0,1],[0,1,2],[0,1,2,3],[],[0,1,2,3,4,5],[],[7],[7,8],[7,8,9],[7,8,9,10],[],[0,1,2,3,4,5,6,7,8,9,10,11,12],[0,1,2,3,4,5,6,7,8,9,10,11,12,13],[0,1,2,3,4,5,6,7,8,9,10,11,12,13,14],[]]),(23,[[],[0],[0,1],[0,1,2],[0,1,2,3],[],[],[0,1,2,3,4,5,6],[],[8],[8,9],[8,9,10],[8,9,10,11],[],[],[0,1,2,3,4,5,6,7,8,9,10,11,12,13,14],[0,1,2,3,4,5,6,7,8,9,10,11,12,13,14,15],[0,1,2,3,4,5,6,7,8,9,10,11,12,13,14,15,16],[0,1,2,3,4,5,6,7,8,9,10,11,12,13,14,15,16,17],[0,1,2,3,4,5,6,7,8,9,10,11,12,13,14,15,16,17,18],[0,1,2,3,4,5,6,7,8,9,10,11,12,13,14,15,16,17,18,19]])]
def bI.mk (g:Nat->Nat->Int->Hp->OA) (args:List AV) (H:Hp):OA:=match args with
 | [(.ptr ac ae),(.int .i64 ah)]=>g ac ae ah H
 | _=>none
def bI.cs (F:Nat) (fk:Nat->Nat->Int->Hp->OA) (fd:Int->Int->Sl->Int->Int->Hp->OA) (fe:Int->Int->Sl->Int->Int->Hp->OA) (ak:Int->Int->Sl->Int->Int->Hp->OA) (cg:Int->Int->Sl->Int->Hp->OA):Cs:=[(115,bc.mk fk),(116,dw.mk fd),(117,dx.mk fe),(53,bT.mk ak),(118,fm.mk cg)]
theorem bI.loops (F:Nat) (fk:Nat->Nat->Int->Hp->OA) (fd:Int->Int->Sl->Int->Int->Hp->OA) (fe:Int->Int->Sl->Int->Int->Hp->OA) (ak:Int->Int->Sl->Int->Int->Hp->OA) (cg:Int->Int->Sl->Int->Hp->OA):LO (bj (bI.cs F fk fd fe ak cg)) bI.pn (bI.lh F fk fd fe ak cg) F Tryz.f98:=
 (ag.rt (ag.rt (ag.rt (ag.rt (ag.rt (ag.rt (ag.rt (ag.rt (ag.rt (ag.lt (ag.rt (ag.cond (ag.seq (ag.rt (ag.block (ag.loop (λtm H=>et λr h=>by obtain ⟨lS,lT,iq,td,te,rY,hks,e,h⟩:=bI.lh32745_inv (show bI.lh32745 F fk fd fe ak cg [] 0 tm H=some r from h);cases h) (λk32745 tm H r h=>by obtain ⟨lS,lT,iq,td,te,rY,hks,e,h⟩:=bI.lh32745_inv (show bI.lh32745 F fk fd fe ak cg [] (k32745+1) tm H=some r from h);rw [<- ef e];exact Eq.trans (by kernel_rfl) h) λk32745=>(ag.rt (ag.rt (ag.lt (ag.block (ag.rt (ag.rt (ag.block (ag.loop (λtm H=>et λr h=>by obtain ⟨uc,sW,sX,sY,rX,sZ,s_,ta,tc,rl,hks,e,h⟩:=bI.lh2095707_inv (show bI.lh2095707 F fk fd fe ak cg [k32745] 0 tm H=some r from h);cases h) (λk2095707 tm H r h=>by obtain ⟨uc,sW,sX,sY,rX,sZ,s_,ta,tc,rl,hks,e,h⟩:=bI.lh2095707_inv (show bI.lh2095707 F fk fd fe ak cg [k32745] (k2095707+1) tm H=some r from h);cases hks;rw [<- ef e];exact Eq.trans (by kernel_rfl) h) λk2095707=>ag.no))))))))))) (ag.rt (ag.block (ag.loop (λtm H=>et λr h=>by obtain ⟨pL,pM,nO,oQ,mG,hks,e,h⟩:=bI.lh32747_inv (show bI.lh32747 F fk fd fe ak cg [] 0 tm H=some r from h);cases h) (λk32747 tm H r h=>by obtain ⟨pL,pM,nO,oQ,mG,hks,e,h⟩:=bI.lh32747_inv (show bI.lh32747 F fk fd fe ak cg [] (k32747+1) tm H=some r from h);rw [<- ef e];exact Eq.trans (by kernel_rfl) h) λk32747=>ag.no)))) ag.no))))))))))))
theorem bI.eqX (F:Nat) (fk:Nat->Nat->Int->Hp->OA) (fd:Int->Int->Sl->Int->Int->Hp->OA) (fe:Int->Int->Sl->Int->Int->Hp->OA) (ak:Int->Int->Sl->Int->Int->Hp->OA) (cg:Int->Int->Sl->Int->Hp->OA) (ac:Nat) (ae:Nat) (ah:Int) (H:Hp):EX (bj (bI.cs F fk fd fe ak cg)) bI.pn (bI.lh F fk fd fe ak cg) F Tryz.f98 [(.ptr ac ae),(.int .i64 ah)] H=bI.twX F fk fd fe ak cg ac ae ah H:=by kernel_rfl
theorem bI.k (F:Nat):Ok Tryz.prog 98 (bI.mk (bI.tw F)):=by
 intro args H v H' h
 unfold bI.mk at h
 split at h
 ·exact okT (TB:=bI.tb) Tryz.func98 (bi (bc.k F) (bi (dw.k F) (bi (dx.k F) (bi (bT.k F) (bi (fm.k F) ca))))) (bI.loops F (bc.tw F) (dw.tw F) (dx.tw F) (bT.tw F) (fm.tw F)) ((bI.eqX F (bc.tw F) (dw.tw F) (dx.tw F) (bT.tw F) (fm.tw F) _ _ _ H).trans h) (by kernel_rfl)
 ·cases h
def ik.twX (F:Nat) (ac:Int) (ap:Int) (H:Hp):OA:=(if ap=0 then none else ((if ap=0 then none else ((bif (decide ((Int.tmod ac ap)<0)) then (some ((.int .i64 (IntKind.i64.wrap ((IntKind.i64.wrap (Int.tdiv ac ap)) - 1))),H)) else (some ((.int .i64 (IntKind.i64.wrap (Int.tdiv ac ap))),H)))))))
def ik.tw (F:Nat) (ac:Int) (ap:Int) (H:Hp):OA:=ik.twX F ac ap H
def ik.mk (g:Int->Int->Hp->OA) (args:List AV) (H:Hp):OA:=match args with
 | [(.int .i64 ac),(.int .i64 ap)]=>g ac ap H
 | _=>none
theorem ik.eqX (F:Nat) (ac:Int) (ap:Int) (H:Hp):EX (bj []) aY lh0 F Tryz.f119 [(.int .i64 ac),(.int .i64 ap)] H=ik.twX F ac ap H:=by kernel_rfl
theorem ik.k (F:Nat):Ok Tryz.prog 119 (ik.mk (ik.tw F)):=by
 intro args H v H' h
 unfold ik.mk at h
 split at h
 ·exact okT (TB:=aY) Tryz.func119 ca ag.no ((ik.eqX F _ _ H).trans h) (by kernel_rfl)
 ·cases h
def fV.twX (F:Nat) (cS:Int->Hp->OA) (ac:Int) (ap:Int) (de:Int) (H:Hp):OA:=(bif (ac != 0) then ((cS ap H).bind λr4=>((r4.1).asI .i64).bind λn5=>(cS ac r4.2).bind λr6=>((r6.1).asI .i64).bind λn7=>(if n7=0 then none else ((bif (decide (n5>(IntKind.i64.wrap (Int.tdiv de n7)))) then (some ((.tup [(.int .i64 0),(.bool false)]),r6.2)) else (some ((.tup [(.int .i64 (IntKind.i64.wrap (ac * ap))),(.bool true)]),r6.2)))))) else (some ((.tup [(.int .i64 (IntKind.i64.wrap (ac * ap))),(.bool true)]),H)))
def fV.tw (F:Nat) (ac:Int) (ap:Int) (de:Int) (H:Hp):OA:=fV.twX F (eD.tw F) ac ap de H
def fV.mk (g:Int->Int->Int->Hp->OA) (args:List AV) (H:Hp):OA:=match args with
 | [(.int .i64 ac),(.int .i64 ap),(.int .i64 de)]=>g ac ap de H
 | _=>none
def fV.cs (F:Nat) (cS:Int->Hp->OA):Cs:=[(55,eD.mk cS)]
theorem fV.eqX (F:Nat) (cS:Int->Hp->OA) (ac:Int) (ap:Int) (de:Int) (H:Hp):EX (bj (fV.cs F cS)) aY lh0 F Tryz.f29 [(.int .i64 ac),(.int .i64 ap),(.int .i64 de)] H=fV.twX F cS ac ap de H:=by kernel_rfl
theorem fV.k (F:Nat):Ok Tryz.prog 29 (fV.mk (fV.tw F)):=by
 intro args H v H' h
 unfold fV.mk at h
 split at h
 ·exact okT (TB:=aY) Tryz.func29 (bi (eD.k F) ca) ag.no ((fV.eqX F (eD.tw F) _ _ _ H).trans h) (by kernel_rfl)
 ·cases h
def hO.twX (F:Nat) (iE:Int->Int->Int->Hp->OA) (cS:Int->Hp->OA) (ac:Nat) (ae:Nat) (ah:Nat) (ax:Nat) (bS:Int) (oR:Int) (H:Hp):OA:=(iE bS oR 2000000000000 H).bind λr7=>((r7.1).asTup 2).bind λl8=>(l8[0]?).bind λv9=>((v9).asI .i64).bind λn10=>(l8[1]?).bind λv11=>((v11).asB).bind λb12=>(Hp.ldI r7.2 .i64 ah ax).bind λn13=>(Hp.st r7.2 ah ax (.int .i64 (IntKind.i64.wrap (n13+n10)))).bind λH14=>(bif (!b12) then ((Hp.st H14 ac (ae+15) (.bool true)).bind λH15=>(Hp.st H15 ah ax (.int .i64 0)).bind λH16=>some ((.tup []),H16)) else ((Hp.ldI H14 .i64 ah ax).bind λn17=>(cS n17 H14).bind λr18=>((r18.1).asI .i64).bind λn19=>(bif (decide (n19>1000000000000)) then ((Hp.st r18.2 ac (ae+15) (.bool true)).bind λH20=>(Hp.st H20 ah ax (.int .i64 0)).bind λH21=>some ((.tup []),H21)) else (some ((.tup []),r18.2)))))
def hO.tw (F:Nat) (ac:Nat) (ae:Nat) (ah:Nat) (ax:Nat) (bS:Int) (oR:Int) (H:Hp):OA:=hO.twX F (fV.tw F) (eD.tw F) ac ae ah ax bS oR H
def hO.mk (g:Nat->Nat->Nat->Nat->Int->Int->Hp->OA) (args:List AV) (H:Hp):OA:=match args with
 | [(.ptr ac ae),(.ptr ah ax),(.int .i64 bS),(.int .i64 oR)]=>g ac ae ah ax bS oR H
 | _=>none
def hO.cs (F:Nat) (iE:Int->Int->Int->Hp->OA) (cS:Int->Hp->OA):Cs:=[(29,fV.mk iE),(55,eD.mk cS)]
theorem hO.eqX (F:Nat) (iE:Int->Int->Int->Hp->OA) (cS:Int->Hp->OA) (ac:Nat) (ae:Nat) (ah:Nat) (ax:Nat) (bS:Int) (oR:Int) (H:Hp):EX (bj (hO.cs F iE cS)) aY lh0 F Tryz.f129 [(.ptr ac ae),(.ptr ah ax),(.int .i64 bS),(.int .i64 oR)] H=hO.twX F iE cS ac ae ah ax bS oR H:=by kernel_rfl
theorem hO.k (F:Nat):Ok Tryz.prog 129 (hO.mk (hO.tw F)):=by
 intro args H v H' h
 unfold hO.mk at h
 split at h
 ·exact okT (TB:=aY) Tryz.func129 (bi (fV.k F) (bi (eD.k F) ca)) ag.no ((hO.eqX F (fV.tw F) (eD.tw F) _ _ _ _ _ _ H).trans h) (by kernel_rfl)
 ·cases h
def dk.l7 (F:Nat) (ak:Int->Int->Sl->Int->Int->Hp->OA) (fW:Nat->Nat->Nat->Nat->Int->Int->Hp->OA) :Nat->Nat->Nat->Int->Int->Int->Nat->Nat->Int->Int->Hp->OA
 | 0,_,_,_,_,_,_,_,_,_,_=>none
 | nA+1,fb,iF,dM,fq,e_,dc,jo,hQ,fX,H23=>(bif (decide (fX<hQ)) then ((Hp.ldI H23 .i64 dc jo).bind λn36=>(Hp.ldI H23 .i64 dc (jo+1)).bind λn37=>(Hp.ldSl H23 dc (jo+2)).bind λs38=>(ak n36 n37 s38 dM fX H23).bind λr39=>((r39.1).asP).bind λp40=>(if bu H23 r39.2 then ((Hp.ldI r39.2 .i64 dc jo).bind λn41=>(Hp.ldI r39.2 .i64 dc (jo+1)).bind λn42=>(Hp.ldSl r39.2 dc (jo+2)).bind λs43=>(ak n41 n42 s43 fq fX r39.2).bind λr44=>((r44.1).asP).bind λp45=>(Hp.ldI r44.2 .i64 p45.1 p45.2).bind λn46=>(fW fb iF p40.1 p40.2 n46 e_ r44.2).bind λr47=>dk.l7 F ak fW nA fb iF dM fq e_ dc jo hQ (IntKind.i64.wrap (fX+1)) r47.2) else none)) else (some ((.tup []),H23)))
termination_by structural n=>n
def dk.twX (F:Nat) (ak:Int->Int->Sl->Int->Int->Hp->OA) (fW:Nat->Nat->Nat->Nat->Int->Int->Hp->OA) (ac:Nat) (ae:Nat) (ah:Int) (ax:Int) (dZ:Sl) (cQ:Int) (el:Int) (d_:Int) (H:Hp):OA:=(Hp.new H [(.int .i64 ah),(.int .i64 ax),(.sl dZ)]).bind λH9=>(Hp.ldI H9 .i64 H.length 1).bind λn10=>dk.l7 F ak fW F ac ae cQ el d_ H.length 0 n10 0 H9
def dk.tw (F:Nat) (ac:Nat) (ae:Nat) (ah:Int) (ax:Int) (dZ:Sl) (cQ:Int) (el:Int) (d_:Int) (H:Hp):OA:=dk.twX F (bT.tw F) (hO.tw F) ac ae ah ax dZ cQ el d_ H
def dk.lh7 (F:Nat) (ak:Int->Int->Sl->Int->Int->Hp->OA) (fW:Nat->Nat->Nat->Nat->Int->Int->Hp->OA) (ks:List Nat) (n:Nat) (tm:Tm) (H:Hp):OA:=match ks,tm 0,tm 2,tm 3,tm 4,tm 6,tm 12,tm 13 with
 | [],(.ptr fb iF),(.int .i64 dM),(.int .i64 fq),(.int .i64 e_),(.ptr dc jo),(.int .i64 hQ),(.int .i64 fX)=>dk.l7 F ak fW n fb iF dM fq e_ dc jo hQ fX H
 | _,_,_,_,_,_,_,_=>none
theorem dk.lh7_inv {F:Nat} {ak:Int->Int->Sl->Int->Int->Hp->OA} {fW:Nat->Nat->Nat->Nat->Int->Int->Hp->OA} {ks:List Nat} {n:Nat} {tm:Tm} {H:Hp} {r:AV×Hp} (h:dk.lh7 F ak fW ks n tm H=some r):∃ fb iF dM fq e_ dc jo hQ fX,ks=[]/\ee tm [(0,(.ptr fb iF)),(2,(.int .i64 dM)),(3,(.int .i64 fq)),(4,(.int .i64 e_)),(6,(.ptr dc jo)),(12,(.int .i64 hQ)),(13,(.int .i64 fX))]/\dk.l7 F ak fW n fb iF dM fq e_ dc jo hQ fX H=some r:=by
 unfold dk.lh7 at h
 split at h
 ·exact ⟨_,_,_,_,_,_,_,_,_,rfl,⟨‹_›,‹_›,‹_›,‹_›,‹_›,‹_›,‹_›,trivial⟩,h⟩
 ·cases h
def dk.lh (F:Nat) (ak:Int->Int->Sl->Int->Int->Hp->OA) (fW:Nat->Nat->Nat->Nat->Int->Int->Hp->OA) (p:Nat) (ks:List Nat) (n:Nat) (tm:Tm) (H:Hp):OA:=bif p.beq 7 then dk.lh7 F ak fW ks n tm H else (none)
def dk.pn:Nat->List Nat:=eX [(4,[8,12])]
def dk.tb:Nat->List (List Nat):=eX [(4,[[],[],[],[],[1,2,3],[],[],[],[1,2,3,4,5,6,7],[1,2,3,4,5,6,7,8],[1,2,3,4,5,6,7,8,9],[],[0,1,2,3,4,5,6,7,8,9,10,11]])]
def dk.mk (g:Nat->Nat->Int->Int->Sl->Int->Int->Int->Hp->OA) (args:List AV) (H:Hp):OA:=match args with
 | [(.ptr ac ae),(.agg [(.int .i64 ah),(.int .i64 ax),(.sl dZ)]),(.int .i64 cQ),(.int .i64 el),(.int .i64 d_)]=>g ac ae ah ax dZ cQ el d_ H
 | _=>none
def dk.cs (F:Nat) (ak:Int->Int->Sl->Int->Int->Hp->OA) (fW:Nat->Nat->Nat->Nat->Int->Int->Hp->OA):Cs:=[(53,bT.mk ak),(129,hO.mk fW)]
theorem dk.loops (F:Nat) (ak:Int->Int->Sl->Int->Int->Hp->OA) (fW:Nat->Nat->Nat->Nat->Int->Int->Hp->OA):LO (bj (dk.cs F ak fW)) dk.pn (dk.lh F ak fW) F Tryz.f123:=
 (ag.rt (ag.rt (ag.block (ag.loop (λtm H=>et λr h=>by obtain ⟨fb,iF,dM,fq,e_,dc,jo,hQ,fX,hks,e,h⟩:=dk.lh7_inv (show dk.lh7 F ak fW [] 0 tm H=some r from h);cases h) (λk7 tm H r h=>by obtain ⟨fb,iF,dM,fq,e_,dc,jo,hQ,fX,hks,e,h⟩:=dk.lh7_inv (show dk.lh7 F ak fW [] (k7+1) tm H=some r from h);rw [<- ef e];exact Eq.trans (by kernel_rfl) h) λk7=>ag.no))))
theorem dk.eqX (F:Nat) (ak:Int->Int->Sl->Int->Int->Hp->OA) (fW:Nat->Nat->Nat->Nat->Int->Int->Hp->OA) (ac:Nat) (ae:Nat) (ah:Int) (ax:Int) (dZ:Sl) (cQ:Int) (el:Int) (d_:Int) (H:Hp):EX (bj (dk.cs F ak fW)) dk.pn (dk.lh F ak fW) F Tryz.f123 [(.ptr ac ae),(.agg [(.int .i64 ah),(.int .i64 ax),(.sl dZ)]),(.int .i64 cQ),(.int .i64 el),(.int .i64 d_)] H=dk.twX F ak fW ac ae ah ax dZ cQ el d_ H:=by kernel_rfl
theorem dk.k (F:Nat):Ok Tryz.prog 123 (dk.mk (dk.tw F)):=by
 intro args H v H' h
 unfold dk.mk at h
 split at h
 ·exact okT (TB:=dk.tb) Tryz.func123 (bi (bT.k F) (bi (hO.k F) ca)) (dk.loops F (bT.tw F) (hO.tw F)) ((dk.eqX F (bT.tw F) (hO.tw F) _ _ _ _ _ _ _ _ H).trans h) (by kernel_rfl)
 ·cases h
end
end Go.Proofs.YtppbogklbhfboaaGreat.AE
