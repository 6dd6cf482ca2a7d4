import Derived.Test.YtppbogklbhfboaaGreatTab1
import Derived.Test.YtppbogklbhfboaaGreatE2
set_option linter.unusedVariables false
set_option linter.unusedSimpArgs false
namespace Go.Proofs.YtppbogklbhfboaaGreat.AE
open Go Go.AE Go.Proofs Go.RowKit Go.Maps
set_option linter.unusedVariables false
set_option maxHeartbeats 4000000
set_option maxRecDepth 100000
noncomputable section
def ju.twX (F:Nat) (aa:Sl) (ai:Int) (H:Hp):OA:=(bif (decide ((IntKind.i64.wrap (ai - (aa.n:Int)))<0)) then (some ((.int .i64 (-1)),H)) else (some ((.int .i64 (IntKind.i64.wrap (ai - (aa.n:Int)))),H)))
def ju.tw (F:Nat) (aa:Sl) (ai:Int) (H:Hp):OA:=ju.twX F aa ai H
def ju.mk (g:Sl->Int->Hp->OA) (args:List AV) (H:Hp):OA:=match args with
 | [(.sl aa),(.int .i64 ai)]=>g aa ai H
 | _=>none
theorem ju.eqX (F:Nat) (aa:Sl) (ai:Int) (H:Hp):EX (bh []) aW lh0 F Tryz.f16 [(.sl aa),(.int .i64 ai)] H=ju.twX F aa ai H:=by kernel_rfl
theorem ju.k (F:Nat):Ok Tryz.prog 16 (ju.mk (ju.tw F)):=by
 intro args H v H' h
 unfold ju.mk at h
 split at h
 ·exact okT (TB:=aW) Tryz.func16 ca ae.no ((ju.eqX F _ _ H).trans h) (by kernel_rfl)
 ·cases h
def iE.twX (F:Nat) (wZ:Sl->Int->Hp->OA) (aa:Sl) (ac:Int) (af:Int) (H:Hp):OA:=(Hp.new H [(.sl aa),(.int .i64 ac)]).bind λH4=>(Hp.ldSl H4 H.length 0).bind λs5=>(wZ s5 af H4).bind λr6=>((r6.1).asI .i64).bind λn7=>(bif (decide (n7<0)) then (some ((.int .i64 (-1)),r6.2)) else (some ((.int .i64 n7),r6.2)))
def iE.tw (F:Nat) (aa:Sl) (ac:Int) (af:Int) (H:Hp):OA:=iE.twX F (ju.tw F) aa ac af H
def iE.mk (g:Sl->Int->Int->Hp->OA) (args:List AV) (H:Hp):OA:=match args with
 | [(.agg [(.sl aa),(.int .i64 ac)]),(.int .i64 af)]=>g aa ac af H
 | _=>none
def iE.cs (F:Nat) (wZ:Sl->Int->Hp->OA):Cs:=[(16,ju.mk wZ)]
theorem iE.eqX (F:Nat) (wZ:Sl->Int->Hp->OA) (aa:Sl) (ac:Int) (af:Int) (H:Hp):EX (bh (iE.cs F wZ)) aW lh0 F Tryz.f5 [(.agg [(.sl aa),(.int .i64 ac)]),(.int .i64 af)] H=iE.twX F wZ aa ac af H:=by kernel_rfl
theorem iE.k (F:Nat):Ok Tryz.prog 5 (iE.mk (iE.tw F)):=by
 intro args H v H' h
 unfold iE.mk at h
 split at h
 ·exact okT (TB:=aW) Tryz.func5 (bg (ju.k F) ca) ae.no ((iE.eqX F (ju.tw F) _ _ _ H).trans h) (by kernel_rfl)
 ·cases h
def jm.twX (F:Nat) (aa:Int) (ac:Int) (aI:Int) (cL:Int) (cG:Int) (H:Hp):OA:=(Hp.new H [(.int .i64 aa),(.int .i64 ac),(.int .i64 aI),(.int .i64 cL),(.int .i64 cG)]).bind λH6=>(Hp.new H6 [.int .i64 0,.int .i64 0,.int .i64 0,.int .i64 0,.int .i64 0]).bind λH7=>(Hp.new H7 [.int .i64 0,.int .i64 0,.int .i64 0,.int .i64 0,.int .i64 0]).bind λH8=>(Hp.ldI H8 .i64 H.length 0).bind λn9=>(Hp.st H8 H7.length 0 (.int .i64 n9)).bind λH10=>(Hp.ldI H10 .i64 H.length 1).bind λn11=>(Hp.st H10 H7.length 1 (.int .i64 n11)).bind λH12=>(Hp.ldI H12 .i64 H.length 2).bind λn13=>(Hp.st H12 H7.length 2 (.int .i64 n13)).bind λH14=>(Hp.ldI H14 .i64 H.length 3).bind λn15=>(Hp.st H14 H7.length 3 (.int .i64 n15)).bind λH16=>(Hp.ldI H16 .i64 H.length 4).bind λn17=>(Hp.st H16 H7.length 4 (.int .i64 n17)).bind λH18=>(Hp.ldI H18 .i64 H7.length 0).bind λn19=>(Hp.ldI H18 .i64 H7.length (0+1)).bind λn20=>(Hp.ldI H18 .i64 H7.length (0+2)).bind λn21=>(Hp.ldI H18 .i64 H7.length (0+3)).bind λn22=>(Hp.ldI H18 .i64 H7.length (0+4)).bind λn23=>(Hp.st H18 H6.length 0 (.int .i64 n19)).bind λH24=>(Hp.st H24 H6.length (0+1) (.int .i64 n20)).bind λH25=>(Hp.st H25 H6.length (0+1+1) (.int .i64 n21)).bind λH26=>(Hp.st H26 H6.length (0+1+1+1) (.int .i64 n22)).bind λH27=>(Hp.st H27 H6.length (0+1+1+1+1) (.int .i64 n23)).bind λH28=>(Hp.ldI H28 .i64 H6.length 0).bind λn29=>(Hp.ldI H28 .i64 H6.length (0+1)).bind λn30=>(Hp.ldI H28 .i64 H6.length (0+2)).bind λn31=>(Hp.ldI H28 .i64 H6.length (0+3)).bind λn32=>(Hp.ldI H28 .i64 H6.length (0+4)).bind λn33=>some ((.agg [(.int .i64 n29),(.int .i64 n30),(.int .i64 n31),(.int .i64 n32),(.int .i64 n33)]),H28)
def jm.tw (F:Nat) (aa:Int) (ac:Int) (aI:Int) (cL:Int) (cG:Int) (H:Hp):OA:=jm.twX F aa ac aI cL cG H
def jm.mk (g:Int->Int->Int->Int->Int->Hp->OA) (args:List AV) (H:Hp):OA:=match args with
 | [(.agg [(.int .i64 aa),(.int .i64 ac),(.int .i64 aI),(.int .i64 cL),(.int .i64 cG)])]=>g aa ac aI cL cG H
 | _=>none
theorem jm.eqX (F:Nat) (aa:Int) (ac:Int) (aI:Int) (cL:Int) (cG:Int) (H:Hp):EX (bh []) aW lh0 F Tryz.f47 [(.agg [(.int .i64 aa),(.int .i64 ac),(.int .i64 aI),(.int .i64 cL),(.int .i64 cG)])] H=jm.twX F aa ac aI cL cG H:=by kernel_rfl
theorem jm.k (F:Nat):Ok Tryz.prog 47 (jm.mk (jm.tw F)):=by
 intro args H v H' h
 unfold jm.mk at h
 split at h
 ·exact okT (TB:=aW) Tryz.func47 ca ae.no ((jm.eqX F _ _ _ _ _ H).trans h) (by kernel_rfl)
 ·cases h
def eF.l29 (F:Nat) (lm:Int->Int->Int->Int->Int->Hp->OA) :Nat->Sl->Sl->Int->Hp->OA
 | 0,_,_,_,_=>none
 | fj+1,eV,se,mg,H7=>(bif (decide (mg<(eV.n:Int))) then ((Sl.idx eV mg 5).bind λp32=>(Hp.ldI H7 .i64 p32.1 p32.2).bind λn33=>(Hp.ldI H7 .i64 p32.1 (p32.2+1)).bind λn34=>(Hp.ldI H7 .i64 p32.1 (p32.2+2)).bind λn35=>(Hp.ldI H7 .i64 p32.1 (p32.2+3)).bind λn36=>(Hp.ldI H7 .i64 p32.1 (p32.2+4)).bind λn37=>(lm n33 n34 n35 n36 n37 H7).bind λr38=>((r38.1).asAgg 5).bind λl39=>(l39[0]?).bind λv40=>((v40).asI .i64).bind λn41=>(l39[1]?).bind λv42=>((v42).asI .i64).bind λn43=>(l39[2]?).bind λv44=>((v44).asI .i64).bind λn45=>(l39[3]?).bind λv46=>((v46).asI .i64).bind λn47=>(l39[4]?).bind λv48=>((v48).asI .i64).bind λn49=>(Sl.idx se mg 5).bind λp50=>(Hp.st r38.2 p50.1 p50.2 (.int .i64 n41)).bind λH51=>(Hp.st H51 p50.1 (p50.2+1) (.int .i64 n43)).bind λH52=>(Hp.st H52 p50.1 (p50.2+1+1) (.int .i64 n45)).bind λH53=>(Hp.st H53 p50.1 (p50.2+1+1+1) (.int .i64 n47)).bind λH54=>(Hp.st H54 p50.1 (p50.2+1+1+1+1) (.int .i64 n49)).bind λH55=>eF.l29 F lm fj eV se (IntKind.i64.wrap (mg+1)) H55) else (some ((.sl se),H7)))
def eF.twX (F:Nat) (lm:Int->Int->Int->Int->Int->Hp->OA) (aa:Sl) (H:Hp):OA:=(Hp.mk H [.int .i64 0,.int .i64 0,.int .i64 0,.int .i64 0,.int .i64 0] 40 (aa.n:Int) (aa.n:Int)).bind λm2=>eF.l29 F lm F aa m2.1 0 m2.2
def eF.tw (F:Nat) (aa:Sl) (H:Hp):OA:=eF.twX F (jm.tw F) aa H
def eF.lh29 (F:Nat) (lm:Int->Int->Int->Int->Int->Hp->OA) (ks:List Nat) (n:Nat) (tm:Tm) (H:Hp):OA:=match ks,tm 0,tm 3,tm 4 with
 | [],(.sl eV),(.sl se),(.int .i64 mg)=>eF.l29 F lm n eV se mg H
 | _,_,_,_=>none
theorem eF.lh29_inv {F:Nat} {lm:Int->Int->Int->Int->Int->Hp->OA} {ks:List Nat} {n:Nat} {tm:Tm} {H:Hp} {r:AV×Hp} (h:eF.lh29 F lm ks n tm H=some r):∃ eV se mg,ks=[]/\dZ tm [(0,(.sl eV)),(3,(.sl se)),(4,(.int .i64 mg))]/\eF.l29 F lm n eV se mg H=some r:=by
 unfold eF.lh29 at h
 split at h
 ·exact ⟨_,_,_,rfl,⟨‹_›,‹_›,‹_›,trivial⟩,h⟩
 ·cases h
def eF.lh (F:Nat) (lm:Int->Int->Int->Int->Int->Hp->OA) (p:Nat) (ks:List Nat) (n:Nat) (tm:Tm) (H:Hp):OA:=bif p.beq 29 then eF.lh29 F lm ks n tm H else (none)
def eF.mk (g:Sl->Hp->OA) (args:List AV) (H:Hp):OA:=match args with
 | [(.sl aa)]=>g aa H
 | _=>none
def eF.cs (F:Nat) (lm:Int->Int->Int->Int->Int->Hp->OA):Cs:=[(47,jm.mk lm)]
theorem eF.loops (F:Nat) (lm:Int->Int->Int->Int->Int->Hp->OA):LO (bh (eF.cs F lm)) aW (eF.lh F lm) F Tryz.f23:=
 (ae.rt (ae.rt (ae.lt (ae.rt (ae.block (ae.la (λn tm H r h=>by obtain ⟨eV,se,mg,hks,e,h⟩:=eF.lh29_inv (show eF.lh29 F lm [] n tm H=some r from h);obtain _ | k29:=n;cases h;exact ⟨_,rfl,by rw [<- eb e];exact Eq.trans (by kernel_rfl) h⟩) λk29=>ae.no))))))
theorem eF.eqX (F:Nat) (lm:Int->Int->Int->Int->Int->Hp->OA) (aa:Sl) (H:Hp):EX (bh (eF.cs F lm)) aW (eF.lh F lm) F Tryz.f23 [(.sl aa)] H=eF.twX F lm aa H:=by kernel_rfl
theorem eF.k (F:Nat):Ok Tryz.prog 23 (eF.mk (eF.tw F)):=by
 intro args H v H' h
 unfold eF.mk at h
 split at h
 ·exact okT (TB:=aW) Tryz.func23 (bg (jm.k F) ca) (eF.loops F (jm.tw F)) ((eF.eqX F (jm.tw F) _ H).trans h) (by kernel_rfl)
 ·cases h
def ip.twX (F:Nat) (w_:Sl->Hp->OA) (aa:Sl) (ac:Int) (H:Hp):OA:=(Hp.new H [(.sl aa),(.int .i64 ac)]).bind λH3=>(Hp.new H3 [.sl ⟨none,0,.ex 0⟩,.int .i64 0]).bind λH4=>(Hp.new H4 [.sl ⟨none,0,.ex 0⟩,.int .i64 0]).bind λH5=>(Hp.ldSl H5 H.length 0).bind λs6=>(w_ s6 H5).bind λr7=>((r7.1).asSl).bind λs8=>(Hp.st r7.2 H4.length 0 (.sl s8)).bind λH9=>(Hp.ldI H9 .i64 H.length 1).bind λn10=>(Hp.st H9 H4.length 1 (.int .i64 n10)).bind λH11=>(Hp.ldSl H11 H4.length 0).bind λs12=>(Hp.ldI H11 .i64 H4.length (0+1)).bind λn13=>(Hp.st H11 H3.length 0 (.sl s12)).bind λH14=>(Hp.st H14 H3.length (0+1) (.int .i64 n13)).bind λH15=>(Hp.ldSl H15 H3.length 0).bind λs16=>(Hp.ldI H15 .i64 H3.length (0+1)).bind λn17=>some ((.agg [(.sl s16),(.int .i64 n17)]),H15)
def ip.tw (F:Nat) (aa:Sl) (ac:Int) (H:Hp):OA:=ip.twX F (eF.tw F) aa ac H
def ip.mk (g:Sl->Int->Hp->OA) (args:List AV) (H:Hp):OA:=match args with
 | [(.agg [(.sl aa),(.int .i64 ac)])]=>g aa ac H
 | _=>none
def ip.cs (F:Nat) (w_:Sl->Hp->OA):Cs:=[(23,eF.mk w_)]
theorem ip.eqX (F:Nat) (w_:Sl->Hp->OA) (aa:Sl) (ac:Int) (H:Hp):EX (bh (ip.cs F w_)) aW lh0 F Tryz.f7 [(.agg [(.sl aa),(.int .i64 ac)])] H=ip.twX F w_ aa ac H:=by kernel_rfl
theorem ip.k (F:Nat):Ok Tryz.prog 7 (ip.mk (ip.tw F)):=by
 intro args H v H' h
 unfold ip.mk at h
 split at h
 ·exact okT (TB:=aW) Tryz.func7 (bg (eF.k F) ca) ae.no ((ip.eqX F (eF.tw F) _ _ H).trans h) (by kernel_rfl)
 ·cases h
def fq.twX (F:Nat) (aa:Int) (ai:Int) (cV:Int) (H:Hp):OA:=(bif (decide (aa>=ai)) then (some ((.bool (decide (aa<=cV))),H)) else (some ((.bool false),H)))
def fq.tw (F:Nat) (aa:Int) (ai:Int) (cV:Int) (H:Hp):OA:=fq.twX F aa ai cV H
def fq.mk (g:Int->Int->Int->Hp->OA) (args:List AV) (H:Hp):OA:=match args with
 | [(.int .i64 aa),(.int .i64 ai),(.int .i64 cV)]=>g aa ai cV H
 | _=>none
theorem fq.eqX (F:Nat) (aa:Int) (ai:Int) (cV:Int) (H:Hp):EX (bh []) aW lh0 F Tryz.f18 [(.int .i64 aa),(.int .i64 ai),(.int .i64 cV)] H=fq.twX F aa ai cV H:=by kernel_rfl
theorem fq.k (F:Nat):Ok Tryz.prog 18 (fq.mk (fq.tw F)):=by
 intro args H v H' h
 unfold fq.mk at h
 split at h
 ·exact okT (TB:=aW) Tryz.func18 ca ae.no ((fq.eqX F _ _ _ H).trans h) (by kernel_rfl)
 ·cases h
def ft.twX (F:Nat) (aa:Int) (ac:Int) (aI:Int) (cL:Int) (cG:Int) (eB:Int) (H:Hp):OA:=(Hp.new H [(.int .i64 aa),(.int .i64 ac),(.int .i64 aI),(.int .i64 cL),(.int .i64 cG)]).bind λH7=>(Hp.ldI H7 .i64 H.length 0).bind λn8=>(Hp.ldI H7 .i64 H.length 1).bind λn9=>(Hp.ldI H7 .i64 H.length 2).bind λn10=>(Hp.ldI H7 .i64 H.length 3).bind λn11=>(Hp.new H7 [(.int .i64 n8),(.int .i64 n9),(.int .i64 n10),(.int .i64 n11)]).bind λH12=>(Sl.idx (⟨some (H7.length,0),4,.ex 4⟩:Sl) eB 1).bind λp13=>(Hp.ldI H12 .i64 p13.1 p13.2).bind λn14=>some ((.int .i64 n14),H12)
def ft.tw (F:Nat) (aa:Int) (ac:Int) (aI:Int) (cL:Int) (cG:Int) (eB:Int) (H:Hp):OA:=ft.twX F aa ac aI cL cG eB H
def ft.mk (g:Int->Int->Int->Int->Int->Int->Hp->OA) (args:List AV) (H:Hp):OA:=match args with
 | [(.agg [(.int .i64 aa),(.int .i64 ac),(.int .i64 aI),(.int .i64 cL),(.int .i64 cG)]),(.int .i64 eB)]=>g aa ac aI cL cG eB H
 | _=>none
theorem ft.eqX (F:Nat) (aa:Int) (ac:Int) (aI:Int) (cL:Int) (cG:Int) (eB:Int) (H:Hp):EX (bh []) aW lh0 F Tryz.f63 [(.agg [(.int .i64 aa),(.int .i64 ac),(.int .i64 aI),(.int .i64 cL),(.int .i64 cG)]),(.int .i64 eB)] H=ft.twX F aa ac aI cL cG eB H:=by kernel_rfl
theorem ft.k (F:Nat):Ok Tryz.prog 63 (ft.mk (ft.tw F)):=by
 intro args H v H' h
 unfold ft.mk at h
 split at h
 ·exact okT (TB:=aW) Tryz.func63 ca ae.no ((ft.eqX F _ _ _ _ _ _ H).trans h) (by kernel_rfl)
 ·cases h
def fu.twX (F:Nat) (aa:Int) (ac:Int) (aI:Int) (cL:Int) (cG:Int) (eB:Int) (H:Hp):OA:=(Hp.new H [(.int .i64 aa),(.int .i64 ac),(.int .i64 aI),(.int .i64 cL),(.int .i64 cG)]).bind λH7=>(bif (eB==0) then (some ((.bool true),H7)) else ((bif (eB==3) then ((Hp.ldI H7 .i64 H.length 4).bind λn8=>(bif (n8==1) then (some ((.bool true),H7)) else ((bif (eB==1) then ((Hp.ldI H7 .i64 H.length 4).bind λn9=>some ((.bool (n9==(-1))),H7)) else (some ((.bool false),H7)))))) else ((bif (eB==1) then ((Hp.ldI H7 .i64 H.length 4).bind λn10=>some ((.bool (n10==(-1))),H7)) else (some ((.bool false),H7)))))))
def fu.tw (F:Nat) (aa:Int) (ac:Int) (aI:Int) (cL:Int) (cG:Int) (eB:Int) (H:Hp):OA:=fu.twX F aa ac aI cL cG eB H
def fu.mk (g:Int->Int->Int->Int->Int->Int->Hp->OA) (args:List AV) (H:Hp):OA:=match args with
 | [(.agg [(.int .i64 aa),(.int .i64 ac),(.int .i64 aI),(.int .i64 cL),(.int .i64 cG)]),(.int .i64 eB)]=>g aa ac aI cL cG eB H
 | _=>none
theorem fu.eqX (F:Nat) (aa:Int) (ac:Int) (aI:Int) (cL:Int) (cG:Int) (eB:Int) (H:Hp):EX (bh []) aW lh0 F Tryz.f64 [(.agg [(.int .i64 aa),(.int .i64 ac),(.int .i64 aI),(.int .i64 cL),(.int .i64 cG)]),(.int .i64 eB)] H=fu.twX F aa ac aI cL cG eB H:=by kernel_rfl
theorem fu.k (F:Nat):Ok Tryz.prog 64 (fu.mk (fu.tw F)):=by
 intro args H v H' h
 unfold fu.mk at h
 split at h
 ·exact okT (TB:=aW) Tryz.func64 ca ae.no ((fu.eqX F _ _ _ _ _ _ H).trans h) (by kernel_rfl)
 ·cases h
def bW.l3927 (F:Nat) (cZ:Int->Int->Int->Int->Int->Int->Hp->OA) (ec:Int->Int->Int->Hp->OA) (c_:Int->Int->Int->Int->Int->Int->Hp->OA) (C61_:Nat->Nat->Int->Sl->Sl->Int->Hp->OA):Nat->Nat->Nat->Int->Sl->Sl->Int->Nat->Nat->Int->Hp->OA
 | 0,_,_,_,_,_,_,_,_,_,_=>none
 | PB+1,pJ,sf,mh,qL,qM,jM,kV,nl,ln,H126=>(bif (decide (ln<4)) then ((Hp.ldI H126 .i64 kV nl).bind λn151=>(Hp.ldI H126 .i64 kV (nl+1)).bind λn152=>(Hp.ldI H126 .i64 kV (nl+2)).bind λn153=>(Hp.ldI H126 .i64 kV (nl+3)).bind λn154=>(Hp.ldI H126 .i64 kV (nl+4)).bind λn155=>(cZ n151 n152 n153 n154 n155 ln H126).bind λr156=>((r156.1).asI .i64).bind λn157=>(ec n157 0 (IntKind.i64.wrap (mh - 1)) r156.2).bind λr158=>((r158.1).asB).bind λb159=>(bif (!b159) then (some ((.bool false),r158.2)) else ((Hp.ldI r158.2 .i64 kV nl).bind λn160=>(Hp.ldI r158.2 .i64 kV (nl+1)).bind λn161=>(Hp.ldI r158.2 .i64 kV (nl+2)).bind λn162=>(Hp.ldI r158.2 .i64 kV (nl+3)).bind λn163=>(Hp.ldI r158.2 .i64 kV (nl+4)).bind λn164=>(c_ n160 n161 n162 n163 n164 ln r158.2).bind λr165=>((r165.1).asB).bind λb166=>(bif b166 then ((Sl.idx qL n157 1).bind λp167=>(Hp.ldB r165.2 p167.1 p167.2).bind λb168=>(bif b168 then (some ((.bool false),r165.2)) else ((Sl.idx qL n157 1).bind λp169=>(Hp.st r165.2 p169.1 p169.2 (.bool true)).bind λH170=>bW.l3927 F cZ ec c_ C61_ PB pJ sf mh qL qM jM kV nl (IntKind.i64.wrap (ln+1)) H170))) else ((Sl.idx qM n157 1).bind λp171=>(Hp.ldB r165.2 p171.1 p171.2).bind λb172=>(bif b172 then (some ((.bool false),r165.2)) else ((Sl.idx qM n157 1).bind λp173=>(Hp.st r165.2 p173.1 p173.2 (.bool true)).bind λH174=>bW.l3927 F cZ ec c_ C61_ PB pJ sf mh qL qM jM kV nl (IntKind.i64.wrap (ln+1)) H174))))))) else (C61_ pJ sf mh qL qM (IntKind.i64.wrap (jM+1)) H126))
termination_by structural n=>n
def bW.l61 (F:Nat) (cZ:Int->Int->Int->Int->Int->Int->Hp->OA) (ec:Int->Int->Int->Hp->OA) (c_:Int->Int->Int->Int->Int->Int->Hp->OA) :Nat->Nat->Nat->Int->Sl->Sl->Int->Hp->OA
 | 0,_,_,_,_,_,_,_=>none
 | eC+1,jv,eW,dP,mi,iW,mj,H16=>(Hp.ldSl H16 jv eW).bind λs96=>(bif (decide (mj<(s96.n:Int))) then ((Hp.ldSl H16 jv eW).bind λs97=>(Sl.idx s97 mj 5).bind λp98=>(Hp.ldI H16 .i64 p98.1 p98.2).bind λn99=>(Hp.ldI H16 .i64 p98.1 (p98.2+1)).bind λn100=>(Hp.ldI H16 .i64 p98.1 (p98.2+2)).bind λn101=>(Hp.ldI H16 .i64 p98.1 (p98.2+3)).bind λn102=>(Hp.ldI H16 .i64 p98.1 (p98.2+4)).bind λn103=>(Hp.new H16 [.int .i64 0,.int .i64 0,.int .i64 0,.int .i64 0,.int .i64 0]).bind λH104=>(Hp.st H104 H16.length 0 (.int .i64 n99)).bind λH105=>(Hp.st H105 H16.length (0+1) (.int .i64 n100)).bind λH106=>(Hp.st H106 H16.length (0+1+1) (.int .i64 n101)).bind λH107=>(Hp.st H107 H16.length (0+1+1+1) (.int .i64 n102)).bind λH108=>(Hp.st H108 H16.length (0+1+1+1+1) (.int .i64 n103)).bind λH109=>(Hp.ldI H109 .i64 H16.length 4).bind λn110=>(bif (n110 != 1) then ((Hp.ldI H109 .i64 H16.length 4).bind λn111=>(bif (n111 != (-1)) then (some ((.bool false),H109)) else (bW.l3927 F cZ ec c_ (bW.l61 F cZ ec c_ eC) F jv eW dP mi iW mj H16.length 0 0 H109))) else (bW.l3927 F cZ ec c_ (bW.l61 F cZ ec c_ eC) F jv eW dP mi iW mj H16.length 0 0 H109))) else (some ((.bool true),H16)))
termination_by structural n=>n
def bW.twX (F:Nat) (cZ:Int->Int->Int->Int->Int->Int->Hp->OA) (ec:Int->Int->Int->Hp->OA) (c_:Int->Int->Int->Int->Int->Int->Hp->OA) (aa:Sl) (ac:Int) (H:Hp):OA:=(Hp.new H [(.sl aa),(.int .i64 ac)]).bind λH3=>(Hp.ldSl H3 H.length 0).bind λs4=>(Hp.mk H3 [.bool false] 1 (IntKind.i64.wrap (2 * (s4.n:Int))) (IntKind.i64.wrap (2 * (s4.n:Int)))).bind λm5=>(Hp.mk m5.2 [.bool false] 1 (IntKind.i64.wrap (2 * (s4.n:Int))) (IntKind.i64.wrap (2 * (s4.n:Int)))).bind λm6=>bW.l61 F cZ ec c_ F H.length 0 (IntKind.i64.wrap (2 * (s4.n:Int))) m5.1 m6.1 0 m6.2
def bW.tw (F:Nat) (aa:Sl) (ac:Int) (H:Hp):OA:=bW.twX F (ft.tw F) (fq.tw F) (fu.tw F) aa ac H
def bW.lh61 (F:Nat) (cZ:Int->Int->Int->Int->Int->Int->Hp->OA) (ec:Int->Int->Int->Hp->OA) (c_:Int->Int->Int->Int->Int->Int->Hp->OA) (ks:List Nat) (n:Nat) (tm:Tm) (H:Hp):OA:=match ks,tm 1,tm 3,tm 4,tm 5,tm 6 with
 | [],(.ptr jv eW),(.int .i64 dP),(.sl mi),(.sl iW),(.int .i64 mj)=>bW.l61 F cZ ec c_ n jv eW dP mi iW mj H
 | _,_,_,_,_,_=>none
theorem bW.lh61_inv {F:Nat} {cZ:Int->Int->Int->Int->Int->Int->Hp->OA} {ec:Int->Int->Int->Hp->OA} {c_:Int->Int->Int->Int->Int->Int->Hp->OA} {ks:List Nat} {n:Nat} {tm:Tm} {H:Hp} {r:AV×Hp} (h:bW.lh61 F cZ ec c_ ks n tm H=some r):∃ jv eW dP mi iW mj,ks=[]/\dZ tm [(1,(.ptr jv eW)),(3,(.int .i64 dP)),(4,(.sl mi)),(5,(.sl iW)),(6,(.int .i64 mj))]/\bW.l61 F cZ ec c_ n jv eW dP mi iW mj H=some r:=by
 unfold bW.lh61 at h
 split at h
 ·exact ⟨_,_,_,_,_,_,rfl,⟨‹_›,‹_›,‹_›,‹_›,‹_›,trivial⟩,h⟩
 ·cases h
def bW.lh3927 (F:Nat) (cZ:Int->Int->Int->Int->Int->Int->Hp->OA) (ec:Int->Int->Int->Hp->OA) (c_:Int->Int->Int->Int->Int->Int->Hp->OA) (ks:List Nat) (n:Nat) (tm:Tm) (H:Hp):OA:=match ks,tm 1,tm 3,tm 4,tm 5,tm 6,tm 7,tm 8 with
 | [eC],(.ptr pJ sf),(.int .i64 mh),(.sl qL),(.sl qM),(.int .i64 jM),(.ptr kV nl),(.int .i64 ln)=>bW.l3927 F cZ ec c_ (bW.l61 F cZ ec c_ eC) n pJ sf mh qL qM jM kV nl ln H
 | _,_,_,_,_,_,_,_=>none
theorem bW.lh3927_inv {F:Nat} {cZ:Int->Int->Int->Int->Int->Int->Hp->OA} {ec:Int->Int->Int->Hp->OA} {c_:Int->Int->Int->Int->Int->Int->Hp->OA} {ks:List Nat} {n:Nat} {tm:Tm} {H:Hp} {r:AV×Hp} (h:bW.lh3927 F cZ ec c_ ks n tm H=some r):∃ eC pJ sf mh qL qM jM kV nl ln,ks=[eC]/\dZ tm [(1,(.ptr pJ sf)),(3,(.int .i64 mh)),(4,(.sl qL)),(5,(.sl qM)),(6,(.int .i64 jM)),(7,(.ptr kV nl)),(8,(.int .i64 ln))]/\bW.l3927 F cZ ec c_ (bW.l61 F cZ ec c_ eC) n pJ sf mh qL qM jM kV nl ln H=some r:=by
 unfold bW.lh3927 at h
 split at h
 ·exact ⟨_,_,_,_,_,_,_,_,_,_,rfl,⟨‹_›,‹_›,‹_›,‹_›,‹_›,‹_›,‹_›,trivial⟩,h⟩
 ·cases h
def bW.lh (F:Nat) (cZ:Int->Int->Int->Int->Int->Int->Hp->OA) (ec:Int->Int->Int->Hp->OA) (c_:Int->Int->Int->Int->Int->Int->Hp->OA) (p:Nat) (ks:List Nat) (n:Nat) (tm:Tm) (H:Hp):OA:=bif p.beq 3927 then bW.lh3927 F cZ ec c_ ks n tm H else (bif p.beq 61 then bW.lh61 F cZ ec c_ ks n tm H else (none))
def bW.tb:Nat->List (List Nat):=eU [(2,[[],[0],[],[2],[0,1],[0,1,2,3,4]])]
def bW.mk (g:Sl->Int->Hp->OA) (args:List AV) (H:Hp):OA:=match args with
 | [(.agg [(.sl aa),(.int .i64 ac)])]=>g aa ac H
 | _=>none
def bW.cs (F:Nat) (cZ:Int->Int->Int->Int->Int->Int->Hp->OA) (ec:Int->Int->Int->Hp->OA) (c_:Int->Int->Int->Int->Int->Int->Hp->OA):Cs:=[(63,ft.mk cZ),(18,fq.mk ec),(64,fu.mk c_)]
theorem bW.loops (F:Nat) (cZ:Int->Int->Int->Int->Int->Int->Hp->OA) (ec:Int->Int->Int->Hp->OA) (c_:Int->Int->Int->Int->Int->Int->Hp->OA):LO (bh (bW.cs F cZ ec c_)) aW (bW.lh F cZ ec c_) F Tryz.f41:=
 (ae.rt (ae.rt (ae.rt (ae.lt (ae.rt (ae.block (ae.la (λn tm H r h=>by obtain ⟨jv,eW,dP,mi,iW,mj,hks,e,h⟩:=bW.lh61_inv (show bW.lh61 F cZ ec c_ [] n tm H=some r from h);obtain _ | k61:=n;cases h;exact ⟨_,rfl,by rw [<- eb e];exact Eq.trans (by kernel_rfl) h⟩) λk61=>(ae.rt (ae.lt (ae.block (ae.rt (ae.rt (ae.rt (ae.block (ae.la (λn tm H r h=>by obtain ⟨eC,pJ,sf,mh,qL,qM,jM,kV,nl,ln,hks,e,h⟩:=bW.lh3927_inv (show bW.lh3927 F cZ ec c_ [k61] n tm H=some r from h);cases hks;obtain _ | k3927:=n;cases h;exact ⟨_,rfl,by rw [<- eb e];exact Eq.trans (by kernel_rfl) h⟩) λk3927=>ae.no)))))))))))))))
theorem bW.eqX (F:Nat) (cZ:Int->Int->Int->Int->Int->Int->Hp->OA) (ec:Int->Int->Int->Hp->OA) (c_:Int->Int->Int->Int->Int->Int->Hp->OA) (aa:Sl) (ac:Int) (H:Hp):EX (bh (bW.cs F cZ ec c_)) aW (bW.lh F cZ ec c_) F Tryz.f41 [(.agg [(.sl aa),(.int .i64 ac)])] H=bW.twX F cZ ec c_ aa ac H:=by kernel_rfl
theorem bW.k (F:Nat):Ok Tryz.prog 41 (bW.mk (bW.tw F)):=by
 intro args H v H' h
 unfold bW.mk at h
 split at h
 ·exact okT (TB:=bW.tb) Tryz.func41 (bg (ft.k F) (bg (fq.k F) (bg (fu.k F) ca))) (bW.loops F (ft.tw F) (fq.tw F) (fu.tw F)) ((bW.eqX F (ft.tw F) (fq.tw F) (fu.tw F) _ _ H).trans h) (by kernel_rfl)
 ·cases h
def bo.j3 (F:Nat) (cZ:Int->Int->Int->Int->Int->Int->Hp->OA) (c_:Int->Int->Int->Int->Int->Int->Hp->OA) (C13_:Int->Bool->Nat->Nat->Int->Hp->OA) (pK:Int) (xa:Bool) (ph:Nat) (xb:Nat) (xc:Int) (H147:Hp):OA:=C13_ pK xa ph xb (IntKind.i64.wrap (xc+1)) H147
def bo.j4 (F:Nat) (cZ:Int->Int->Int->Int->Int->Int->Hp->OA) (c_:Int->Int->Int->Int->Int->Int->Hp->OA) (C13_:Int->Bool->Nat->Nat->Int->Hp->OA) (xd:Int) (xe:Bool) (CI:Nat) (Yb:Nat) (xf:Int) (H134:Hp):OA:=bo.j3 F cZ c_ C13_ xd xe CI Yb xf H134
def bo.l213 (F:Nat) (cZ:Int->Int->Int->Int->Int->Int->Hp->OA) (c_:Int->Int->Int->Int->Int->Int->Hp->OA) (C13_:Int->Bool->Nat->Nat->Int->Hp->OA):Nat->Int->Bool->Nat->Nat->Int->Int->Hp->OA
 | 0,_,_,_,_,_,_,_=>none
 | CJ+1,ml,mm,ou,qN,kt,ku,H103=>(bif (decide (ku<4)) then ((Hp.ldSl H103 ou qN).bind λs148=>(Sl.idx s148 kt 5).bind λp149=>(Hp.ldI H103 .i64 p149.1 p149.2).bind λn150=>(Hp.ldI H103 .i64 p149.1 (p149.2+1)).bind λn151=>(Hp.ldI H103 .i64 p149.1 (p149.2+2)).bind λn152=>(Hp.ldI H103 .i64 p149.1 (p149.2+3)).bind λn153=>(Hp.ldI H103 .i64 p149.1 (p149.2+4)).bind λn154=>(cZ n150 n151 n152 n153 n154 ku H103).bind λr155=>((r155.1).asI .i64).bind λn156=>(bif (n156==ml) then ((Hp.ldSl r155.2 ou qN).bind λs157=>(Sl.idx s157 kt 5).bind λp158=>(Hp.ldI r155.2 .i64 p158.1 p158.2).bind λn159=>(Hp.ldI r155.2 .i64 p158.1 (p158.2+1)).bind λn160=>(Hp.ldI r155.2 .i64 p158.1 (p158.2+2)).bind λn161=>(Hp.ldI r155.2 .i64 p158.1 (p158.2+3)).bind λn162=>(Hp.ldI r155.2 .i64 p158.1 (p158.2+4)).bind λn163=>(c_ n159 n160 n161 n162 n163 ku r155.2).bind λr164=>((r164.1).asB).bind λb165=>(bif (b165==mm) then (some ((.tup [(.int .i64 kt),(.int .i64 ku)]),r164.2)) else (bo.l213 F cZ c_ C13_ CJ ml mm ou qN kt (IntKind.i64.wrap (ku+1)) r164.2))) else (bo.l213 F cZ c_ C13_ CJ ml mm ou qN kt (IntKind.i64.wrap (ku+1)) r155.2))) else (bo.j4 F cZ c_ C13_ ml mm ou qN kt H103))
termination_by structural n=>n
def bo.l13 (F:Nat) (cZ:Int->Int->Int->Int->Int->Int->Hp->OA) (c_:Int->Int->Int->Int->Int->Int->Hp->OA) :Nat->Int->Bool->Nat->Nat->Int->Hp->OA
 | 0,_,_,_,_,_,_=>none
 | jN+1,dl,pL,lp,jO,ov,H15=>(Hp.ldSl H15 lp jO).bind λs91=>(bif (decide (ov<(s91.n:Int))) then (bo.l213 F cZ c_ (bo.l13 F cZ c_ jN) F dl pL lp jO ov 0 H15) else (some ((.tup [(.int .i64 (-1)),(.int .i64 (-1))]),H15)))
termination_by structural n=>n
def bo.twX (F:Nat) (cZ:Int->Int->Int->Int->Int->Int->Hp->OA) (c_:Int->Int->Int->Int->Int->Int->Hp->OA) (aa:Sl) (ac:Int) (af:Int) (cf:Bool) (H:Hp):OA:=(Hp.new H [(.sl aa),(.int .i64 ac)]).bind λH5=>bo.l13 F cZ c_ F af cf H.length 0 0 H5
def bo.tw (F:Nat) (aa:Sl) (ac:Int) (af:Int) (cf:Bool) (H:Hp):OA:=bo.twX F (ft.tw F) (fu.tw F) aa ac af cf H
def bo.lh13 (F:Nat) (cZ:Int->Int->Int->Int->Int->Int->Hp->OA) (c_:Int->Int->Int->Int->Int->Int->Hp->OA) (ks:List Nat) (n:Nat) (tm:Tm) (H:Hp):OA:=match ks,tm 1,tm 2,tm 3,tm 8 with
 | [],(.int .i64 dl),(.bool pL),(.ptr lp jO),(.int .i64 ov)=>bo.l13 F cZ c_ n dl pL lp jO ov H
 | _,_,_,_,_=>none
theorem bo.lh13_inv {F:Nat} {cZ:Int->Int->Int->Int->Int->Int->Hp->OA} {c_:Int->Int->Int->Int->Int->Int->Hp->OA} {ks:List Nat} {n:Nat} {tm:Tm} {H:Hp} {r:AV×Hp} (h:bo.lh13 F cZ c_ ks n tm H=some r):∃ dl pL lp jO ov,ks=[]/\dZ tm [(1,(.int .i64 dl)),(2,(.bool pL)),(3,(.ptr lp jO)),(8,(.int .i64 ov))]/\bo.l13 F cZ c_ n dl pL lp jO ov H=some r:=by
 unfold bo.lh13 at h
 split at h
 ·exact ⟨_,_,_,_,_,rfl,⟨‹_›,‹_›,‹_›,‹_›,trivial⟩,h⟩
 ·cases h
def bo.lh213 (F:Nat) (cZ:Int->Int->Int->Int->Int->Int->Hp->OA) (c_:Int->Int->Int->Int->Int->Int->Hp->OA) (ks:List Nat) (n:Nat) (tm:Tm) (H:Hp):OA:=match ks,tm 1,tm 2,tm 3,tm 8,tm 9 with
 | [jN],(.int .i64 ml),(.bool mm),(.ptr ou qN),(.int .i64 kt),(.int .i64 ku)=>bo.l213 F cZ c_ (bo.l13 F cZ c_ jN) n ml mm ou qN kt ku H
 | _,_,_,_,_,_=>none
theorem bo.lh213_inv {F:Nat} {cZ:Int->Int->Int->Int->Int->Int->Hp->OA} {c_:Int->Int->Int->Int->Int->Int->Hp->OA} {ks:List Nat} {n:Nat} {tm:Tm} {H:Hp} {r:AV×Hp} (h:bo.lh213 F cZ c_ ks n tm H=some r):∃ jN ml mm ou qN kt ku,ks=[jN]/\dZ tm [(1,(.int .i64 ml)),(2,(.bool mm)),(3,(.ptr ou qN)),(8,(.int .i64 kt)),(9,(.int .i64 ku))]/\bo.l213 F cZ c_ (bo.l13 F cZ c_ jN) n ml mm ou qN kt ku H=some r:=by
 unfold bo.lh213 at h
 split at h
 ·exact ⟨_,_,_,_,_,_,_,rfl,⟨‹_›,‹_›,‹_›,‹_›,‹_›,trivial⟩,h⟩
 ·cases h
def bo.lh (F:Nat) (cZ:Int->Int->Int->Int->Int->Int->Hp->OA) (c_:Int->Int->Int->Int->Int->Int->Hp->OA) (p:Nat) (ks:List Nat) (n:Nat) (tm:Tm) (H:Hp):OA:=bif p.beq 213 then bo.lh213 F cZ c_ ks n tm H else (bif p.beq 13 then bo.lh13 F cZ c_ ks n tm H else (none))
def bo.mk (g:Sl->Int->Int->Bool->Hp->OA) (args:List AV) (H:Hp):OA:=match args with
 | [(.agg [(.sl aa),(.int .i64 ac)]),(.int .i64 af),(.bool cf)]=>g aa ac af cf H
 | _=>none
def bo.cs (F:Nat) (cZ:Int->Int->Int->Int->Int->Int->Hp->OA) (c_:Int->Int->Int->Int->Int->Int->Hp->OA):Cs:=[(63,ft.mk cZ),(64,fu.mk c_)]
theorem bo.loops (F:Nat) (cZ:Int->Int->Int->Int->Int->Int->Hp->OA) (c_:Int->Int->Int->Int->Int->Int->Hp->OA):LO (bh (bo.cs F cZ c_)) aW (bo.lh F cZ c_) F Tryz.f82:=
 (ae.rt (ae.lt (ae.rt (ae.block (ae.la (λn tm H r h=>by obtain ⟨dl,pL,lp,jO,ov,hks,e,h⟩:=bo.lh13_inv (show bo.lh13 F cZ c_ [] n tm H=some r from h);obtain _ | k13:=n;cases h;exact ⟨_,rfl,by rw [<- eb e];exact Eq.trans (by kernel_rfl) h⟩) λk13=>(ae.rt (ae.lt (ae.block (ae.rt (ae.block (ae.la (λn tm H r h=>by obtain ⟨jN,ml,mm,ou,qN,kt,ku,hks,e,h⟩:=bo.lh213_inv (show bo.lh213 F cZ c_ [k13] n tm H=some r from h);cases hks;obtain _ | k213:=n;cases h;exact ⟨_,rfl,by rw [<- eb e];exact Eq.trans (by kernel_rfl) h⟩) λk213=>ae.no)))))))))))
theorem bo.eqX (F:Nat) (cZ:Int->Int->Int->Int->Int->Int->Hp->OA) (c_:Int->Int->Int->Int->Int->Int->Hp->OA) (aa:Sl) (ac:Int) (af:Int) (cf:Bool) (H:Hp):EX (bh (bo.cs F cZ c_)) aW (bo.lh F cZ c_) F Tryz.f82 [(.agg [(.sl aa),(.int .i64 ac)]),(.int .i64 af),(.bool cf)] H=bo.twX F cZ c_ aa ac af cf H:=by kernel_rfl
theorem bo.k (F:Nat):Ok Tryz.prog 82 (bo.mk (bo.tw F)):=by
 intro args H v H' h
 unfold bo.mk at h
 split at h
 ·exact okT (TB:=aW) Tryz.func82 (bg (ft.k F) (bg (fu.k F) ca)) (bo.loops F (ft.tw F) (fu.tw F)) ((bo.eqX F (ft.tw F) (fu.tw F) _ _ _ _ H).trans h) (by kernel_rfl)
 ·cases h
def gF.twX (F:Nat) (cZ:Int->Int->Int->Int->Int->Int->Hp->OA) (c_:Int->Int->Int->Int->Int->Int->Hp->OA) (eP:Sl->Int->Int->Bool->Hp->OA) (aa:Sl) (ac:Int) (af:Int) (H:Hp):OA:=(Hp.new H [(.sl aa),(.int .i64 ac)]).bind λH4=>(Hp.ldSl H4 H.length 0).bind λs5=>(Sl.idx s5 (IntKind.i64.wrap (Int.tdiv af 4)) 5).bind λp6=>(Hp.ldI H4 .i64 p6.1 p6.2).bind λn7=>(Hp.ldI H4 .i64 p6.1 (p6.2+1)).bind λn8=>(Hp.ldI H4 .i64 p6.1 (p6.2+2)).bind λn9=>(Hp.ldI H4 .i64 p6.1 (p6.2+3)).bind λn10=>(Hp.ldI H4 .i64 p6.1 (p6.2+4)).bind λn11=>(Hp.new H4 [.int .i64 0,.int .i64 0,.int .i64 0,.int .i64 0,.int .i64 0]).bind λH12=>(Hp.st H12 H4.length 0 (.int .i64 n7)).bind λH13=>(Hp.st H13 H4.length (0+1) (.int .i64 n8)).bind λH14=>(Hp.st H14 H4.length (0+1+1) (.int .i64 n9)).bind λH15=>(Hp.st H15 H4.length (0+1+1+1) (.int .i64 n10)).bind λH16=>(Hp.st H16 H4.length (0+1+1+1+1) (.int .i64 n11)).bind λH17=>(Hp.ldSl H17 H.length 0).bind λs18=>(Hp.ldI H17 .i64 H.length (0+1)).bind λn19=>(Hp.ldI H17 .i64 H4.length 0).bind λn20=>(Hp.ldI H17 .i64 H4.length (0+1)).bind λn21=>(Hp.ldI H17 .i64 H4.length (0+2)).bind λn22=>(Hp.ldI H17 .i64 H4.length (0+3)).bind λn23=>(Hp.ldI H17 .i64 H4.length (0+4)).bind λn24=>(cZ n20 n21 n22 n23 n24 (Int.tmod (IntKind.i64.wrap ((Int.tmod af 4)+1)) 4) H17).bind λr25=>((r25.1).asI .i64).bind λn26=>(if bp H17 r25.2 then ((Hp.ldI r25.2 .i64 H4.length 0).bind λn27=>(Hp.ldI r25.2 .i64 H4.length (0+1)).bind λn28=>(Hp.ldI r25.2 .i64 H4.length (0+2)).bind λn29=>(Hp.ldI r25.2 .i64 H4.length (0+3)).bind λn30=>(Hp.ldI r25.2 .i64 H4.length (0+4)).bind λn31=>(c_ n27 n28 n29 n30 n31 (Int.tmod (IntKind.i64.wrap ((Int.tmod af 4)+1)) 4) r25.2).bind λr32=>((r32.1).asB).bind λb33=>(if bp r25.2 r32.2 then ((eP s18 n19 n26 (!b33) r32.2).bind λr34=>((r34.1).asTup 2).bind λl35=>(l35[0]?).bind λv36=>((v36).asI .i64).bind λn37=>(l35[1]?).bind λv38=>((v38).asI .i64).bind λn39=>some ((.int .i64 (IntKind.i64.wrap ((IntKind.i64.wrap (4 * n37))+n39))),r34.2)) else none)) else none)
def gF.tw (F:Nat) (aa:Sl) (ac:Int) (af:Int) (H:Hp):OA:=gF.twX F (ft.tw F) (fu.tw F) (bo.tw F) aa ac af H
def gF.pn:Nat->List Nat:=eU [(3,[8])]
def gF.tb:Nat->List (List Nat):=eU [(3,[[],[],[],[1,2],[],[],[1,2,3,4,5],[1,2,3,4,5,6],[0,1,2,3,4,5,6,7],[0,1,2,3,4,5,6,7,8],[0,1,2,3,4,5,6,7,8,9],[0,1,2,3,4,5,6,7,8,9],[0,1,2,3,4,5,6,7,8,9,10],[0,1,2,3,4,5,6,7,8,9,10,11,12]])]
def gF.mk (g:Sl->Int->Int->Hp->OA) (args:List AV) (H:Hp):OA:=match args with
 | [(.agg [(.sl aa),(.int .i64 ac)]),(.int .i64 af)]=>g aa ac af H
 | _=>none
def gF.cs (F:Nat) (cZ:Int->Int->Int->Int->Int->Int->Hp->OA) (c_:Int->Int->Int->Int->Int->Int->Hp->OA) (eP:Sl->Int->Int->Bool->Hp->OA):Cs:=[(63,ft.mk cZ),(64,fu.mk c_),(82,bo.mk eP)]
theorem gF.eqX (F:Nat) (cZ:Int->Int->Int->Int->Int->Int->Hp->OA) (c_:Int->Int->Int->Int->Int->Int->Hp->OA) (eP:Sl->Int->Int->Bool->Hp->OA) (aa:Sl) (ac:Int) (af:Int) (H:Hp):EX (bh (gF.cs F cZ c_ eP)) gF.pn lh0 F Tryz.f65 [(.agg [(.sl aa),(.int .i64 ac)]),(.int .i64 af)] H=gF.twX F cZ c_ eP aa ac af H:=by kernel_rfl
theorem gF.k (F:Nat):Ok Tryz.prog 65 (gF.mk (gF.tw F)):=by
 intro args H v H' h
 unfold gF.mk at h
 split at h
 ·exact okT (TB:=gF.tb) Tryz.func65 (bg (ft.k F) (bg (fu.k F) (bg (bo.k F) ca))) ae.no ((gF.eqX F (ft.tw F) (fu.tw F) (bo.tw F) _ _ _ H).trans h) (by kernel_rfl)
 ·cases h
def bC.j4 (F:Nat) (gB:Sl->Int->Int->Hp->OA) (C61_:Nat->Nat->Sl->Sl->Int->Hp->OA) (CK:Nat) (Yc:Nat) (Yd:Sl) (Ye:Sl) (mn:Int) (H108:Hp):OA:=C61_ CK Yc Yd Ye (IntKind.i64.wrap (mn+1)) H108
def bC.j5 (F:Nat) (gB:Sl->Int->Int->Hp->OA) (C61_:Nat->Nat->Sl->Sl->Int->Hp->OA) (CL:Nat) (Yf:Nat) (Yg:Sl) (Yh:Sl) (xh:Int) (H164:Hp):OA:=C61_ CL Yf Yg Yh (IntKind.i64.wrap (xh+1)) H164
def bC.j6 (F:Nat) (gB:Sl->Int->Int->Hp->OA) (C61_:Nat->Nat->Sl->Sl->Int->Hp->OA) (CN:Nat) (pK:Nat) (ph:Sl) (xi:Sl) (xj:Int) (tz:Sl) (H147:Hp):OA:=(Hp.new H147 [(.sl tz)]).bind λH148=>(Sl.row H148 (⟨some (H147.length,0),1,.ex 1⟩:Sl) 1).bind λxs150=>(Hp.app H148 1 24 ph (⟨some (H147.length,0),1,.ex 1⟩:Sl).n xs150).bind λa149=>bC.j5 F gB C61_ CN pK a149.1 xi xj a149.2
def bC.l7853 (F:Nat) (gB:Sl->Int->Int->Hp->OA) (C61_:Nat->Nat->Sl->Sl->Int->Hp->OA):Nat->Nat->Nat->Sl->Sl->Int->Sl->Int->Hp->OA
 | 0,_,_,_,_,_,_,_,_=>none
 | Yi+1,pi,ru,tB,rv,ox,jM,lq,H122=>(Sl.idx rv lq 1).bind λp165=>(Hp.ldB H122 p165.1 p165.2).bind λb166=>(bif (!b166) then ((Sl.idx rv lq 1).bind λp167=>(Hp.st H122 p167.1 p167.2 (.bool true)).bind λH168=>(Hp.new H168 [(.int .i64 lq)]).bind λH169=>(Sl.row H169 (⟨some (H168.length,0),1,.ex 1⟩:Sl) 1).bind λxs171=>(Hp.app H169 1 8 jM (⟨some (H168.length,0),1,.ex 1⟩:Sl).n xs171).bind λa170=>(Hp.ldSl a170.2 pi ru).bind λs172=>(Hp.ldI a170.2 .i64 pi (ru+1)).bind λn173=>(gB s172 n173 lq a170.2).bind λr174=>((r174.1).asI .i64).bind λn175=>bC.l7853 F gB C61_ Yi pi ru tB rv ox a170.1 n175 r174.2) else (bC.j6 F gB C61_ pi ru tB rv ox jM H122))
termination_by structural n=>n
def bC.l61 (F:Nat) (gB:Sl->Int->Int->Hp->OA) :Nat->Nat->Nat->Sl->Sl->Int->Hp->OA
 | 0,_,_,_,_,_,_=>none
 | eC+1,jv,eW,dP,mi,iW,H15=>(bif (decide (iW<(mi.n:Int))) then ((Sl.idx mi iW 1).bind λp96=>(Hp.ldB H15 p96.1 p96.2).bind λb97=>(bif b97 then (bC.j4 F gB (bC.l61 F gB eC) jv eW dP mi iW H15) else ((Hp.new H15 []).bind λH109=>bC.l7853 F gB (bC.l61 F gB eC) F jv eW dP mi iW (⟨some (H15.length,0),0,.ex 0⟩:Sl) iW H109))) else (some ((.sl dP),H15)))
termination_by structural n=>n
def bC.twX (F:Nat) (gB:Sl->Int->Int->Hp->OA) (aa:Sl) (ac:Int) (H:Hp):OA:=(Hp.new H [(.sl aa),(.int .i64 ac)]).bind λH3=>(Hp.new H3 []).bind λH4=>(Hp.ldSl H4 H.length 0).bind λs5=>(Hp.mk H4 [.bool false] 1 (IntKind.i64.wrap (4 * (s5.n:Int))) (IntKind.i64.wrap (4 * (s5.n:Int)))).bind λm6=>bC.l61 F gB F H.length 0 (⟨some (H3.length,0),0,.ex 0⟩:Sl) m6.1 0 m6.2
def bC.tw (F:Nat) (aa:Sl) (ac:Int) (H:Hp):OA:=bC.twX F (gF.tw F) aa ac H
def bC.lh61 (F:Nat) (gB:Sl->Int->Int->Hp->OA) (ks:List Nat) (n:Nat) (tm:Tm) (H:Hp):OA:=match ks,tm 1,tm 3,tm 4,tm 5 with
 | [],(.ptr jv eW),(.sl dP),(.sl mi),(.int .i64 iW)=>bC.l61 F gB n jv eW dP mi iW H
 | _,_,_,_,_=>none
theorem bC.lh61_inv {F:Nat} {gB:Sl->Int->Int->Hp->OA} {ks:List Nat} {n:Nat} {tm:Tm} {H:Hp} {r:AV×Hp} (h:bC.lh61 F gB ks n tm H=some r):∃ jv eW dP mi iW,ks=[]/\dZ tm [(1,(.ptr jv eW)),(3,(.sl dP)),(4,(.sl mi)),(5,(.int .i64 iW))]/\bC.l61 F gB n jv eW dP mi iW H=some r:=by
 unfold bC.lh61 at h
 split at h
 ·exact ⟨_,_,_,_,_,rfl,⟨‹_›,‹_›,‹_›,‹_›,trivial⟩,h⟩
 ·cases h
def bC.lh7853 (F:Nat) (gB:Sl->Int->Int->Hp->OA) (ks:List Nat) (n:Nat) (tm:Tm) (H:Hp):OA:=match ks,tm 1,tm 3,tm 4,tm 5,tm 6,tm 7 with
 | [eC],(.ptr pi ru),(.sl tB),(.sl rv),(.int .i64 ox),(.sl jM),(.int .i64 lq)=>bC.l7853 F gB (bC.l61 F gB eC) n pi ru tB rv ox jM lq H
 | _,_,_,_,_,_,_=>none
theorem bC.lh7853_inv {F:Nat} {gB:Sl->Int->Int->Hp->OA} {ks:List Nat} {n:Nat} {tm:Tm} {H:Hp} {r:AV×Hp} (h:bC.lh7853 F gB ks n tm H=some r):∃ eC pi ru tB rv ox jM lq,ks=[eC]/\dZ tm [(1,(.ptr pi ru)),(3,(.sl tB)),(4,(.sl rv)),(5,(.int .i64 ox)),(6,(.sl jM)),(7,(.int .i64 lq))]/\bC.l7853 F gB (bC.l61 F gB eC) n pi ru tB rv ox jM lq H=some r:=by
 unfold bC.lh7853 at h
 split at h
 ·exact ⟨_,_,_,_,_,_,_,_,rfl,⟨‹_›,‹_›,‹_›,‹_›,‹_›,‹_›,trivial⟩,h⟩
 ·cases h
def bC.lh (F:Nat) (gB:Sl->Int->Int->Hp->OA) (p:Nat) (ks:List Nat) (n:Nat) (tm:Tm) (H:Hp):OA:=bif p.beq 7853 then bC.lh7853 F gB ks n tm H else (bif p.beq 61 then bC.lh61 F gB ks n tm H else (none))
def bC.mk (g:Sl->Int->Hp->OA) (args:List AV) (H:Hp):OA:=match args with
 | [(.agg [(.sl aa),(.int .i64 ac)])]=>g aa ac H
 | _=>none
def bC.cs (F:Nat) (gB:Sl->Int->Int->Hp->OA):Cs:=[(65,gF.mk gB)]
theorem bC.loops (F:Nat) (gB:Sl->Int->Int->Hp->OA):LO (bh (bC.cs F gB)) aW (bC.lh F gB) F Tryz.f42:=
 (ae.rt (ae.rt (ae.rt (ae.lt (ae.rt (ae.block (ae.la (λn tm H r h=>by obtain ⟨jv,eW,dP,mi,iW,hks,e,h⟩:=bC.lh61_inv (show bC.lh61 F gB [] n tm H=some r from h);obtain _ | k61:=n;cases h;exact ⟨_,rfl,by rw [<- eb e];exact Eq.trans (by kernel_rfl) h⟩) λk61=>(ae.rt (ae.lt (ae.block (ae.rt (ae.rt (ae.lt (ae.rt (ae.block (ae.la (λn tm H r h=>by obtain ⟨eC,pi,ru,tB,rv,ox,jM,lq,hks,e,h⟩:=bC.lh7853_inv (show bC.lh7853 F gB [k61] n tm H=some r from h);cases hks;obtain _ | k7853:=n;cases h;exact ⟨_,rfl,by rw [<- eb e];exact Eq.trans (by kernel_rfl) h⟩) λk7853=>ae.no))))))))))))))))
theorem bC.eqX (F:Nat) (gB:Sl->Int->Int->Hp->OA) (aa:Sl) (ac:Int) (H:Hp):EX (bh (bC.cs F gB)) aW (bC.lh F gB) F Tryz.f42 [(.agg [(.sl aa),(.int .i64 ac)])] H=bC.twX F gB aa ac H:=by kernel_rfl
theorem bC.k (F:Nat):Ok Tryz.prog 42 (bC.mk (bC.tw F)):=by
 intro args H v H' h
 unfold bC.mk at h
 split at h
 ·exact okT (TB:=aW) Tryz.func42 (bg (gF.k F) ca) (bC.loops F (gF.tw F)) ((bC.eqX F (gF.tw F) _ _ H).trans h) (by kernel_rfl)
 ·cases h
def aP.j6 (F:Nat) (eP:Sl->Int->Int->Bool->Hp->OA) (C61_:Nat->Nat->Sl->Int->Hp->OA) (CO:Nat) (Yj:Nat) (Yk:Sl) (xk:Int) (H243:Hp):OA:=C61_ CO Yj Yk (IntKind.i64.wrap (xk+1)) H243
def aP.j7 (F:Nat) (eP:Sl->Int->Int->Bool->Hp->OA) (C61_:Nat->Nat->Sl->Int->Hp->OA) (CP:Nat) (Yl:Nat) (xm:Sl) (tC:Int) (H226:Hp):OA:=aP.j6 F eP C61_ CP Yl xm tC H226
def aP.j8 (F:Nat) (eP:Sl->Int->Int->Bool->Hp->OA) (C7855_:Nat->Nat->Sl->Int->Int->Int->Int->Hp->OA) (CQ:Nat) (Ym:Nat) (Yn:Sl) (xn:Int) (xo:Int) (xp:Int) (xq:Int) (H265:Hp):OA:=C7855_ CQ Ym Yn xn xo xp (IntKind.i64.wrap (xq+1)) H265
def aP.l7855 (F:Nat) (eP:Sl->Int->Int->Bool->Hp->OA) (C61_:Nat->Nat->Sl->Int->Hp->OA):Nat->Nat->Nat->Sl->Int->Int->Int->Int->Hp->OA
 | 0,_,_,_,_,_,_,_,_=>none
 | PC+1,pM,si,qr,nz,kv,kw,lr,H187=>(bif (decide (lr<(qr.n:Int))) then ((Sl.idx qr lr 1).bind λp244=>(Hp.ldI H187 .i64 p244.1 p244.2).bind λn245=>(bif (n245==(if kw>kv then kw else kv)) then ((Sl.idx qr lr 1).bind λp246=>(Hp.st H187 p246.1 p246.2 (.int .i64 (if kw<kv then kw else kv))).bind λH247=>aP.j8 F eP (aP.l7855 F eP C61_ PC) pM si qr nz kv kw lr H247) else (aP.j8 F eP (aP.l7855 F eP C61_ PC) pM si qr nz kv kw lr H187))) else (aP.j7 F eP C61_ pM si qr nz H187))
termination_by structural n=>n
def aP.l61 (F:Nat) (eP:Sl->Int->Int->Bool->Hp->OA) :Nat->Nat->Nat->Sl->Int->Hp->OA
 | 0,_,_,_,_,_=>none
 | eC+1,ja,lu,rx,gh,H35=>(Hp.ldSl H35 ja lu).bind λs151=>(bif (decide (gh<(IntKind.i64.wrap (2 * (s151.n:Int))))) then ((Hp.ldSl H35 ja lu).bind λs152=>(Hp.ldI H35 .i64 ja (lu+1)).bind λn153=>(eP s152 n153 gh true H35).bind λr154=>((r154.1).asTup 2).bind λl155=>(l155[0]?).bind λv156=>((v156).asI .i64).bind λn157=>(l155[1]?).bind λv158=>((v158).asI .i64).bind λn159=>(Hp.ldSl r154.2 ja lu).bind λs160=>(Hp.ldI r154.2 .i64 ja (lu+1)).bind λn161=>(eP s160 n161 gh false r154.2).bind λr162=>((r162.1).asTup 2).bind λl163=>(l163[0]?).bind λv164=>((v164).asI .i64).bind λn165=>(l163[1]?).bind λv166=>((v166).asI .i64).bind λn167=>(Sl.idx rx n157 1).bind λp168=>(Hp.ldI r162.2 .i64 p168.1 p168.2).bind λn169=>(Sl.idx rx n165 1).bind λp170=>(Hp.ldI r162.2 .i64 p170.1 p170.2).bind λn171=>aP.l7855 F eP (aP.l61 F eP eC) F ja lu rx gh n169 n171 0 r162.2) else (some ((.sl rx),H35)))
termination_by structural n=>n
def aP.j9 (F:Nat) (eP:Sl->Int->Int->Bool->Hp->OA) (CS:Nat) (xr:Nat) (Yo:Sl) (H25:Hp):OA:=aP.l61 F eP F CS xr Yo 0 H25
def aP.l29 (F:Nat) (eP:Sl->Int->Int->Bool->Hp->OA) :Nat->Nat->Nat->Sl->Int->Hp->OA
 | 0,_,_,_,_,_=>none
 | fj+1,jw,dl,lp,jn,H12=>(Hp.ldSl H12 jw dl).bind λs266=>(bif (decide (jn<(s266.n:Int))) then ((Hp.new H12 [(.int .i64 jn)]).bind λH267=>(Sl.row H267 (⟨some (H12.length,0),1,.ex 1⟩:Sl) 1).bind λxs269=>(Hp.app H267 1 8 lp (⟨some (H12.length,0),1,.ex 1⟩:Sl).n xs269).bind λa268=>aP.l29 F eP fj jw dl a268.1 (IntKind.i64.wrap (jn+1)) a268.2) else (aP.j9 F eP jw dl lp H12))
termination_by structural n=>n
def aP.twX (F:Nat) (eP:Sl->Int->Int->Bool->Hp->OA) (aa:Sl) (ac:Int) (H:Hp):OA:=(Hp.new H [(.sl aa),(.int .i64 ac)]).bind λH3=>(Hp.new H3 []).bind λH4=>aP.l29 F eP F H.length 0 (⟨some (H3.length,0),0,.ex 0⟩:Sl) 0 H4
def aP.tw (F:Nat) (aa:Sl) (ac:Int) (H:Hp):OA:=aP.twX F (bo.tw F) aa ac H
def aP.lh29 (F:Nat) (eP:Sl->Int->Int->Bool->Hp->OA) (ks:List Nat) (n:Nat) (tm:Tm) (H:Hp):OA:=match ks,tm 1,tm 3,tm 4 with
 | [],(.ptr jw dl),(.sl lp),(.int .i64 jn)=>aP.l29 F eP n jw dl lp jn H
 | _,_,_,_=>none
theorem aP.lh29_inv {F:Nat} {eP:Sl->Int->Int->Bool->Hp->OA} {ks:List Nat} {n:Nat} {tm:Tm} {H:Hp} {r:AV×Hp} (h:aP.lh29 F eP ks n tm H=some r):∃ jw dl lp jn,ks=[]/\dZ tm [(1,(.ptr jw dl)),(3,(.sl lp)),(4,(.int .i64 jn))]/\aP.l29 F eP n jw dl lp jn H=some r:=by
 unfold aP.lh29 at h
 split at h
 ·exact ⟨_,_,_,_,rfl,⟨‹_›,‹_›,‹_›,trivial⟩,h⟩
 ·cases h
def aP.lh61 (F:Nat) (eP:Sl->Int->Int->Bool->Hp->OA) (ks:List Nat) (n:Nat) (tm:Tm) (H:Hp):OA:=match ks,tm 1,tm 3,tm 5 with
 | [],(.ptr ja lu),(.sl rx),(.int .i64 gh)=>aP.l61 F eP n ja lu rx gh H
 | _,_,_,_=>none
theorem aP.lh61_inv {F:Nat} {eP:Sl->Int->Int->Bool->Hp->OA} {ks:List Nat} {n:Nat} {tm:Tm} {H:Hp} {r:AV×Hp} (h:aP.lh61 F eP ks n tm H=some r):∃ ja lu rx gh,ks=[]/\dZ tm [(1,(.ptr ja lu)),(3,(.sl rx)),(5,(.int .i64 gh))]/\aP.l61 F eP n ja lu rx gh H=some r:=by
 unfold aP.lh61 at h
 split at h
 ·exact ⟨_,_,_,_,rfl,⟨‹_›,‹_›,‹_›,trivial⟩,h⟩
 ·cases h
def aP.lh7855 (F:Nat) (eP:Sl->Int->Int->Bool->Hp->OA) (ks:List Nat) (n:Nat) (tm:Tm) (H:Hp):OA:=match ks,tm 1,tm 3,tm 5,tm 10,tm 11,tm 12 with
 | [eC],(.ptr pM si),(.sl qr),(.int .i64 nz),(.int .i64 kv),(.int .i64 kw),(.int .i64 lr)=>aP.l7855 F eP (aP.l61 F eP eC) n pM si qr nz kv kw lr H
 | _,_,_,_,_,_,_=>none
theorem aP.lh7855_inv {F:Nat} {eP:Sl->Int->Int->Bool->Hp->OA} {ks:List Nat} {n:Nat} {tm:Tm} {H:Hp} {r:AV×Hp} (h:aP.lh7855 F eP ks n tm H=some r):∃ eC pM si qr nz kv kw lr,ks=[eC]/\dZ tm [(1,(.ptr pM si)),(3,(.sl qr)),(5,(.int .i64 nz)),(10,(.int .i64 kv)),(11,(.int .i64 kw)),(12,(.int .i64 lr))]/\aP.l7855 F eP (aP.l61 F eP eC) n pM si qr nz kv kw lr H=some r:=by
 unfold aP.lh7855 at h
 split at h
 ·exact ⟨_,_,_,_,_,_,_,_,rfl,⟨‹_›,‹_›,‹_›,‹_›,‹_›,‹_›,trivial⟩,h⟩
 ·cases h
def aP.lh (F:Nat) (eP:Sl->Int->Int->Bool->Hp->OA) (p:Nat) (ks:List Nat) (n:Nat) (tm:Tm) (H:Hp):OA:=bif p.beq 7855 then aP.lh7855 F eP ks n tm H else (bif p.beq 61 then aP.lh61 F eP ks n tm H else (bif p.beq 29 then aP.lh29 F eP ks n tm H else (none)))
def aP.tb:Nat->List (List Nat):=eU [(11,[[],[],[0,1],[0,1,2],[],[],[4,5],[4,5,6],[0,1,2,3],[0,1,2,3,4,5,6,7,8]])]
def aP.mk (g:Sl->Int->Hp->OA) (args:List AV) (H:Hp):OA:=match args with
 | [(.agg [(.sl aa),(.int .i64 ac)])]=>g aa ac H
 | _=>none
def aP.cs (F:Nat) (eP:Sl->Int->Int->Bool->Hp->OA):Cs:=[(82,bo.mk eP)]
theorem aP.loops (F:Nat) (eP:Sl->Int->Int->Bool->Hp->OA):LO (bh (aP.cs F eP)) aW (aP.lh F eP) F Tryz.f66:=
 (ae.rt (ae.rt (ae.seq (ae.rt (ae.block (ae.la (λn tm H r h=>by obtain ⟨jw,dl,lp,jn,hks,e,h⟩:=aP.lh29_inv (show aP.lh29 F eP [] n tm H=some r from h);obtain _ | k29:=n;cases h;exact ⟨_,rfl,by rw [<- eb e];exact Eq.trans (by kernel_rfl) h⟩) λk29=>ae.no))) (ae.lt (ae.rt (ae.block (ae.la (λn tm H r h=>by obtain ⟨ja,lu,rx,gh,hks,e,h⟩:=aP.lh61_inv (show aP.lh61 F eP [] n tm H=some r from h);obtain _ | k61:=n;cases h;exact ⟨_,rfl,by rw [<- eb e];exact Eq.trans (by kernel_rfl) h⟩) λk61=>(ae.rt (ae.lt (ae.block (ae.rt (ae.rt (ae.rt (ae.rt (ae.block (ae.la (λn tm H r h=>by obtain ⟨eC,pM,si,qr,nz,kv,kw,lr,hks,e,h⟩:=aP.lh7855_inv (show aP.lh7855 F eP [k61] n tm H=some r from h);cases hks;obtain _ | k7855:=n;cases h;exact ⟨_,rfl,by rw [<- eb e];exact Eq.trans (by kernel_rfl) h⟩) λk7855=>ae.no))))))))))))))))
theorem aP.eqX (F:Nat) (eP:Sl->Int->Int->Bool->Hp->OA) (aa:Sl) (ac:Int) (H:Hp):EX (bh (aP.cs F eP)) aW (aP.lh F eP) F Tryz.f66 [(.agg [(.sl aa),(.int .i64 ac)])] H=aP.twX F eP aa ac H:=by kernel_rfl
theorem aP.k (F:Nat):Ok Tryz.prog 66 (aP.mk (aP.tw F)):=by
 intro args H v H' h
 unfold aP.mk at h
 split at h
 ·exact okT (TB:=aP.tb) Tryz.func66 (bg (bo.k F) ca) (aP.loops F (bo.tw F)) ((aP.eqX F (bo.tw F) _ _ H).trans h) (by kernel_rfl)
 ·cases h
def dd.j2 (F:Nat) (jU:Sl->Int->Hp->OA) (C61_:Int->Sl->Int->Hp->OA) (xt:Int) (Yp:Sl) (xu:Int) (H42:Hp):OA:=C61_ xt Yp (IntKind.i64.wrap (xu+1)) H42
def dd.l61 (F:Nat) (jU:Sl->Int->Hp->OA) :Nat->Int->Sl->Int->Hp->OA
 | 0,_,_,_,_=>none
 | eC+1,cJ,fm,eX,H16=>(bif (decide (eX<(fm.n:Int))) then ((Sl.idx fm eX 1).bind λp30=>(Hp.ldI H16 .i64 p30.1 p30.2).bind λn31=>(bif (n31==eX) then (dd.j2 F jU (dd.l61 F jU eC) (IntKind.i64.wrap (cJ+1)) fm eX H16) else (dd.j2 F jU (dd.l61 F jU eC) cJ fm eX H16))) else (some ((.int .i64 cJ),H16)))
def dd.twX (F:Nat) (jU:Sl->Int->Hp->OA) (aa:Sl) (ac:Int) (H:Hp):OA:=(Hp.new H [(.sl aa),(.int .i64 ac)]).bind λH3=>(Hp.ldSl H3 H.length 0).bind λs4=>(Hp.ldI H3 .i64 H.length (0+1)).bind λn5=>(jU s4 n5 H3).bind λr6=>((r6.1).asSl).bind λs7=>dd.l61 F jU F 0 s7 0 r6.2
def dd.tw (F:Nat) (aa:Sl) (ac:Int) (H:Hp):OA:=dd.twX F (aP.tw F) aa ac H
def dd.lh61 (F:Nat) (jU:Sl->Int->Hp->OA) (ks:List Nat) (n:Nat) (tm:Tm) (H:Hp):OA:=match ks,tm 3,tm 4,tm 5 with
 | [],(.int .i64 cJ),(.sl fm),(.int .i64 eX)=>dd.l61 F jU n cJ fm eX H
 | _,_,_,_=>none
theorem dd.lh61_inv {F:Nat} {jU:Sl->Int->Hp->OA} {ks:List Nat} {n:Nat} {tm:Tm} {H:Hp} {r:AV×Hp} (h:dd.lh61 F jU ks n tm H=some r):∃ cJ fm eX,ks=[]/\dZ tm [(3,(.int .i64 cJ)),(4,(.sl fm)),(5,(.int .i64 eX))]/\dd.l61 F jU n cJ fm eX H=some r:=by
 unfold dd.lh61 at h
 split at h
 ·exact ⟨_,_,_,rfl,⟨‹_›,‹_›,‹_›,trivial⟩,h⟩
 ·cases h
def dd.lh (F:Nat) (jU:Sl->Int->Hp->OA) (p:Nat) (ks:List Nat) (n:Nat) (tm:Tm) (H:Hp):OA:=bif p.beq 61 then dd.lh61 F jU ks n tm H else (none)
def dd.mk (g:Sl->Int->Hp->OA) (args:List AV) (H:Hp):OA:=match args with
 | [(.agg [(.sl aa),(.int .i64 ac)])]=>g aa ac H
 | _=>none
def dd.cs (F:Nat) (jU:Sl->Int->Hp->OA):Cs:=[(66,aP.mk jU)]
theorem dd.loops (F:Nat) (jU:Sl->Int->Hp->OA):LO (bh (dd.cs F jU)) aW (dd.lh F jU) F Tryz.f43:=
 (ae.rt (ae.rt (ae.rt (ae.lt (ae.rt (ae.block (ae.la (λn tm H r h=>by obtain ⟨cJ,fm,eX,hks,e,h⟩:=dd.lh61_inv (show dd.lh61 F jU [] n tm H=some r from h);obtain _ | k61:=n;cases h;exact ⟨_,rfl,by rw [<- eb e];exact Eq.trans (by kernel_rfl) h⟩) λk61=>ae.no)))))))
theorem dd.eqX (F:Nat) (jU:Sl->Int->Hp->OA) (aa:Sl) (ac:Int) (H:Hp):EX (bh (dd.cs F jU)) aW (dd.lh F jU) F Tryz.f43 [(.agg [(.sl aa),(.int .i64 ac)])] H=dd.twX F jU aa ac H:=by kernel_rfl
theorem dd.k (F:Nat):Ok Tryz.prog 43 (dd.mk (dd.tw F)):=by
 intro args H v H' h
 unfold dd.mk at h
 split at h
 ·exact okT (TB:=aW) Tryz.func43 (bg (aP.k F) ca) (dd.loops F (aP.tw F)) ((dd.eqX F (aP.tw F) _ _ H).trans h) (by kernel_rfl)
 ·cases h
def gR.twX (F:Nat) (ec:Int->Int->Int->Hp->OA) (xv:Sl->Int->Hp->OA) (xw:Sl->Int->Hp->OA) (xx:Sl->Int->Hp->OA) (aa:Sl) (ac:Int) (H:Hp):OA:=(Hp.new H [(.sl aa),(.int .i64 ac)]).bind λH3=>(Hp.ldSl H3 H.length 0).bind λs4=>(bif (decide ((s4.n:Int)>10)) then (some ((.bool false),H3)) else ((Hp.ldI H3 .i64 H.length 1).bind λn5=>(ec n5 0 8 H3).bind λr6=>((r6.1).asB).bind λb7=>(bif (!b7) then (some ((.bool false),r6.2)) else ((Hp.ldSl r6.2 H.length 0).bind λs8=>(Hp.ldI r6.2 .i64 H.length (0+1)).bind λn9=>(xv s8 n9 r6.2).bind λr10=>((r10.1).asB).bind λb11=>(bif (!b11) then (some ((.bool false),r10.2)) else ((Hp.ldSl r10.2 H.length 0).bind λs12=>(Hp.ldI r10.2 .i64 H.length (0+1)).bind λn13=>(xw s12 n13 r10.2).bind λr14=>((r14.1).asSl).bind λs15=>(if bp r10.2 r14.2 then ((Hp.ldSl r14.2 H.length 0).bind λs16=>(Hp.ldSl r14.2 H.length 0).bind λs17=>(Hp.ldI r14.2 .i64 H.length (0+1)).bind λn18=>(xx s17 n18 r14.2).bind λr19=>((r19.1).asI .i64).bind λn20=>(if bp r14.2 r19.2 then (some ((.bool ((s15.n:Int)==(IntKind.i64.wrap ((s16.n:Int)+(IntKind.i64.wrap (2 * n20)))))),r19.2)) else none)) else none)))))))
def gR.tw (F:Nat) (aa:Sl) (ac:Int) (H:Hp):OA:=gR.twX F (fq.tw F) (bW.tw F) (bC.tw F) (dd.tw F) aa ac H
def gR.tb:Nat->List (List Nat):=eU [(3,[[],[0],[0,1],[],[3],[3,4],[],[0,1,6],[0,1,6,7],[0,1,3,4,5,6,7,8],[0,1,2,3,4,5,6,7,8,9],[0,1,2,3,4,5,6,7,8,9,10]])]
def gR.mk (g:Sl->Int->Hp->OA) (args:List AV) (H:Hp):OA:=match args with
 | [(.agg [(.sl aa),(.int .i64 ac)])]=>g aa ac H
 | _=>none
def gR.cs (F:Nat) (ec:Int->Int->Int->Hp->OA) (xv:Sl->Int->Hp->OA) (xw:Sl->Int->Hp->OA) (xx:Sl->Int->Hp->OA):Cs:=[(18,fq.mk ec),(41,bW.mk xv),(42,bC.mk xw),(43,dd.mk xx)]
theorem gR.eqX (F:Nat) (ec:Int->Int->Int->Hp->OA) (xv:Sl->Int->Hp->OA) (xw:Sl->Int->Hp->OA) (xx:Sl->Int->Hp->OA) (aa:Sl) (ac:Int) (H:Hp):EX (bh (gR.cs F ec xv xw xx)) aW lh0 F Tryz.f17 [(.agg [(.sl aa),(.int .i64 ac)])] H=gR.twX F ec xv xw xx aa ac H:=by kernel_rfl
theorem gR.k (F:Nat):Ok Tryz.prog 17 (gR.mk (gR.tw F)):=by
 intro args H v H' h
 unfold gR.mk at h
 split at h
 ·exact okT (TB:=gR.tb) Tryz.func17 (bg (fq.k F) (bg (bW.k F) (bg (bC.k F) (bg (dd.k F) ca)))) ae.no ((gR.eqX F (fq.tw F) (bW.tw F) (bC.tw F) (dd.tw F) _ _ H).trans h) (by kernel_rfl)
 ·cases h
def aB.j6 (F:Nat) (CT:Nat) (Yq:Nat) (Yr:Sl) (xy:Int) (H211:Hp):OA:=(Hp.ldI H211 .i64 CT (Yq+1)).bind λn212=>some ((.tup [(.sl Yr),(.int .i64 (IntKind.i64.wrap (xy+n212)))]),H211)
def aB.j7 (F:Nat) (C509_:Nat->Nat->Sl->Sl->Int->Int->Hp->OA) (CU:Nat) (Ys:Nat) (Yt:Sl) (Yu:Sl) (xz:Int) (xA:Int) (H234:Hp):OA:=C509_ CU Ys Yt Yu xz (IntKind.i64.wrap (xA+1)) H234
def aB.l509 (F:Nat) :Nat->Nat->Nat->Sl->Sl->Int->Int->Hp->OA
 | 0,_,_,_,_,_,_,_=>none
 | AK+1,pN,sj,qO,ry,lw,kx,H166=>(bif (decide (kx<(qO.n:Int))) then ((Sl.idx qO kx 1).bind λp213=>(Hp.ldI H166 .i64 p213.1 p213.2).bind λn214=>(bif (n214==kx) then ((Hp.new H166 [(.int .i64 lw)]).bind λH215=>(Sl.row H215 (⟨some (H166.length,0),1,.ex 1⟩:Sl) 1).bind λxs217=>(Hp.app H215 1 8 ry (⟨some (H166.length,0),1,.ex 1⟩:Sl).n xs217).bind λa216=>aB.j7 F (aB.l509 F AK) pN sj qO a216.1 (IntKind.i64.wrap (lw+1)) kx a216.2) else ((Sl.idx qO kx 1).bind λp235=>(Hp.ldI H166 .i64 p235.1 p235.2).bind λn236=>(Sl.idx ry n236 1).bind λp237=>(Hp.ldI H166 .i64 p237.1 p237.2).bind λn238=>(Hp.new H166 [(.int .i64 n238)]).bind λH239=>(Sl.row H239 (⟨some (H166.length,0),1,.ex 1⟩:Sl) 1).bind λxs241=>(Hp.app H239 1 8 ry (⟨some (H166.length,0),1,.ex 1⟩:Sl).n xs241).bind λa240=>aB.j7 F (aB.l509 F AK) pN sj qO a240.1 lw kx a240.2))) else (aB.j6 F pN sj ry lw H166))
termination_by structural n=>n
def aB.j8 (F:Nat) (CV:Nat) (Yv:Nat) (Yw:Sl) (H150:Hp):OA:=(Hp.new H150 []).bind λH151=>aB.l509 F F CV Yv Yw (⟨some (H150.length,0),0,.ex 0⟩:Sl) 0 0 H151
def aB.j10 (F:Nat) (C61_:Nat->Nat->Sl->Int->Hp->OA) (CW:Nat) (Yx:Nat) (Yy:Sl) (xB:Int) (H320:Hp):OA:=C61_ CW Yx Yy (IntKind.i64.wrap (xB+1)) H320
def aB.j11 (F:Nat) (C61_:Nat->Nat->Sl->Int->Hp->OA) (CX:Nat) (Yz:Nat) (YA:Sl) (xC:Int) (H304:Hp):OA:=aB.j10 F C61_ CX Yz YA xC H304
def aB.j12 (F:Nat) (C1963_:Nat->Nat->Sl->Int->Int->Int->Int->Hp->OA) (CY:Nat) (YB:Nat) (YC:Sl) (xD:Int) (xE:Int) (xF:Int) (xG:Int) (H341:Hp):OA:=C1963_ CY YB YC xD xE xF (IntKind.i64.wrap (xG+1)) H341
def aB.l1963 (F:Nat) (C61_:Nat->Nat->Sl->Int->Hp->OA):Nat->Nat->Nat->Sl->Int->Int->Int->Int->Hp->OA
 | 0,_,_,_,_,_,_,_,_=>none
 | PD+1,pO,sk,qs,nA,ky,kz,lx,H267=>(bif (decide (lx<(qs.n:Int))) then ((Sl.idx qs lx 1).bind λp321=>(Hp.ldI H267 .i64 p321.1 p321.2).bind λn322=>(bif (n322==(if kz>ky then kz else ky)) then ((Sl.idx qs lx 1).bind λp323=>(Hp.st H267 p323.1 p323.2 (.int .i64 (if kz<ky then kz else ky))).bind λH324=>aB.j12 F (aB.l1963 F C61_ PD) pO sk qs nA ky kz lx H324) else (aB.j12 F (aB.l1963 F C61_ PD) pO sk qs nA ky kz lx H267))) else (aB.j11 F C61_ pO sk qs nA H267))
termination_by structural n=>n
def aB.l61 (F:Nat) :Nat->Nat->Nat->Sl->Int->Hp->OA
 | 0,_,_,_,_,_=>none
 | eC+1,oy,qP,rz,mo,H38=>(Hp.ldSl H38 oy qP).bind λs242=>(bif (decide (mo<(s242.n:Int))) then ((Hp.ldSl H38 oy qP).bind λs243=>(Sl.idx s243 mo 5).bind λp244=>(Hp.ldI H38 .i64 p244.1 (p244.2+1)).bind λn245=>(Sl.idx rz n245 1).bind λp246=>(Hp.ldI H38 .i64 p246.1 p246.2).bind λn247=>(Hp.ldSl H38 oy qP).bind λs248=>(Sl.idx s248 mo 5).bind λp249=>(Hp.ldI H38 .i64 p249.1 (p249.2+3)).bind λn250=>(Sl.idx rz n250 1).bind λp251=>(Hp.ldI H38 .i64 p251.1 p251.2).bind λn252=>aB.l1963 F (aB.l61 F eC) F oy qP rz mo n247 n252 0 H38) else (aB.j8 F oy qP rz H38))
termination_by structural n=>n
def aB.j13 (F:Nat) (xr:Nat) (YD:Nat) (YE:Sl) (H27:Hp):OA:=aB.l61 F F xr YD YE 0 H27
def aB.l29 (F:Nat) :Nat->Nat->Nat->Sl->Int->Hp->OA
 | 0,_,_,_,_,_=>none
 | fj+1,jw,dl,jn,mp,H13=>(Hp.ldSl H13 jw dl).bind λs342=>(bif (decide (mp<(IntKind.i64.wrap (2 * (s342.n:Int))))) then ((Hp.new H13 [(.int .i64 mp)]).bind λH343=>(Sl.row H343 (⟨some (H13.length,0),1,.ex 1⟩:Sl) 1).bind λxs345=>(Hp.app H343 1 8 jn (⟨some (H13.length,0),1,.ex 1⟩:Sl).n xs345).bind λa344=>aB.l29 F fj jw dl a344.1 (IntKind.i64.wrap (mp+1)) a344.2) else (aB.j13 F jw dl jn H13))
termination_by structural n=>n
def aB.twX (F:Nat) (aa:Sl) (ac:Int) (H:Hp):OA:=(Hp.new H [(.sl aa),(.int .i64 ac)]).bind λH3=>(Hp.new H3 []).bind λH4=>aB.l29 F F H.length 0 (⟨some (H3.length,0),0,.ex 0⟩:Sl) 0 H4
def aB.tw (F:Nat) (aa:Sl) (ac:Int) (H:Hp):OA:=aB.twX F aa ac H
def aB.lh29 (F:Nat) (ks:List Nat) (n:Nat) (tm:Tm) (H:Hp):OA:=match ks,tm 1,tm 4,tm 5 with
 | [],(.ptr jw dl),(.sl jn),(.int .i64 mp)=>aB.l29 F n jw dl jn mp H
 | _,_,_,_=>none
theorem aB.lh29_inv {F:Nat} {ks:List Nat} {n:Nat} {tm:Tm} {H:Hp} {r:AV×Hp} (h:aB.lh29 F ks n tm H=some r):∃ jw dl jn mp,ks=[]/\dZ tm [(1,(.ptr jw dl)),(4,(.sl jn)),(5,(.int .i64 mp))]/\aB.l29 F n jw dl jn mp H=some r:=by
 unfold aB.lh29 at h
 split at h
 ·exact ⟨_,_,_,_,rfl,⟨‹_›,‹_›,‹_›,trivial⟩,h⟩
 ·cases h
def aB.lh61 (F:Nat) (ks:List Nat) (n:Nat) (tm:Tm) (H:Hp):OA:=match ks,tm 1,tm 4,tm 6 with
 | [],(.ptr oy qP),(.sl rz),(.int .i64 mo)=>aB.l61 F n oy qP rz mo H
 | _,_,_,_=>none
theorem aB.lh61_inv {F:Nat} {ks:List Nat} {n:Nat} {tm:Tm} {H:Hp} {r:AV×Hp} (h:aB.lh61 F ks n tm H=some r):∃ oy qP rz mo,ks=[]/\dZ tm [(1,(.ptr oy qP)),(4,(.sl rz)),(6,(.int .i64 mo))]/\aB.l61 F n oy qP rz mo H=some r:=by
 unfold aB.lh61 at h
 split at h
 ·exact ⟨_,_,_,_,rfl,⟨‹_›,‹_›,‹_›,trivial⟩,h⟩
 ·cases h
def aB.lh509 (F:Nat) (ks:List Nat) (n:Nat) (tm:Tm) (H:Hp):OA:=match ks,tm 1,tm 4,tm 10,tm 11,tm 12 with
 | [],(.ptr pN sj),(.sl qO),(.sl ry),(.int .i64 lw),(.int .i64 kx)=>aB.l509 F n pN sj qO ry lw kx H
 | _,_,_,_,_,_=>none
theorem aB.lh509_inv {F:Nat} {ks:List Nat} {n:Nat} {tm:Tm} {H:Hp} {r:AV×Hp} (h:aB.lh509 F ks n tm H=some r):∃ pN sj qO ry lw kx,ks=[]/\dZ tm [(1,(.ptr pN sj)),(4,(.sl qO)),(10,(.sl ry)),(11,(.int .i64 lw)),(12,(.int .i64 kx))]/\aB.l509 F n pN sj qO ry lw kx H=some r:=by
 unfold aB.lh509 at h
 split at h
 ·exact ⟨_,_,_,_,_,_,rfl,⟨‹_›,‹_›,‹_›,‹_›,‹_›,trivial⟩,h⟩
 ·cases h
def aB.lh1963 (F:Nat) (ks:List Nat) (n:Nat) (tm:Tm) (H:Hp):OA:=match ks,tm 1,tm 4,tm 6,tm 7,tm 8,tm 9 with
 | [eC],(.ptr pO sk),(.sl qs),(.int .i64 nA),(.int .i64 ky),(.int .i64 kz),(.int .i64 lx)=>aB.l1963 F (aB.l61 F eC) n pO sk qs nA ky kz lx H
 | _,_,_,_,_,_,_=>none
theorem aB.lh1963_inv {F:Nat} {ks:List Nat} {n:Nat} {tm:Tm} {H:Hp} {r:AV×Hp} (h:aB.lh1963 F ks n tm H=some r):∃ eC pO sk qs nA ky kz lx,ks=[eC]/\dZ tm [(1,(.ptr pO sk)),(4,(.sl qs)),(6,(.int .i64 nA)),(7,(.int .i64 ky)),(8,(.int .i64 kz)),(9,(.int .i64 lx))]/\aB.l1963 F (aB.l61 F eC) n pO sk qs nA ky kz lx H=some r:=by
 unfold aB.lh1963 at h
 split at h
 ·exact ⟨_,_,_,_,_,_,_,_,rfl,⟨‹_›,‹_›,‹_›,‹_›,‹_›,‹_›,trivial⟩,h⟩
 ·cases h
def aB.lh (F:Nat) (p:Nat) (ks:List Nat) (n:Nat) (tm:Tm) (H:Hp):OA:=bif p.beq 1963 then aB.lh1963 F ks n tm H else (bif p.beq 509 then aB.lh509 F ks n tm H else (bif p.beq 61 then aB.lh61 F ks n tm H else (bif p.beq 29 then aB.lh29 F ks n tm H else (none))))
def aB.tb:Nat->List (List Nat):=eU [(9,[[],[],[1],[],[1,2,3],[1,2,3,4],[1,2,3,4,5],[0,1,2,3,4,5,6],[0,1,2,3,4,5,6,7],[],[],[10],[],[10,11,12],[10,11,12,13],[10,11,12,13,14],[9,10,11,12,13,14,15],[9,10,11,12,13,14,15,16],[0,1,2,3,4,5,6,7,8],[0,1,2,3,4,5,6,7,8,9,10,11,12,13,14,15,16,17,18]]),(24,[[],[],[],[2],[1,2,3],[0],[0,1,2,3,4,5]])]
def aB.mk (g:Sl->Int->Hp->OA) (args:List AV) (H:Hp):OA:=match args with
 | [(.agg [(.sl aa),(.int .i64 ac)])]=>g aa ac H
 | _=>none
theorem aB.loops (F:Nat):LO (bh []) aW (aB.lh F) F Tryz.f44:=
 (ae.rt (ae.rt (ae.seq (ae.rt (ae.block (ae.la (λn tm H r h=>by obtain ⟨jw,dl,jn,mp,hks,e,h⟩:=aB.lh29_inv (show aB.lh29 F [] n tm H=some r from h);obtain _ | k29:=n;cases h;exact ⟨_,rfl,by rw [<- eb e];exact Eq.trans (by kernel_rfl) h⟩) λk29=>ae.no))) (ae.seq (ae.rt (ae.block (ae.la (λn tm H r h=>by obtain ⟨oy,qP,rz,mo,hks,e,h⟩:=aB.lh61_inv (show aB.lh61 F [] n tm H=some r from h);obtain _ | k61:=n;cases h;exact ⟨_,rfl,by rw [<- eb e];exact Eq.trans (by kernel_rfl) h⟩) λk61=>(ae.rt (ae.lt (ae.block (ae.rt (ae.rt (ae.block (ae.la (λn tm H r h=>by obtain ⟨eC,pO,sk,qs,nA,ky,kz,lx,hks,e,h⟩:=aB.lh1963_inv (show aB.lh1963 F [k61] n tm H=some r from h);cases hks;obtain _ | k1963:=n;cases h;exact ⟨_,rfl,by rw [<- eb e];exact Eq.trans (by kernel_rfl) h⟩) λk1963=>ae.no)))))))))) (ae.rt (ae.rt (ae.lt (ae.rt (ae.block (ae.la (λn tm H r h=>by obtain ⟨pN,sj,qO,ry,lw,kx,hks,e,h⟩:=aB.lh509_inv (show aB.lh509 F [] n tm H=some r from h);obtain _ | k509:=n;cases h;exact ⟨_,rfl,by rw [<- eb e];exact Eq.trans (by kernel_rfl) h⟩) λk509=>ae.no))))))))))
theorem aB.eqX (F:Nat) (aa:Sl) (ac:Int) (H:Hp):EX (bh []) aW (aB.lh F) F Tryz.f44 [(.agg [(.sl aa),(.int .i64 ac)])] H=aB.twX F aa ac H:=by kernel_rfl
theorem aB.k (F:Nat):Ok Tryz.prog 44 (aB.mk (aB.tw F)):=by
 intro args H v H' h
 unfold aB.mk at h
 split at h
 ·exact okT (TB:=aB.tb) Tryz.func44 ca (aB.loops F) ((aB.eqX F _ _ H).trans h) (by kernel_rfl)
 ·cases h
def gS.twX (F:Nat) (aa:Int) (ai:Int) (H:Hp):OA:=(Hp.new H [.int .i64 0,.int .i64 0,.sl ⟨none,0,.ex 0⟩]).bind λH3=>(Hp.mk H3 [.int .i64 0] 8 (IntKind.i64.wrap (aa * ai)) (IntKind.i64.wrap (aa * ai))).bind λm4=>(Hp.st m4.2 H.length 0 (.int .i64 aa)).bind λH5=>(Hp.st H5 H.length (0+1) (.int .i64 ai)).bind λH6=>(Hp.st H6 H.length (0+1+1) (.sl m4.1)).bind λH7=>(Hp.ldI H7 .i64 H.length 0).bind λn8=>(Hp.ldI H7 .i64 H.length (0+1)).bind λn9=>(Hp.ldSl H7 H.length (0+2)).bind λs10=>some ((.agg [(.int .i64 n8),(.int .i64 n9),(.sl s10)]),H7)
def gS.tw (F:Nat) (aa:Int) (ai:Int) (H:Hp):OA:=gS.twX F aa ai H
def gS.mk (g:Int->Int->Hp->OA) (args:List AV) (H:Hp):OA:=match args with
 | [(.int .i64 aa),(.int .i64 ai)]=>g aa ai H
 | _=>none
theorem gS.eqX (F:Nat) (aa:Int) (ai:Int) (H:Hp):EX (bh []) aW lh0 F Tryz.f31 [(.int .i64 aa),(.int .i64 ai)] H=gS.twX F aa ai H:=by kernel_rfl
theorem gS.k (F:Nat):Ok Tryz.prog 31 (gS.mk (gS.tw F)):=by
 intro args H v H' h
 unfold gS.mk at h
 split at h
 ·exact okT (TB:=aW) Tryz.func31 ca ae.no ((gS.eqX F _ _ H).trans h) (by kernel_rfl)
 ·cases h
def dQ.l61 (F:Nat) (ly:Sl->Int->Hp->OA) (fS:Int->Int->Hp->OA) :Nat->Nat->Nat->Nat->Nat->Sl->Int->Nat->Nat->Int->Hp->OA
 | 0,_,_,_,_,_,_,_,_,_,_=>none
 | eC+1,ja,lu,nB,pP,rA,jV,gh,nC,jb,H37=>(Hp.ldI H37 .i64 gh nC).bind λn88=>(bif (decide (jb<n88)) then ((Hp.ldSl H37 ja lu).bind λs89=>(Sl.idx s89 jb 5).bind λp90=>(Hp.ldI H37 .i64 p90.1 p90.2).bind λn91=>(Hp.ldI H37 .i64 p90.1 (p90.2+1)).bind λn92=>(Hp.ldI H37 .i64 p90.1 (p90.2+2)).bind λn93=>(Hp.ldI H37 .i64 p90.1 (p90.2+3)).bind λn94=>(Hp.ldI H37 .i64 p90.1 (p90.2+4)).bind λn95=>(Hp.new H37 [.int .i64 0,.int .i64 0,.int .i64 0,.int .i64 0,.int .i64 0]).bind λH96=>(Hp.st H96 H37.length 0 (.int .i64 n91)).bind λH97=>(Hp.st H97 H37.length (0+1) (.int .i64 n92)).bind λH98=>(Hp.st H98 H37.length (0+1+1) (.int .i64 n93)).bind λH99=>(Hp.st H99 H37.length (0+1+1+1) (.int .i64 n94)).bind λH100=>(Hp.st H100 H37.length (0+1+1+1+1) (.int .i64 n95)).bind λH101=>(Hp.ldI H101 .i64 H37.length 0).bind λn102=>(Sl.idx rA n102 1).bind λp103=>(Hp.ldI H101 .i64 p103.1 p103.2).bind λn104=>(Hp.ldI H101 .i64 H37.length 2).bind λn105=>(Sl.idx rA n105 1).bind λp106=>(Hp.ldI H101 .i64 p106.1 p106.2).bind λn107=>(Hp.ldI H101 .i64 H37.length 1).bind λn108=>(Sl.idx rA n108 1).bind λp109=>(Hp.ldI H101 .i64 p109.1 p109.2).bind λn110=>(Hp.ldSl H101 gh (nC+2)).bind λs111=>(Hp.ldSl H101 gh (nC+2)).bind λs112=>(Sl.idx s112 (IntKind.i64.wrap ((IntKind.i64.wrap (jb * jV))+n104)) 1).bind λp113=>(Hp.ldI H101 .i64 p113.1 p113.2).bind λn114=>(Sl.idx s111 (IntKind.i64.wrap ((IntKind.i64.wrap (jb * jV))+n104)) 1).bind λp115=>(Hp.st H101 p115.1 p115.2 (.int .i64 (IntKind.i64.wrap (n114 - 1)))).bind λH116=>(Hp.ldSl H116 gh (nC+2)).bind λs117=>(Hp.ldSl H116 gh (nC+2)).bind λs118=>(Sl.idx s118 (IntKind.i64.wrap ((IntKind.i64.wrap (jb * jV))+n107)) 1).bind λp119=>(Hp.ldI H116 .i64 p119.1 p119.2).bind λn120=>(Sl.idx s117 (IntKind.i64.wrap ((IntKind.i64.wrap (jb * jV))+n107)) 1).bind λp121=>(Hp.st H116 p121.1 p121.2 (.int .i64 (IntKind.i64.wrap (n120 - 1)))).bind λH122=>(Hp.ldSl H122 gh (nC+2)).bind λs123=>(Hp.ldSl H122 gh (nC+2)).bind λs124=>(Sl.idx s124 (IntKind.i64.wrap ((IntKind.i64.wrap (jb * jV))+n110)) 1).bind λp125=>(Hp.ldI H122 .i64 p125.1 p125.2).bind λn126=>(Sl.idx s123 (IntKind.i64.wrap ((IntKind.i64.wrap (jb * jV))+n110)) 1).bind λp127=>(Hp.st H122 p127.1 p127.2 (.int .i64 (IntKind.i64.wrap (n126+2)))).bind λH128=>dQ.l61 F ly fS eC ja lu nB pP rA jV gh nC (IntKind.i64.wrap (jb+1)) H128) else ((Hp.ldI H37 .i64 gh nC).bind λn129=>(Hp.ldI H37 .i64 gh (nC+1)).bind λn130=>(Hp.ldSl H37 gh (nC+2)).bind λs131=>(Hp.st H37 nB pP (.int .i64 n129)).bind λH132=>(Hp.st H132 nB (pP+1) (.int .i64 n130)).bind λH133=>(Hp.st H133 nB (pP+1+1) (.sl s131)).bind λH134=>(Hp.ldI H134 .i64 nB pP).bind λn135=>(Hp.ldI H134 .i64 nB (pP+1)).bind λn136=>(Hp.ldSl H134 nB (pP+2)).bind λs137=>some ((.agg [(.int .i64 n135),(.int .i64 n136),(.sl s137)]),H134)))
termination_by structural n=>n
def dQ.twX (F:Nat) (ly:Sl->Int->Hp->OA) (fS:Int->Int->Hp->OA) (aa:Sl) (ac:Int) (H:Hp):OA:=(Hp.new H [(.sl aa),(.int .i64 ac)]).bind λH3=>(Hp.new H3 [.int .i64 0,.int .i64 0,.sl ⟨none,0,.ex 0⟩]).bind λH4=>(Hp.ldSl H4 H.length 0).bind λs5=>(Hp.ldI H4 .i64 H.length (0+1)).bind λn6=>(ly s5 n6 H4).bind λr7=>((r7.1).asTup 2).bind λl8=>(l8[0]?).bind λv9=>((v9).asSl).bind λs10=>(l8[1]?).bind λv11=>((v11).asI .i64).bind λn12=>(Hp.ldSl r7.2 H.length 0).bind λs13=>(fS (s13.n:Int) n12 r7.2).bind λr14=>((r14.1).asAgg 3).bind λl15=>(l15[0]?).bind λv16=>((v16).asI .i64).bind λn17=>(l15[1]?).bind λv18=>((v18).asI .i64).bind λn19=>(l15[2]?).bind λv20=>((v20).asSl).bind λs21=>(Hp.new r14.2 [.int .i64 0,.int .i64 0,.sl ⟨none,0,.ex 0⟩]).bind λH22=>(Hp.st H22 r14.2.length 0 (.int .i64 n17)).bind λH23=>(Hp.st H23 r14.2.length (0+1) (.int .i64 n19)).bind λH24=>(Hp.st H24 r14.2.length (0+1+1) (.sl s21)).bind λH25=>dQ.l61 F ly fS F H.length 0 H3.length 0 s10 n12 r14.2.length 0 0 H25
def dQ.tw (F:Nat) (aa:Sl) (ac:Int) (H:Hp):OA:=dQ.twX F (aB.tw F) (gS.tw F) aa ac H
def dQ.lh61 (F:Nat) (ly:Sl->Int->Hp->OA) (fS:Int->Int->Hp->OA) (ks:List Nat) (n:Nat) (tm:Tm) (H:Hp):OA:=match ks,tm 1,tm 2,tm 3,tm 4,tm 5,tm 6 with
 | [],(.ptr ja lu),(.ptr nB pP),(.sl rA),(.int .i64 jV),(.ptr gh nC),(.int .i64 jb)=>dQ.l61 F ly fS n ja lu nB pP rA jV gh nC jb H
 | _,_,_,_,_,_,_=>none
theorem dQ.lh61_inv {F:Nat} {ly:Sl->Int->Hp->OA} {fS:Int->Int->Hp->OA} {ks:List Nat} {n:Nat} {tm:Tm} {H:Hp} {r:AV×Hp} (h:dQ.lh61 F ly fS ks n tm H=some r):∃ ja lu nB pP rA jV gh nC jb,ks=[]/\dZ tm [(1,(.ptr ja lu)),(2,(.ptr nB pP)),(3,(.sl rA)),(4,(.int .i64 jV)),(5,(.ptr gh nC)),(6,(.int .i64 jb))]/\dQ.l61 F ly fS n ja lu nB pP rA jV gh nC jb H=some r:=by
 unfold dQ.lh61 at h
 split at h
 ·exact ⟨_,_,_,_,_,_,_,_,_,rfl,⟨‹_›,‹_›,‹_›,‹_›,‹_›,‹_›,trivial⟩,h⟩
 ·cases h
def dQ.lh (F:Nat) (ly:Sl->Int->Hp->OA) (fS:Int->Int->Hp->OA) (p:Nat) (ks:List Nat) (n:Nat) (tm:Tm) (H:Hp):OA:=bif p.beq 61 then dQ.lh61 F ly fS ks n tm H else (none)
def dQ.pn:Nat->List Nat:=eU [(8,[10]),(9,[10]),(10,[10])]
def dQ.tb:Nat->List (List Nat):=eU [(7,[[],[],[0,1],[],[],[4],[3,4,5],[3,4,5,6],[0,1,2,3,4,5,6,7],[],[],[9,10],[],[],[13],[12,13,14],[12,13,14,15],[9,10,11,12,13,14,15,16],[],[],[18,19],[],[],[22],[21,22,23],[21,22,23,24],[18,19,20,21,22,23,24,25],[0,1,2,3,4,5,6,7,8],[0,1,2,3,4,5,6,7,8,9,10,11,12,13,14,15,16,17,27],[0,1,2,3,4,5,6,7,8,9,10,11,12,13,14,15,16,17,18,19,20,21,22,23,24,25,26,27,28]]),(8,[[],[0],[],[],[3],[],[3,4,5],[3,4,5,6],[3,4,5,6,7],[0,1,2,3,4,5,6,7,8],[0,1,2,3,4,5,6,7,8,9]]),(9,[[],[0],[],[],[3],[],[3,4,5],[3,4,5,6],[3,4,5,6,7],[0,1,2,3,4,5,6,7,8],[0,1,2,3,4,5,6,7,8,9]]),(10,[[],[0],[],[],[3],[],[3,4,5],[3,4,5,6],[3,4,5,6,7],[0,1,2,3,4,5,6,7,8],[0,1,2,3,4,5,6,7,8,9]])]
def dQ.mk (g:Sl->Int->Hp->OA) (args:List AV) (H:Hp):OA:=match args with
 | [(.agg [(.sl aa),(.int .i64 ac)])]=>g aa ac H
 | _=>none
def dQ.cs (F:Nat) (ly:Sl->Int->Hp->OA) (fS:Int->Int->Hp->OA):Cs:=[(44,aB.mk ly),(31,gS.mk fS)]
theorem dQ.loops (F:Nat) (ly:Sl->Int->Hp->OA) (fS:Int->Int->Hp->OA):LO (bh (dQ.cs F ly fS)) dQ.pn (dQ.lh F ly fS) F Tryz.f19:=
 (ae.rt (ae.rt (ae.rt (ae.lt (ae.rt (ae.block (ae.la (λn tm H r h=>by obtain ⟨ja,lu,nB,pP,rA,jV,gh,nC,jb,hks,e,h⟩:=dQ.lh61_inv (show dQ.lh61 F ly fS [] n tm H=some r from h);obtain _ | k61:=n;cases h;exact ⟨_,rfl,by rw [<- eb e];exact Eq.trans (by kernel_rfl) h⟩) λk61=>ae.no)))))))
theorem dQ.eqX (F:Nat) (ly:Sl->Int->Hp->OA) (fS:Int->Int->Hp->OA) (aa:Sl) (ac:Int) (H:Hp):EX (bh (dQ.cs F ly fS)) dQ.pn (dQ.lh F ly fS) F Tryz.f19 [(.agg [(.sl aa),(.int .i64 ac)])] H=dQ.twX F ly fS aa ac H:=by kernel_rfl
theorem dQ.k (F:Nat):Ok Tryz.prog 19 (dQ.mk (dQ.tw F)):=by
 intro args H v H' h
 unfold dQ.mk at h
 split at h
 ·exact okT (TB:=dQ.tb) Tryz.func19 (bg (aB.k F) (bg (gS.k F) ca)) (dQ.loops F (aB.tw F) (gS.tw F)) ((dQ.eqX F (aB.tw F) (gS.tw F) _ _ H).trans h) (by kernel_rfl)
 ·cases h
def dK.l29 (F:Nat) (fS:Int->Int->Hp->OA) :Nat->Int->Nat->Nat->Nat->Nat->Int->Hp->OA
 | 0,_,_,_,_,_,_,_=>none
 | fj+1,nD,dR,jx,iq,gL,mq,H21=>(bif (decide (mq<nD)) then ((Hp.ldSl H21 iq (gL+2)).bind λs34=>(Sl.idx s34 (IntKind.i64.wrap ((IntKind.i64.wrap (mq * nD))+mq)) 1).bind λp35=>(Hp.st H21 p35.1 p35.2 (.int .i64 1)).bind λH36=>dK.l29 F fS fj nD dR jx iq gL (IntKind.i64.wrap (mq+1)) H36) else ((Hp.ldI H21 .i64 iq gL).bind λn37=>(Hp.ldI H21 .i64 iq (gL+1)).bind λn38=>(Hp.ldSl H21 iq (gL+2)).bind λs39=>(Hp.st H21 dR jx (.int .i64 n37)).bind λH40=>(Hp.st H40 dR (jx+1) (.int .i64 n38)).bind λH41=>(Hp.st H41 dR (jx+1+1) (.sl s39)).bind λH42=>(Hp.ldI H42 .i64 dR jx).bind λn43=>(Hp.ldI H42 .i64 dR (jx+1)).bind λn44=>(Hp.ldSl H42 dR (jx+2)).bind λs45=>some ((.agg [(.int .i64 n43),(.int .i64 n44),(.sl s45)]),H42)))
termination_by structural n=>n
def dK.twX (F:Nat) (fS:Int->Int->Hp->OA) (aa:Int) (H:Hp):OA:=(Hp.new H [.int .i64 0,.int .i64 0,.sl ⟨none,0,.ex 0⟩]).bind λH2=>(fS aa aa H2).bind λr3=>((r3.1).asAgg 3).bind λl4=>(l4[0]?).bind λv5=>((v5).asI .i64).bind λn6=>(l4[1]?).bind λv7=>((v7).asI .i64).bind λn8=>(l4[2]?).bind λv9=>((v9).asSl).bind λs10=>(Hp.new r3.2 [.int .i64 0,.int .i64 0,.sl ⟨none,0,.ex 0⟩]).bind λH11=>(Hp.st H11 r3.2.length 0 (.int .i64 n6)).bind λH12=>(Hp.st H12 r3.2.length (0+1) (.int .i64 n8)).bind λH13=>(Hp.st H13 r3.2.length (0+1+1) (.sl s10)).bind λH14=>dK.l29 F fS F aa H.length 0 r3.2.length 0 0 H14
def dK.tw (F:Nat) (aa:Int) (H:Hp):OA:=dK.twX F (gS.tw F) aa H
def dK.lh29 (F:Nat) (fS:Int->Int->Hp->OA) (ks:List Nat) (n:Nat) (tm:Tm) (H:Hp):OA:=match ks,tm 0,tm 2,tm 3,tm 4 with
 | [],(.int .i64 nD),(.ptr dR jx),(.ptr iq gL),(.int .i64 mq)=>dK.l29 F fS n nD dR jx iq gL mq H
 | _,_,_,_,_=>none
theorem dK.lh29_inv {F:Nat} {fS:Int->Int->Hp->OA} {ks:List Nat} {n:Nat} {tm:Tm} {H:Hp} {r:AV×Hp} (h:dK.lh29 F fS ks n tm H=some r):∃ nD dR jx iq gL mq,ks=[]/\dZ tm [(0,(.int .i64 nD)),(2,(.ptr dR jx)),(3,(.ptr iq gL)),(4,(.int .i64 mq))]/\dK.l29 F fS n nD dR jx iq gL mq H=some r:=by
 unfold dK.lh29 at h
 split at h
 ·exact ⟨_,_,_,_,_,_,rfl,⟨‹_›,‹_›,‹_›,‹_›,trivial⟩,h⟩
 ·cases h
def dK.lh (F:Nat) (fS:Int->Int->Hp->OA) (p:Nat) (ks:List Nat) (n:Nat) (tm:Tm) (H:Hp):OA:=bif p.beq 29 then dK.lh29 F fS ks n tm H else (none)
def dK.mk (g:Int->Hp->OA) (args:List AV) (H:Hp):OA:=match args with
 | [(.int .i64 aa)]=>g aa H
 | _=>none
def dK.cs (F:Nat) (fS:Int->Int->Hp->OA):Cs:=[(31,gS.mk fS)]
theorem dK.loops (F:Nat) (fS:Int->Int->Hp->OA):LO (bh (dK.cs F fS)) aW (dK.lh F fS) F Tryz.f67:=
 (ae.rt (ae.rt (ae.lt (ae.rt (ae.block (ae.la (λn tm H r h=>by obtain ⟨nD,dR,jx,iq,gL,mq,hks,e,h⟩:=dK.lh29_inv (show dK.lh29 F fS [] n tm H=some r from h);obtain _ | k29:=n;cases h;exact ⟨_,rfl,by rw [<- eb e];exact Eq.trans (by kernel_rfl) h⟩) λk29=>ae.no))))))
theorem dK.eqX (F:Nat) (fS:Int->Int->Hp->OA) (aa:Int) (H:Hp):EX (bh (dK.cs F fS)) aW (dK.lh F fS) F Tryz.f67 [(.int .i64 aa)] H=dK.twX F fS aa H:=by kernel_rfl
theorem dK.k (F:Nat):Ok Tryz.prog 67 (dK.mk (dK.tw F)):=by
 intro args H v H' h
 unfold dK.mk at h
 split at h
 ·exact okT (TB:=aW) Tryz.func67 (bg (gS.k F) ca) (dK.loops F (gS.tw F)) ((dK.eqX F (gS.tw F) _ H).trans h) (by kernel_rfl)
 ·cases h
def bB.twX (F:Nat) (aa:Int) (ac:Int) (aI:Sl) (aw:Int) (bS:Int) (H:Hp):OA:=(Hp.new H [(.int .i64 aa),(.int .i64 ac),(.sl aI)]).bind λH6=>(Hp.ldSl H6 H.length 2).bind λs7=>(Hp.ldI H6 .i64 H.length 1).bind λn8=>(Sl.idx s7 (IntKind.i64.wrap ((IntKind.i64.wrap (aw * n8))+bS)) 1).bind λp9=>(Hp.ldI H6 .i64 p9.1 p9.2).bind λn10=>some ((.int .i64 n10),H6)
def bB.tw (F:Nat) (aa:Int) (ac:Int) (aI:Sl) (aw:Int) (bS:Int) (H:Hp):OA:=bB.twX F aa ac aI aw bS H
def bB.mk (g:Int->Int->Sl->Int->Int->Hp->OA) (args:List AV) (H:Hp):OA:=match args with
 | [(.agg [(.int .i64 aa),(.int .i64 ac),(.sl aI)]),(.int .i64 aw),(.int .i64 bS)]=>g aa ac aI aw bS H
 | _=>none
theorem bB.eqX (F:Nat) (aa:Int) (ac:Int) (aI:Sl) (aw:Int) (bS:Int) (H:Hp):EX (bh []) aW lh0 F Tryz.f32 [(.agg [(.int .i64 aa),(.int .i64 ac),(.sl aI)]),(.int .i64 aw),(.int .i64 bS)] H=bB.twX F aa ac aI aw bS H:=by kernel_rfl
theorem bB.k (F:Nat):Ok Tryz.prog 32 (bB.mk (bB.tw F)):=by
 intro args H v H' h
 unfold bB.mk at h
 split at h
 ·exact okT (TB:=aW) Tryz.func32 ca ae.no ((bB.eqX F _ _ _ _ _ H).trans h) (by kernel_rfl)
 ·cases h
def e_.twX (F:Nat) (aa:Int) (H:Hp):OA:=some ((.int .i64 (if (IntKind.i64.wrap (0 - aa))>aa then (IntKind.i64.wrap (0 - aa)) else aa)),H)
def e_.tw (F:Nat) (aa:Int) (H:Hp):OA:=e_.twX F aa H
def e_.mk (g:Int->Hp->OA) (args:List AV) (H:Hp):OA:=match args with
 | [(.int .i64 aa)]=>g aa H
 | _=>none
theorem e_.eqX (F:Nat) (aa:Int) (H:Hp):EX (bh []) aW lh0 F Tryz.f46 [(.int .i64 aa)] H=e_.twX F aa H:=by kernel_rfl
theorem e_.k (F:Nat):Ok Tryz.prog 46 (e_.mk (e_.tw F)):=by
 intro args H v H' h
 unfold e_.mk at h
 split at h
 ·exact okT (TB:=aW) Tryz.func46 ca ae.no ((e_.eqX F _ H).trans h) (by kernel_rfl)
 ·cases h
def da.l7 (F:Nat) (ap:Int->Int->Sl->Int->Int->Hp->OA) :Nat->Int->Int->Nat->Nat->Int->Hp->OA
 | 0,_,_,_,_,_,_=>none
 | nm+1,eW,hQ,dP,cJ,fv,H15=>(Hp.ldI H15 .i64 dP (cJ+1)).bind λn35=>(bif (decide (fv<n35)) then ((Hp.ldI H15 .i64 dP cJ).bind λn36=>(Hp.ldI H15 .i64 dP (cJ+1)).bind λn37=>(Hp.ldSl H15 dP (cJ+2)).bind λs38=>(ap n36 n37 s38 eW fv H15).bind λr39=>((r39.1).asI .i64).bind λn40=>(Hp.ldSl r39.2 dP (cJ+2)).bind λs41=>(Hp.ldI r39.2 .i64 dP (cJ+1)).bind λn42=>(Hp.ldI r39.2 .i64 dP cJ).bind λn43=>(Hp.ldI r39.2 .i64 dP (cJ+1)).bind λn44=>(Hp.ldSl r39.2 dP (cJ+2)).bind λs45=>(ap n43 n44 s45 hQ fv r39.2).bind λr46=>((r46.1).asI .i64).bind λn47=>(if bp r39.2 r46.2 then ((Sl.idx s41 (IntKind.i64.wrap ((IntKind.i64.wrap (eW * n42))+fv)) 1).bind λp48=>(Hp.st r46.2 p48.1 p48.2 (.int .i64 n47)).bind λH49=>(Hp.ldSl H49 dP (cJ+2)).bind λs50=>(Hp.ldI H49 .i64 dP (cJ+1)).bind λn51=>(Sl.idx s50 (IntKind.i64.wrap ((IntKind.i64.wrap (hQ * n51))+fv)) 1).bind λp52=>(Hp.st H49 p52.1 p52.2 (.int .i64 n40)).bind λH53=>da.l7 F ap nm eW hQ dP cJ (IntKind.i64.wrap (fv+1)) H53) else none)) else (some ((.tup []),H15)))
termination_by structural n=>n
def da.twX (F:Nat) (ap:Int->Int->Sl->Int->Int->Hp->OA) (aa:Int) (ac:Int) (aI:Sl) (aw:Int) (bS:Int) (H:Hp):OA:=(Hp.new H [(.int .i64 aa),(.int .i64 ac),(.sl aI)]).bind λH6=>da.l7 F ap F aw bS H.length 0 0 H6
def da.tw (F:Nat) (aa:Int) (ac:Int) (aI:Sl) (aw:Int) (bS:Int) (H:Hp):OA:=da.twX F (bB.tw F) aa ac aI aw bS H
def da.lh7 (F:Nat) (ap:Int->Int->Sl->Int->Int->Hp->OA) (ks:List Nat) (n:Nat) (tm:Tm) (H:Hp):OA:=match ks,tm 1,tm 2,tm 3,tm 6 with
 | [],(.int .i64 eW),(.int .i64 hQ),(.ptr dP cJ),(.int .i64 fv)=>da.l7 F ap n eW hQ dP cJ fv H
 | _,_,_,_,_=>none
theorem da.lh7_inv {F:Nat} {ap:Int->Int->Sl->Int->Int->Hp->OA} {ks:List Nat} {n:Nat} {tm:Tm} {H:Hp} {r:AV×Hp} (h:da.lh7 F ap ks n tm H=some r):∃ eW hQ dP cJ fv,ks=[]/\dZ tm [(1,(.int .i64 eW)),(2,(.int .i64 hQ)),(3,(.ptr dP cJ)),(6,(.int .i64 fv))]/\da.l7 F ap n eW hQ dP cJ fv H=some r:=by
 unfold da.lh7 at h
 split at h
 ·exact ⟨_,_,_,_,_,rfl,⟨‹_›,‹_›,‹_›,‹_›,trivial⟩,h⟩
 ·cases h
def da.lh (F:Nat) (ap:Int->Int->Sl->Int->Int->Hp->OA) (p:Nat) (ks:List Nat) (n:Nat) (tm:Tm) (H:Hp):OA:=bif p.beq 7 then da.lh7 F ap ks n tm H else (none)
def da.pn:Nat->List Nat:=eU [(5,[13])]
def da.tb:Nat->List (List Nat):=eU [(5,[[],[0],[],[],[3],[2,3,4],[],[2,3,4,5,6],[],[],[],[8,9,10],[0,1,2,3,4,5,6,7,8,9,10,11],[0,1,2,3,4,5,6,7,8,9,10,11,12]])]
def da.mk (g:Int->Int->Sl->Int->Int->Hp->OA) (args:List AV) (H:Hp):OA:=match args with
 | [(.agg [(.int .i64 aa),(.int .i64 ac),(.sl aI)]),(.int .i64 aw),(.int .i64 bS)]=>g aa ac aI aw bS H
 | _=>none
def da.cs (F:Nat) (ap:Int->Int->Sl->Int->Int->Hp->OA):Cs:=[(32,bB.mk ap)]
theorem da.loops (F:Nat) (ap:Int->Int->Sl->Int->Int->Hp->OA):LO (bh (da.cs F ap)) da.pn (da.lh F ap) F Tryz.f104:=
 (ae.rt (ae.rt (ae.block (ae.la (λn tm H r h=>by obtain ⟨eW,hQ,dP,cJ,fv,hks,e,h⟩:=da.lh7_inv (show da.lh7 F ap [] n tm H=some r from h);obtain _ | k7:=n;cases h;exact ⟨_,rfl,by rw [<- eb e];exact Eq.trans (by kernel_rfl) h⟩) λk7=>ae.no))))
theorem da.eqX (F:Nat) (ap:Int->Int->Sl->Int->Int->Hp->OA) (aa:Int) (ac:Int) (aI:Sl) (aw:Int) (bS:Int) (H:Hp):EX (bh (da.cs F ap)) da.pn (da.lh F ap) F Tryz.f104 [(.agg [(.int .i64 aa),(.int .i64 ac),(.sl aI)]),(.int .i64 aw),(.int .i64 bS)] H=da.twX F ap aa ac aI aw bS H:=by kernel_rfl
theorem da.k (F:Nat):Ok Tryz.prog 104 (da.mk (da.tw F)):=by
 intro args H v H' h
 unfold da.mk at h
 split at h
 ·exact okT (TB:=da.tb) Tryz.func104 (bg (bB.k F) ca) (da.loops F (bB.tw F)) ((da.eqX F (bB.tw F) _ _ _ _ _ H).trans h) (by kernel_rfl)
 ·cases h
def db.l7 (F:Nat) (ap:Int->Int->Sl->Int->Int->Hp->OA) :Nat->Int->Int->Nat->Nat->Int->Hp->OA
 | 0,_,_,_,_,_,_=>none
 | nm+1,eW,hQ,dP,cJ,fv,H15=>(Hp.ldI H15 .i64 dP cJ).bind λn35=>(bif (decide (fv<n35)) then ((Hp.ldI H15 .i64 dP cJ).bind λn36=>(Hp.ldI H15 .i64 dP (cJ+1)).bind λn37=>(Hp.ldSl H15 dP (cJ+2)).bind λs38=>(ap n36 n37 s38 fv eW H15).bind λr39=>((r39.1).asI .i64).bind λn40=>(Hp.ldSl r39.2 dP (cJ+2)).bind λs41=>(Hp.ldI r39.2 .i64 dP (cJ+1)).bind λn42=>(Hp.ldI r39.2 .i64 dP cJ).bind λn43=>(Hp.ldI r39.2 .i64 dP (cJ+1)).bind λn44=>(Hp.ldSl r39.2 dP (cJ+2)).bind λs45=>(ap n43 n44 s45 fv hQ r39.2).bind λr46=>((r46.1).asI .i64).bind λn47=>(if bp r39.2 r46.2 then ((Sl.idx s41 (IntKind.i64.wrap ((IntKind.i64.wrap (fv * n42))+eW)) 1).bind λp48=>(Hp.st r46.2 p48.1 p48.2 (.int .i64 n47)).bind λH49=>(Hp.ldSl H49 dP (cJ+2)).bind λs50=>(Hp.ldI H49 .i64 dP (cJ+1)).bind λn51=>(Sl.idx s50 (IntKind.i64.wrap ((IntKind.i64.wrap (fv * n51))+hQ)) 1).bind λp52=>(Hp.st H49 p52.1 p52.2 (.int .i64 n40)).bind λH53=>db.l7 F ap nm eW hQ dP cJ (IntKind.i64.wrap (fv+1)) H53) else none)) else (some ((.tup []),H15)))
termination_by structural n=>n
def db.twX (F:Nat) (ap:Int->Int->Sl->Int->Int->Hp->OA) (aa:Int) (ac:Int) (aI:Sl) (aw:Int) (bS:Int) (H:Hp):OA:=(Hp.new H [(.int .i64 aa),(.int .i64 ac),(.sl aI)]).bind λH6=>db.l7 F ap F aw bS H.length 0 0 H6
def db.tw (F:Nat) (aa:Int) (ac:Int) (aI:Sl) (aw:Int) (bS:Int) (H:Hp):OA:=db.twX F (bB.tw F) aa ac aI aw bS H
def db.lh7 (F:Nat) (ap:Int->Int->Sl->Int->Int->Hp->OA) (ks:List Nat) (n:Nat) (tm:Tm) (H:Hp):OA:=match ks,tm 1,tm 2,tm 3,tm 6 with
 | [],(.int .i64 eW),(.int .i64 hQ),(.ptr dP cJ),(.int .i64 fv)=>db.l7 F ap n eW hQ dP cJ fv H
 | _,_,_,_,_=>none
theorem db.lh7_inv {F:Nat} {ap:Int->Int->Sl->Int->Int->Hp->OA} {ks:List Nat} {n:Nat} {tm:Tm} {H:Hp} {r:AV×Hp} (h:db.lh7 F ap ks n tm H=some r):∃ eW hQ dP cJ fv,ks=[]/\dZ tm [(1,(.int .i64 eW)),(2,(.int .i64 hQ)),(3,(.ptr dP cJ)),(6,(.int .i64 fv))]/\db.l7 F ap n eW hQ dP cJ fv H=some r:=by
 unfold db.lh7 at h
 split at h
 ·exact ⟨_,_,_,_,_,rfl,⟨‹_›,‹_›,‹_›,‹_›,trivial⟩,h⟩
 ·cases h
def db.lh (F:Nat) (ap:Int->Int->Sl->Int->Int->Hp->OA) (p:Nat) (ks:List Nat) (n:Nat) (tm:Tm) (H:Hp):OA:=bif p.beq 7 then db.lh7 F ap ks n tm H else (none)
def db.pn:Nat->List Nat:=eU [(5,[13])]
def db.tb:Nat->List (List Nat):=eU [(5,[[],[0],[],[],[3],[2,3,4],[],[2,3,4,5,6],[],[],[],[8,9,10],[0,1,2,3,4,5,6,7,8,9,10,11],[0,1,2,3,4,5,6,7,8,9,10,11,12]])]
def db.mk (g:Int->Int->Sl->Int->Int->Hp->OA) (args:List AV) (H:Hp):OA:=match args with
 | [(.agg [(.int .i64 aa),(.int .i64 ac),(.sl aI)]),(.int .i64 aw),(.int .i64 bS)]=>g aa ac aI aw bS H
 | _=>none
def db.cs (F:Nat) (ap:Int->Int->Sl->Int->Int->Hp->OA):Cs:=[(32,bB.mk ap)]
theorem db.loops (F:Nat) (ap:Int->Int->Sl->Int->Int->Hp->OA):LO (bh (db.cs F ap)) db.pn (db.lh F ap) F Tryz.f105:=
 (ae.rt (ae.rt (ae.block (ae.la (λn tm H r h=>by obtain ⟨eW,hQ,dP,cJ,fv,hks,e,h⟩:=db.lh7_inv (show db.lh7 F ap [] n tm H=some r from h);obtain _ | k7:=n;cases h;exact ⟨_,rfl,by rw [<- eb e];exact Eq.trans (by kernel_rfl) h⟩) λk7=>ae.no))))
theorem db.eqX (F:Nat) (ap:Int->Int->Sl->Int->Int->Hp->OA) (aa:Int) (ac:Int) (aI:Sl) (aw:Int) (bS:Int) (H:Hp):EX (bh (db.cs F ap)) db.pn (db.lh F ap) F Tryz.f105 [(.agg [(.int .i64 aa),(.int .i64 ac),(.sl aI)]),(.int .i64 aw),(.int .i64 bS)] H=db.twX F ap aa ac aI aw bS H:=by kernel_rfl
theorem db.k (F:Nat):Ok Tryz.prog 105 (db.mk (db.tw F)):=by
 intro args H v H' h
 unfold db.mk at h
 split at h
 ·exact okT (TB:=db.tb) Tryz.func105 (bg (bB.k F) ca) (db.loops F (bB.tw F)) ((db.eqX F (bB.tw F) _ _ _ _ _ H).trans h) (by kernel_rfl)
 ·cases h
def aE.l65515 (F:Nat) (ap:Int->Int->Sl->Int->Int->Hp->OA) (cW:Int->Hp->OA) (ed:Int->Int->Sl->Int->Int->Hp->OA) (ee:Int->Int->Sl->Int->Int->Hp->OA) :Nat->Nat->Nat->Int->Int->Hp->OA
 | 0,_,_,_,_,_=>none
 | YF+1,nn,np,lz,kA,H187=>(Hp.ldI H187 .i64 nn ((np+3)+1)).bind λn207=>(bif (decide (kA<n207)) then ((Hp.ldSl H187 nn ((np+3)+2)).bind λs208=>(Hp.ldI H187 .i64 nn ((np+3)+1)).bind λn209=>(Hp.ldI H187 .i64 nn (np+3)).bind λn210=>(Hp.ldI H187 .i64 nn ((np+3)+1)).bind λn211=>(Hp.ldSl H187 nn ((np+3)+2)).bind λs212=>(ap n210 n211 s212 lz kA H187).bind λr213=>((r213.1).asI .i64).bind λn214=>(if bp H187 r213.2 then ((Sl.idx s208 (IntKind.i64.wrap ((IntKind.i64.wrap (lz * n209))+kA)) 1).bind λp215=>(Hp.st r213.2 p215.1 p215.2 (.int .i64 (IntKind.i64.wrap (0 - n214)))).bind λH216=>(Hp.ldSl H216 nn ((np+6)+2)).bind λs217=>(Hp.ldI H216 .i64 nn ((np+6)+1)).bind λn218=>(Hp.ldI H216 .i64 nn (np+6)).bind λn219=>(Hp.ldI H216 .i64 nn ((np+6)+1)).bind λn220=>(Hp.ldSl H216 nn ((np+6)+2)).bind λs221=>(ap n219 n220 s221 kA lz H216).bind λr222=>((r222.1).asI .i64).bind λn223=>(if bp H216 r222.2 then ((Sl.idx s217 (IntKind.i64.wrap ((IntKind.i64.wrap (kA * n218))+lz)) 1).bind λp224=>(Hp.st r222.2 p224.1 p224.2 (.int .i64 (IntKind.i64.wrap (0 - n223)))).bind λH225=>aE.l65515 F ap cW ed ee YF nn np lz (IntKind.i64.wrap (kA+1)) H225) else none)) else none)) else (some ((.bool true),H187)))
termination_by structural n=>n
def aE.j5 (F:Nat) (ap:Int->Int->Sl->Int->Int->Hp->OA) (cW:Int->Hp->OA) (ed:Int->Int->Sl->Int->Int->Hp->OA) (ee:Int->Int->Sl->Int->Int->Hp->OA) (YG:Nat) (YH:Nat) (xH:Int) (H173:Hp):OA:=aE.l65515 F ap cW ed ee F YG YH xH 0 H173
def aE.l65513 (F:Nat) (ap:Int->Int->Sl->Int->Int->Hp->OA) (cW:Int->Hp->OA) (ed:Int->Int->Sl->Int->Int->Hp->OA) (ee:Int->Int->Sl->Int->Int->Hp->OA) :Nat->Nat->Nat->Int->Int->Hp->OA
 | 0,_,_,_,_,_=>none
 | YI+1,pj,pl,mr,ms,H150=>(Hp.ldI H150 .i64 pj (pl+1)).bind λn226=>(bif (decide (ms<n226)) then ((Hp.ldSl H150 pj (pl+2)).bind λs227=>(Hp.ldI H150 .i64 pj (pl+1)).bind λn228=>(Hp.ldI H150 .i64 pj pl).bind λn229=>(Hp.ldI H150 .i64 pj (pl+1)).bind λn230=>(Hp.ldSl H150 pj (pl+2)).bind λs231=>(ap n229 n230 s231 mr ms H150).bind λr232=>((r232.1).asI .i64).bind λn233=>(if bp H150 r232.2 then ((Sl.idx s227 (IntKind.i64.wrap ((IntKind.i64.wrap (mr * n228))+ms)) 1).bind λp234=>(Hp.st r232.2 p234.1 p234.2 (.int .i64 (IntKind.i64.wrap (0 - n233)))).bind λH235=>aE.l65513 F ap cW ed ee YI pj pl mr (IntKind.i64.wrap (ms+1)) H235) else none)) else (aE.j5 F ap cW ed ee pj pl mr H150))
termination_by structural n=>n
def aE.j6 (F:Nat) (ap:Int->Int->Sl->Int->Int->Hp->OA) (cW:Int->Hp->OA) (ed:Int->Int->Sl->Int->Int->Hp->OA) (ee:Int->Int->Sl->Int->Int->Hp->OA) (kW:Nat) (kX:Nat) (kY:Int) (mn:Int) (rB:Int) (H109:Hp):OA:=(bif (decide (mn<0)) then (some ((.bool false),H109)) else ((Hp.ldI H109 .i64 kW kX).bind λn110=>(Hp.ldI H109 .i64 kW (kX+1)).bind λn111=>(Hp.ldSl H109 kW (kX+2)).bind λs112=>(ed n110 n111 s112 mn kY H109).bind λr113=>(Hp.ldI r113.2 .i64 kW (kX+3)).bind λn114=>(Hp.ldI r113.2 .i64 kW ((kX+3)+1)).bind λn115=>(Hp.ldSl r113.2 kW ((kX+3)+2)).bind λs116=>(ed n114 n115 s116 mn kY r113.2).bind λr117=>(Hp.ldI r117.2 .i64 kW (kX+6)).bind λn118=>(Hp.ldI r117.2 .i64 kW ((kX+6)+1)).bind λn119=>(Hp.ldSl r117.2 kW ((kX+6)+2)).bind λs120=>(ee n118 n119 s120 mn kY r117.2).bind λr121=>(Hp.ldI r121.2 .i64 kW kX).bind λn122=>(Hp.ldI r121.2 .i64 kW (kX+1)).bind λn123=>(Hp.ldSl r121.2 kW (kX+2)).bind λs124=>(ee n122 n123 s124 rB kY r121.2).bind λr125=>(Hp.ldI r125.2 .i64 kW (kX+9)).bind λn126=>(Hp.ldI r125.2 .i64 kW ((kX+9)+1)).bind λn127=>(Hp.ldSl r125.2 kW ((kX+9)+2)).bind λs128=>(ee n126 n127 s128 rB kY r125.2).bind λr129=>(Hp.ldI r129.2 .i64 kW (kX+12)).bind λn130=>(Hp.ldI r129.2 .i64 kW ((kX+12)+1)).bind λn131=>(Hp.ldSl r129.2 kW ((kX+12)+2)).bind λs132=>(ed n130 n131 s132 rB kY r129.2).bind λr133=>(Hp.ldI r133.2 .i64 kW kX).bind λn134=>(Hp.ldI r133.2 .i64 kW (kX+1)).bind λn135=>(Hp.ldSl r133.2 kW (kX+2)).bind λs136=>(ap n134 n135 s136 kY kY r133.2).bind λr137=>((r137.1).asI .i64).bind λn138=>(bif (decide (n138<0)) then (aE.l65513 F ap cW ed ee F kW kX kY 0 r137.2) else (some ((.bool true),r137.2)))))
def aE.j8 (F:Nat) (ap:Int->Int->Sl->Int->Int->Hp->OA) (cW:Int->Hp->OA) (ed:Int->Int->Sl->Int->Int->Hp->OA) (ee:Int->Int->Sl->Int->Int->Hp->OA) (C29_:Nat->Nat->Int->Int->Int->Int->Hp->OA) (YJ:Nat) (YK:Nat) (xI:Int) (xJ:Int) (xK:Int) (xL:Int) (H296:Hp):OA:=C29_ YJ YK xI xJ xK (IntKind.i64.wrap (xL+1)) H296
def aE.j9 (F:Nat) (ap:Int->Int->Sl->Int->Int->Hp->OA) (cW:Int->Hp->OA) (ed:Int->Int->Sl->Int->Int->Hp->OA) (ee:Int->Int->Sl->Int->Int->Hp->OA) (C29_:Nat->Nat->Int->Int->Int->Int->Hp->OA) (YL:Nat) (YM:Nat) (xM:Int) (xN:Int) (xO:Int) (xP:Int) (H285:Hp):OA:=aE.j8 F ap cW ed ee C29_ YL YM xM xN xO xP H285
def aE.j10 (F:Nat) (ap:Int->Int->Sl->Int->Int->Hp->OA) (cW:Int->Hp->OA) (ed:Int->Int->Sl->Int->Int->Hp->OA) (ee:Int->Int->Sl->Int->Int->Hp->OA) (C469_:Nat->Nat->Int->Int->Int->Int->Int->Hp->OA) (YN:Nat) (YO:Nat) (xQ:Int) (xR:Int) (xS:Int) (xT:Int) (xU:Int) (H324:Hp):OA:=C469_ YN YO xQ xR xS xT (IntKind.i64.wrap (xU+1)) H324
def aE.l469 (F:Nat) (ap:Int->Int->Sl->Int->Int->Hp->OA) (cW:Int->Hp->OA) (ed:Int->Int->Sl->Int->Int->Hp->OA) (ee:Int->Int->Sl->Int->Int->Hp->OA) (C29_:Nat->Nat->Int->Int->Int->Int->Hp->OA):Nat->Nat->Nat->Int->Int->Int->Int->Int->Hp->OA
 | 0,_,_,_,_,_,_,_,_=>none
 | sm+1,nq,nr,lA,lC,mu,jy,jz,H246=>(Hp.ldI H246 .i64 nq (nr+1)).bind λn297=>(bif (decide (jz<n297)) then ((Hp.ldI H246 .i64 nq nr).bind λn298=>(Hp.ldI H246 .i64 nq (nr+1)).bind λn299=>(Hp.ldSl H246 nq (nr+2)).bind λs300=>(ap n298 n299 s300 jy jz H246).bind λr301=>((r301.1).asI .i64).bind λn302=>(cW n302 r301.2).bind λr303=>((r303.1).asI .i64).bind λn304=>(bif (decide (n304>0)) then ((bif (decide (lC<0)) then (aE.l469 F ap cW ed ee C29_ sm nq nr lA jy jz jy (IntKind.i64.wrap (jz+1)) r303.2) else ((Hp.ldI r303.2 .i64 nq nr).bind λn305=>(Hp.ldI r303.2 .i64 nq (nr+1)).bind λn306=>(Hp.ldSl r303.2 nq (nr+2)).bind λs307=>(ap n305 n306 s307 lC mu r303.2).bind λr308=>((r308.1).asI .i64).bind λn309=>(cW n309 r308.2).bind λr310=>((r310.1).asI .i64).bind λn311=>(bif (decide (n304<n311)) then (aE.j10 F ap cW ed ee (aE.l469 F ap cW ed ee C29_ sm) nq nr lA jy jz jy jz r310.2) else (aE.j10 F ap cW ed ee (aE.l469 F ap cW ed ee C29_ sm) nq nr lA lC mu jy jz r310.2))))) else (aE.l469 F ap cW ed ee C29_ sm nq nr lA lC mu jy (IntKind.i64.wrap (jz+1)) r303.2))) else (aE.j9 F ap cW ed ee C29_ nq nr lA lC mu jy H246))
termination_by structural n=>n
def aE.l29 (F:Nat) (ap:Int->Int->Sl->Int->Int->Hp->OA) (cW:Int->Hp->OA) (ed:Int->Int->Sl->Int->Int->Hp->OA) (ee:Int->Int->Sl->Int->Int->Hp->OA) :Nat->Nat->Nat->Int->Int->Int->Int->Hp->OA
 | 0,_,_,_,_,_,_,_=>none
 | fj+1,fc,iF,fd,fk,oz,oA,H11=>(Hp.ldI H11 .i64 fc iF).bind λn236=>(bif (decide (oA<n236)) then (aE.l469 F ap cW ed ee (aE.l29 F ap cW ed ee fj) F fc iF fd fk oz oA fd H11) else (aE.j6 F ap cW ed ee fc iF fd fk oz H11))
termination_by structural n=>n
def aE.twX (F:Nat) (ap:Int->Int->Sl->Int->Int->Hp->OA) (cW:Int->Hp->OA) (ed:Int->Int->Sl->Int->Int->Hp->OA) (ee:Int->Int->Sl->Int->Int->Hp->OA) (aa:Nat) (ac:Nat) (af:Int) (H:Hp):OA:=aE.l29 F ap cW ed ee F aa ac af (-1) (-1) af H
def aE.tw (F:Nat) (aa:Nat) (ac:Nat) (af:Int) (H:Hp):OA:=aE.twX F (bB.tw F) (e_.tw F) (da.tw F) (db.tw F) aa ac af H
def aE.lh29 (F:Nat) (ap:Int->Int->Sl->Int->Int->Hp->OA) (cW:Int->Hp->OA) (ed:Int->Int->Sl->Int->Int->Hp->OA) (ee:Int->Int->Sl->Int->Int->Hp->OA) (ks:List Nat) (n:Nat) (tm:Tm) (H:Hp):OA:=match ks,tm 0,tm 1,tm 5,tm 6,tm 7 with
 | [],(.ptr fc iF),(.int .i64 fd),(.int .i64 fk),(.int .i64 oz),(.int .i64 oA)=>aE.l29 F ap cW ed ee n fc iF fd fk oz oA H
 | _,_,_,_,_,_=>none
theorem aE.lh29_inv {F:Nat} {ap:Int->Int->Sl->Int->Int->Hp->OA} {cW:Int->Hp->OA} {ed:Int->Int->Sl->Int->Int->Hp->OA} {ee:Int->Int->Sl->Int->Int->Hp->OA} {ks:List Nat} {n:Nat} {tm:Tm} {H:Hp} {r:AV×Hp} (h:aE.lh29 F ap cW ed ee ks n tm H=some r):∃ fc iF fd fk oz oA,ks=[]/\dZ tm [(0,(.ptr fc iF)),(1,(.int .i64 fd)),(5,(.int .i64 fk)),(6,(.int .i64 oz)),(7,(.int .i64 oA))]/\aE.l29 F ap cW ed ee n fc iF fd fk oz oA H=some r:=by
 unfold aE.lh29 at h
 split at h
 ·exact ⟨_,_,_,_,_,_,rfl,⟨‹_›,‹_›,‹_›,‹_›,‹_›,trivial⟩,h⟩
 ·cases h
def aE.lh65513 (F:Nat) (ap:Int->Int->Sl->Int->Int->Hp->OA) (cW:Int->Hp->OA) (ed:Int->Int->Sl->Int->Int->Hp->OA) (ee:Int->Int->Sl->Int->Int->Hp->OA) (ks:List Nat) (n:Nat) (tm:Tm) (H:Hp):OA:=match ks,tm 0,tm 1,tm 10 with
 | [],(.ptr pj pl),(.int .i64 mr),(.int .i64 ms)=>aE.l65513 F ap cW ed ee n pj pl mr ms H
 | _,_,_,_=>none
theorem aE.lh65513_inv {F:Nat} {ap:Int->Int->Sl->Int->Int->Hp->OA} {cW:Int->Hp->OA} {ed:Int->Int->Sl->Int->Int->Hp->OA} {ee:Int->Int->Sl->Int->Int->Hp->OA} {ks:List Nat} {n:Nat} {tm:Tm} {H:Hp} {r:AV×Hp} (h:aE.lh65513 F ap cW ed ee ks n tm H=some r):∃ pj pl mr ms,ks=[]/\dZ tm [(0,(.ptr pj pl)),(1,(.int .i64 mr)),(10,(.int .i64 ms))]/\aE.l65513 F ap cW ed ee n pj pl mr ms H=some r:=by
 unfold aE.lh65513 at h
 split at h
 ·exact ⟨_,_,_,_,rfl,⟨‹_›,‹_›,‹_›,trivial⟩,h⟩
 ·cases h
def aE.lh65515 (F:Nat) (ap:Int->Int->Sl->Int->Int->Hp->OA) (cW:Int->Hp->OA) (ed:Int->Int->Sl->Int->Int->Hp->OA) (ee:Int->Int->Sl->Int->Int->Hp->OA) (ks:List Nat) (n:Nat) (tm:Tm) (H:Hp):OA:=match ks,tm 0,tm 1,tm 11 with
 | [],(.ptr nn np),(.int .i64 lz),(.int .i64 kA)=>aE.l65515 F ap cW ed ee n nn np lz kA H
 | _,_,_,_=>none
theorem aE.lh65515_inv {F:Nat} {ap:Int->Int->Sl->Int->Int->Hp->OA} {cW:Int->Hp->OA} {ed:Int->Int->Sl->Int->Int->Hp->OA} {ee:Int->Int->Sl->Int->Int->Hp->OA} {ks:List Nat} {n:Nat} {tm:Tm} {H:Hp} {r:AV×Hp} (h:aE.lh65515 F ap cW ed ee ks n tm H=some r):∃ nn np lz kA,ks=[]/\dZ tm [(0,(.ptr nn np)),(1,(.int .i64 lz)),(11,(.int .i64 kA))]/\aE.l65515 F ap cW ed ee n nn np lz kA H=some r:=by
 unfold aE.lh65515 at h
 split at h
 ·exact ⟨_,_,_,_,rfl,⟨‹_›,‹_›,‹_›,trivial⟩,h⟩
 ·cases h
def aE.lh469 (F:Nat) (ap:Int->Int->Sl->Int->Int->Hp->OA) (cW:Int->Hp->OA) (ed:Int->Int->Sl->Int->Int->Hp->OA) (ee:Int->Int->Sl->Int->Int->Hp->OA) (ks:List Nat) (n:Nat) (tm:Tm) (H:Hp):OA:=match ks,tm 0,tm 1,tm 5,tm 6,tm 7,tm 8 with
 | [fj],(.ptr nq nr),(.int .i64 lA),(.int .i64 lC),(.int .i64 mu),(.int .i64 jy),(.int .i64 jz)=>aE.l469 F ap cW ed ee (aE.l29 F ap cW ed ee fj) n nq nr lA lC mu jy jz H
 | _,_,_,_,_,_,_=>none
theorem aE.lh469_inv {F:Nat} {ap:Int->Int->Sl->Int->Int->Hp->OA} {cW:Int->Hp->OA} {ed:Int->Int->Sl->Int->Int->Hp->OA} {ee:Int->Int->Sl->Int->Int->Hp->OA} {ks:List Nat} {n:Nat} {tm:Tm} {H:Hp} {r:AV×Hp} (h:aE.lh469 F ap cW ed ee ks n tm H=some r):∃ fj nq nr lA lC mu jy jz,ks=[fj]/\dZ tm [(0,(.ptr nq nr)),(1,(.int .i64 lA)),(5,(.int .i64 lC)),(6,(.int .i64 mu)),(7,(.int .i64 jy)),(8,(.int .i64 jz))]/\aE.l469 F ap cW ed ee (aE.l29 F ap cW ed ee fj) n nq nr lA lC mu jy jz H=some r:=by
 unfold aE.lh469 at h
 split at h
 ·exact ⟨_,_,_,_,_,_,_,_,rfl,⟨‹_›,‹_›,‹_›,‹_›,‹_›,‹_›,trivial⟩,h⟩
 ·cases h
def aE.lh (F:Nat) (ap:Int->Int->Sl->Int->Int->Hp->OA) (cW:Int->Hp->OA) (ed:Int->Int->Sl->Int->Int->Hp->OA) (ee:Int->Int->Sl->Int->Int->Hp->OA) (p:Nat) (ks:List Nat) (n:Nat) (tm:Tm) (H:Hp):OA:=bif p.beq 469 then aE.lh469 F ap cW ed ee ks n tm H else (bif p.beq 65515 then aE.lh65515 F ap cW ed ee ks n tm H else (bif p.beq 65513 then aE.lh65513 F ap cW ed ee ks n tm H else (bif p.beq 29 then aE.lh29 F ap cW ed ee ks n tm H else (none))))
def aE.pn:Nat->List Nat:=eU [(23,[23]),(27,[23]),(28,[23])]
def aE.tb:Nat->List (List Nat):=eU [(23,[[],[0],[0,1],[0,1,2],[0,1,2,3],[],[],[6],[6,7],[6,7,8],[6,7,8,9],[5,6,7,8,9,10],[],[5,6,7,8,9,10,11,12],[],[14],[14,15],[14,15,16],[],[],[14,15,16,17,18,19],[14,15,16,17,18,19,20],[0,1,2,3,4,5,6,7,8,9,10,11,12,13,14,15,16,17,18,19,20,21],[0,1,2,3,4,5,6,7,8,9,10,11,12,13,14,15,16,17,18,19,20,21,22]]),(27,[[],[0],[0,1],[0,1,2],[0,1,2,3],[],[],[6],[6,7],[6,7,8],[6,7,8,9],[5,6,7,8,9,10],[],[5,6,7,8,9,10,11,12],[],[14],[14,15],[14,15,16],[],[],[14,15,16,17,18,19],[14,15,16,17,18,19,20],[0,1,2,3,4,5,6,7,8,9,10,11,12,13,14,15,16,17,18,19,20,21],[0,1,2,3,4,5,6,7,8,9,10,11,12,13,14,15,16,17,18,19,20,21,22]]),(28,[[],[0],[0,1],[0,1,2],[0,1,2,3],[],[],[6],[6,7],[6,7,8],[6,7,8,9],[5,6,7,8,9,10],[],[5,6,7,8,9,10,11,12],[],[14],[14,15],[14,15,16],[],[],[14,15,16,17,18,19],[14,15,16,17,18,19,20],[0,1,2,3,4,5,6,7,8,9,10,11,12,13,14,15,16,17,18,19,20,21],[0,1,2,3,4,5,6,7,8,9,10,11,12,13,14,15,16,17,18,19,20,21,22]])]
def aE.mk (g:Nat->Nat->Int->Hp->OA) (args:List AV) (H:Hp):OA:=match args with
 | [(.ptr aa ac),(.int .i64 af)]=>g aa ac af H
 | _=>none
def aE.cs (F:Nat) (ap:Int->Int->Sl->Int->Int->Hp->OA) (cW:Int->Hp->OA) (ed:Int->Int->Sl->Int->Int->Hp->OA) (ee:Int->Int->Sl->Int->Int->Hp->OA):Cs:=[(32,bB.mk ap),(46,e_.mk cW),(104,da.mk ed),(105,db.mk ee)]
theorem aE.loops (F:Nat) (ap:Int->Int->Sl->Int->Int->Hp->OA) (cW:Int->Hp->OA) (ed:Int->Int->Sl->Int->Int->Hp->OA) (ee:Int->Int->Sl->Int->Int->Hp->OA):LO (bh (aE.cs F ap cW ed ee)) aE.pn (aE.lh F ap cW ed ee) F Tryz.f83:=
 (ae.rt (ae.rt (ae.seq (ae.rt (ae.block (ae.la (λn tm H r h=>by obtain ⟨fc,iF,fd,fk,oz,oA,hks,e,h⟩:=aE.lh29_inv (show aE.lh29 F ap cW ed ee [] n tm H=some r from h);obtain _ | k29:=n;cases h;exact ⟨_,rfl,by rw [<- eb e];exact Eq.trans (by kernel_rfl) h⟩) λk29=>(ae.rt (ae.lt (ae.block (ae.rt (ae.block (ae.la (λn tm H r h=>by obtain ⟨fj,nq,nr,lA,lC,mu,jy,jz,hks,e,h⟩:=aE.lh469_inv (show aE.lh469 F ap cW ed ee [k29] n tm H=some r from h);cases hks;obtain _ | k469:=n;cases h;exact ⟨_,rfl,by rw [<- eb e];exact Eq.trans (by kernel_rfl) h⟩) λk469=>ae.no))))))))) (ae.rt (ae.rt (ae.rt (ae.rt (ae.rt (ae.rt (ae.rt (ae.lt (ae.rt (ae.cond (ae.seq (ae.rt (ae.block (ae.la (λn tm H r h=>by obtain ⟨pj,pl,mr,ms,hks,e,h⟩:=aE.lh65513_inv (show aE.lh65513 F ap cW ed ee [] n tm H=some r from h);obtain _ | k65513:=n;cases h;exact ⟨_,rfl,by rw [<- eb e];exact Eq.trans (by kernel_rfl) h⟩) λk65513=>ae.no))) (ae.rt (ae.block (ae.la (λn tm H r h=>by obtain ⟨nn,np,lz,kA,hks,e,h⟩:=aE.lh65515_inv (show aE.lh65515 F ap cW ed ee [] n tm H=some r from h);obtain _ | k65515:=n;cases h;exact ⟨_,rfl,by rw [<- eb e];exact Eq.trans (by kernel_rfl) h⟩) λk65515=>ae.no)))) ae.no)))))))))))))
theorem aE.eqX (F:Nat) (ap:Int->Int->Sl->Int->Int->Hp->OA) (cW:Int->Hp->OA) (ed:Int->Int->Sl->Int->Int->Hp->OA) (ee:Int->Int->Sl->Int->Int->Hp->OA) (aa:Nat) (ac:Nat) (af:Int) (H:Hp):EX (bh (aE.cs F ap cW ed ee)) aE.pn (aE.lh F ap cW ed ee) F Tryz.f83 [(.ptr aa ac),(.int .i64 af)] H=aE.twX F ap cW ed ee aa ac af H:=by kernel_rfl
theorem aE.k (F:Nat):Ok Tryz.prog 83 (aE.mk (aE.tw F)):=by
 intro args H v H' h
 unfold aE.mk at h
 split at h
 ·exact okT (TB:=aE.tb) Tryz.func83 (bg (bB.k F) (bg (e_.k F) (bg (da.k F) (bg (db.k F) ca)))) (aE.loops F (bB.tw F) (e_.tw F) (da.tw F) (db.tw F)) ((aE.eqX F (bB.tw F) (e_.tw F) (da.tw F) (db.tw F) _ _ _ H).trans h) (by kernel_rfl)
 ·cases h
def ii.twX (F:Nat) (aa:Int) (ai:Int) (H:Hp):OA:=(if ai=0 then none else ((if ai=0 then none else ((bif (decide ((Int.tmod aa ai)<0)) then (some ((.int .i64 (IntKind.i64.wrap ((IntKind.i64.wrap (Int.tdiv aa ai)) - 1))),H)) else (some ((.int .i64 (IntKind.i64.wrap (Int.tdiv aa ai))),H)))))))
def ii.tw (F:Nat) (aa:Int) (ai:Int) (H:Hp):OA:=ii.twX F aa ai H
def ii.mk (g:Int->Int->Hp->OA) (args:List AV) (H:Hp):OA:=match args with
 | [(.int .i64 aa),(.int .i64 ai)]=>g aa ai H
 | _=>none
theorem ii.eqX (F:Nat) (aa:Int) (ai:Int) (H:Hp):EX (bh []) aW lh0 F Tryz.f85 [(.int .i64 aa),(.int .i64 ai)] H=ii.twX F aa ai H:=by kernel_rfl
theorem ii.k (F:Nat):Ok Tryz.prog 85 (ii.mk (ii.tw F)):=by
 intro args H v H' h
 unfold ii.mk at h
 split at h
 ·exact okT (TB:=aW) Tryz.func85 ca ae.no ((ii.eqX F _ _ H).trans h) (by kernel_rfl)
 ·cases h
def gC.twX (F:Nat) (cW:Int->Hp->OA) (aa:Int) (ai:Int) (cV:Int) (H:Hp):OA:=(bif (aa != 0) then ((cW ai H).bind λr4=>((r4.1).asI .i64).bind λn5=>(cW aa r4.2).bind λr6=>((r6.1).asI .i64).bind λn7=>(if n7=0 then none else ((bif (decide (n5>(IntKind.i64.wrap (Int.tdiv cV n7)))) then (some ((.tup [(.int .i64 0),(.bool false)]),r6.2)) else (some ((.tup [(.int .i64 (IntKind.i64.wrap (aa * ai))),(.bool true)]),r6.2)))))) else (some ((.tup [(.int .i64 (IntKind.i64.wrap (aa * ai))),(.bool true)]),H)))
def gC.tw (F:Nat) (aa:Int) (ai:Int) (cV:Int) (H:Hp):OA:=gC.twX F (e_.tw F) aa ai cV H
def gC.mk (g:Int->Int->Int->Hp->OA) (args:List AV) (H:Hp):OA:=match args with
 | [(.int .i64 aa),(.int .i64 ai),(.int .i64 cV)]=>g aa ai cV H
 | _=>none
def gC.cs (F:Nat) (cW:Int->Hp->OA):Cs:=[(46,e_.mk cW)]
theorem gC.eqX (F:Nat) (cW:Int->Hp->OA) (aa:Int) (ai:Int) (cV:Int) (H:Hp):EX (bh (gC.cs F cW)) aW lh0 F Tryz.f22 [(.int .i64 aa),(.int .i64 ai),(.int .i64 cV)] H=gC.twX F cW aa ai cV H:=by kernel_rfl
theorem gC.k (F:Nat):Ok Tryz.prog 22 (gC.mk (gC.tw F)):=by
 intro args H v H' h
 unfold gC.mk at h
 split at h
 ·exact okT (TB:=aW) Tryz.func22 (bg (e_.k F) ca) ae.no ((gC.eqX F (e_.tw F) _ _ _ H).trans h) (by kernel_rfl)
 ·cases h
def gG.twX (F:Nat) (iw:Int->Int->Int->Hp->OA) (aa:Int) (ai:Int) (cV:Int) (H:Hp):OA:=(iw ai cV 2000000000000 H).bind λr4=>((r4.1).asTup 2).bind λl5=>(l5[0]?).bind λv6=>((v6).asI .i64).bind λn7=>(l5[1]?).bind λv8=>((v8).asB).bind λb9=>(bif (!b9) then (some ((.int .i64 3000000000000),r4.2)) else (some ((.int .i64 (IntKind.i64.wrap (aa - n7))),r4.2)))
def gG.tw (F:Nat) (aa:Int) (ai:Int) (cV:Int) (H:Hp):OA:=gG.twX F (gC.tw F) aa ai cV H
def gG.mk (g:Int->Int->Int->Hp->OA) (args:List AV) (H:Hp):OA:=match args with
 | [(.int .i64 aa),(.int .i64 ai),(.int .i64 cV)]=>g aa ai cV H
 | _=>none
def gG.cs (F:Nat) (iw:Int->Int->Int->Hp->OA):Cs:=[(22,gC.mk iw)]
theorem gG.eqX (F:Nat) (iw:Int->Int->Int->Hp->OA) (aa:Int) (ai:Int) (cV:Int) (H:Hp):EX (bh (gG.cs F iw)) aW lh0 F Tryz.f126 [(.int .i64 aa),(.int .i64 ai),(.int .i64 cV)] H=gG.twX F iw aa ai cV H:=by kernel_rfl
theorem gG.k (F:Nat):Ok Tryz.prog 126 (gG.mk (gG.tw F)):=by
 intro args H v H' h
 unfold gG.mk at h
 split at h
 ·exact okT (TB:=aW) Tryz.func126 (bg (gC.k F) ca) ae.no ((gG.eqX F (gC.tw F) _ _ _ H).trans h) (by kernel_rfl)
 ·cases h
def gH.twX (F:Nat) (cW:Int->Hp->OA) (aa:Nat) (ac:Nat) (af:Int) (aw:Int) (dS:Sl) (cP:Int) (ef:Int) (dU:Int) (H:Hp):OA:=(Hp.new H [(.int .i64 af),(.int .i64 aw),(.sl dS)]).bind λH9=>(cW dU H9).bind λr10=>((r10.1).asI .i64).bind λn11=>(bif (decide (n11>1000000000000)) then ((Hp.st r10.2 aa (ac+15) (.bool true)).bind λH12=>some ((.tup []),H12)) else ((Hp.ldSl r10.2 H.length 2).bind λs13=>(Hp.ldI r10.2 .i64 H.length 1).bind λn14=>(Sl.idx s13 (IntKind.i64.wrap ((IntKind.i64.wrap (cP * n14))+ef)) 1).bind λp15=>(Hp.st r10.2 p15.1 p15.2 (.int .i64 dU)).bind λH16=>some ((.tup []),H16)))
def gH.tw (F:Nat) (aa:Nat) (ac:Nat) (af:Int) (aw:Int) (dS:Sl) (cP:Int) (ef:Int) (dU:Int) (H:Hp):OA:=gH.twX F (e_.tw F) aa ac af aw dS cP ef dU H
def gH.mk (g:Nat->Nat->Int->Int->Sl->Int->Int->Int->Hp->OA) (args:List AV) (H:Hp):OA:=match args with
 | [(.ptr aa ac),(.agg [(.int .i64 af),(.int .i64 aw),(.sl dS)]),(.int .i64 cP),(.int .i64 ef),(.int .i64 dU)]=>g aa ac af aw dS cP ef dU H
 | _=>none
def gH.cs (F:Nat) (cW:Int->Hp->OA):Cs:=[(46,e_.mk cW)]
theorem gH.eqX (F:Nat) (cW:Int->Hp->OA) (aa:Nat) (ac:Nat) (af:Int) (aw:Int) (dS:Sl) (cP:Int) (ef:Int) (dU:Int) (H:Hp):EX (bh (gH.cs F cW)) aW lh0 F Tryz.f125 [(.ptr aa ac),(.agg [(.int .i64 af),(.int .i64 aw),(.sl dS)]),(.int .i64 cP),(.int .i64 ef),(.int .i64 dU)] H=gH.twX F cW aa ac af aw dS cP ef dU H:=by kernel_rfl
theorem gH.k (F:Nat):Ok Tryz.prog 125 (gH.mk (gH.tw F)):=by
 intro args H v H' h
 unfold gH.mk at h
 split at h
 ·exact okT (TB:=aW) Tryz.func125 (bg (e_.k F) ca) ae.no ((gH.eqX F (e_.tw F) _ _ _ _ _ _ _ _ H).trans h) (by kernel_rfl)
 ·cases h
def dp.l7 (F:Nat) (ap:Int->Int->Sl->Int->Int->Hp->OA) (fT:Int->Int->Int->Hp->OA) (fU:Nat->Nat->Int->Int->Sl->Int->Int->Int->Hp->OA) :Nat->Nat->Nat->Int->Int->Int->Nat->Nat->Int->Hp->OA
 | 0,_,_,_,_,_,_,_,_,_=>none
 | nm+1,mv,fi,hU,fa,iG,fV,dq,fW,H21=>(Hp.ldI H21 .i64 fV (dq+1)).bind λn40=>(bif (decide (fW<n40)) then ((Hp.ldB H21 mv (fi+15)).bind λb41=>(bif (!b41) then ((Hp.ldI H21 .i64 fV dq).bind λn42=>(Hp.ldI H21 .i64 fV (dq+1)).bind λn43=>(Hp.ldSl H21 fV (dq+2)).bind λs44=>(Hp.ldI H21 .i64 fV dq).bind λn45=>(Hp.ldI H21 .i64 fV (dq+1)).bind λn46=>(Hp.ldSl H21 fV (dq+2)).bind λs47=>(ap n45 n46 s47 hU fW H21).bind λr48=>((r48.1).asI .i64).bind λn49=>(if bp H21 r48.2 then ((Hp.ldI r48.2 .i64 fV dq).bind λn50=>(Hp.ldI r48.2 .i64 fV (dq+1)).bind λn51=>(Hp.ldSl r48.2 fV (dq+2)).bind λs52=>(ap n50 n51 s52 fa fW r48.2).bind λr53=>((r53.1).asI .i64).bind λn54=>(if bp r48.2 r53.2 then ((fT n49 iG n54 r53.2).bind λr55=>((r55.1).asI .i64).bind λn56=>(if bp r53.2 r55.2 then ((fU mv fi n42 n43 s44 hU fW n56 r55.2).bind λr57=>dp.l7 F ap fT fU nm mv fi hU fa iG fV dq (IntKind.i64.wrap (fW+1)) r57.2) else none)) else none)) else none)) else (some ((.tup []),H21)))) else (some ((.tup []),H21)))
termination_by structural n=>n
def dp.twX (F:Nat) (ap:Int->Int->Sl->Int->Int->Hp->OA) (fT:Int->Int->Int->Hp->OA) (fU:Nat->Nat->Int->Int->Sl->Int->Int->Int->Hp->OA) (aa:Nat) (ac:Nat) (af:Int) (aw:Int) (dS:Sl) (cP:Int) (ef:Int) (dU:Int) (H:Hp):OA:=(Hp.new H [(.int .i64 af),(.int .i64 aw),(.sl dS)]).bind λH9=>dp.l7 F ap fT fU F aa ac cP ef dU H.length 0 0 H9
def dp.tw (F:Nat) (aa:Nat) (ac:Nat) (af:Int) (aw:Int) (dS:Sl) (cP:Int) (ef:Int) (dU:Int) (H:Hp):OA:=dp.twX F (bB.tw F) (gG.tw F) (gH.tw F) aa ac af aw dS cP ef dU H
def dp.lh7 (F:Nat) (ap:Int->Int->Sl->Int->Int->Hp->OA) (fT:Int->Int->Int->Hp->OA) (fU:Nat->Nat->Int->Int->Sl->Int->Int->Int->Hp->OA) (ks:List Nat) (n:Nat) (tm:Tm) (H:Hp):OA:=match ks,tm 0,tm 2,tm 3,tm 4,tm 6,tm 10 with
 | [],(.ptr mv fi),(.int .i64 hU),(.int .i64 fa),(.int .i64 iG),(.ptr fV dq),(.int .i64 fW)=>dp.l7 F ap fT fU n mv fi hU fa iG fV dq fW H
 | _,_,_,_,_,_,_=>none
theorem dp.lh7_inv {F:Nat} {ap:Int->Int->Sl->Int->Int->Hp->OA} {fT:Int->Int->Int->Hp->OA} {fU:Nat->Nat->Int->Int->Sl->Int->Int->Int->Hp->OA} {ks:List Nat} {n:Nat} {tm:Tm} {H:Hp} {r:AV×Hp} (h:dp.lh7 F ap fT fU ks n tm H=some r):∃ mv fi hU fa iG fV dq fW,ks=[]/\dZ tm [(0,(.ptr mv fi)),(2,(.int .i64 hU)),(3,(.int .i64 fa)),(4,(.int .i64 iG)),(6,(.ptr fV dq)),(10,(.int .i64 fW))]/\dp.l7 F ap fT fU n mv fi hU fa iG fV dq fW H=some r:=by
 unfold dp.lh7 at h
 split at h
 ·exact ⟨_,_,_,_,_,_,_,_,rfl,⟨‹_›,‹_›,‹_›,‹_›,‹_›,‹_›,trivial⟩,h⟩
 ·cases h
def dp.lh (F:Nat) (ap:Int->Int->Sl->Int->Int->Hp->OA) (fT:Int->Int->Int->Hp->OA) (fU:Nat->Nat->Int->Int->Sl->Int->Int->Int->Hp->OA) (p:Nat) (ks:List Nat) (n:Nat) (tm:Tm) (H:Hp):OA:=bif p.beq 7 then dp.lh7 F ap fT fU ks n tm H else (none)
def dp.pn:Nat->List Nat:=eU [(4,[14])]
def dp.tb:Nat->List (List Nat):=eU [(4,[[],[],[],[],[],[],[],[4,5,6],[],[],[],[],[4,5,6,7,9,10,11],[4,5,6,7,8,9,10,11,12],[0,1,2,3,4,5,6,7,8,9,10,11,12,13]])]
def dp.mk (g:Nat->Nat->Int->Int->Sl->Int->Int->Int->Hp->OA) (args:List AV) (H:Hp):OA:=match args with
 | [(.ptr aa ac),(.agg [(.int .i64 af),(.int .i64 aw),(.sl dS)]),(.int .i64 cP),(.int .i64 ef),(.int .i64 dU)]=>g aa ac af aw dS cP ef dU H
 | _=>none
def dp.cs (F:Nat) (ap:Int->Int->Sl->Int->Int->Hp->OA) (fT:Int->Int->Int->Hp->OA) (fU:Nat->Nat->Int->Int->Sl->Int->Int->Int->Hp->OA):Cs:=[(32,bB.mk ap),(126,gG.mk fT),(125,gH.mk fU)]
theorem dp.loops (F:Nat) (ap:Int->Int->Sl->Int->Int->Hp->OA) (fT:Int->Int->Int->Hp->OA) (fU:Nat->Nat->Int->Int->Sl->Int->Int->Int->Hp->OA):LO (bh (dp.cs F ap fT fU)) dp.pn (dp.lh F ap fT fU) F Tryz.f106:=
 (ae.rt (ae.rt (ae.block (ae.la (λn tm H r h=>by obtain ⟨mv,fi,hU,fa,iG,fV,dq,fW,hks,e,h⟩:=dp.lh7_inv (show dp.lh7 F ap fT fU [] n tm H=some r from h);obtain _ | k7:=n;cases h;exact ⟨_,rfl,by rw [<- eb e];exact Eq.trans (by kernel_rfl) h⟩) λk7=>ae.no))))
theorem dp.eqX (F:Nat) (ap:Int->Int->Sl->Int->Int->Hp->OA) (fT:Int->Int->Int->Hp->OA) (fU:Nat->Nat->Int->Int->Sl->Int->Int->Int->Hp->OA) (aa:Nat) (ac:Nat) (af:Int) (aw:Int) (dS:Sl) (cP:Int) (ef:Int) (dU:Int) (H:Hp):EX (bh (dp.cs F ap fT fU)) dp.pn (dp.lh F ap fT fU) F Tryz.f106 [(.ptr aa ac),(.agg [(.int .i64 af),(.int .i64 aw),(.sl dS)]),(.int .i64 cP),(.int .i64 ef),(.int .i64 dU)] H=dp.twX F ap fT fU aa ac af aw dS cP ef dU H:=by kernel_rfl
theorem dp.k (F:Nat):Ok Tryz.prog 106 (dp.mk (dp.tw F)):=by
 intro args H v H' h
 unfold dp.mk at h
 split at h
 ·exact okT (TB:=dp.tb) Tryz.func106 (bg (bB.k F) (bg (gG.k F) (bg (gH.k F) ca))) (dp.loops F (bB.tw F) (gG.tw F) (gH.tw F)) ((dp.eqX F (bB.tw F) (gG.tw F) (gH.tw F) _ _ _ _ _ _ _ _ H).trans h) (by kernel_rfl)
 ·cases h
def dr.l7 (F:Nat) (ap:Int->Int->Sl->Int->Int->Hp->OA) (fT:Int->Int->Int->Hp->OA) (fU:Nat->Nat->Int->Int->Sl->Int->Int->Int->Hp->OA) :Nat->Nat->Nat->Int->Int->Int->Nat->Nat->Int->Hp->OA
 | 0,_,_,_,_,_,_,_,_,_=>none
 | nm+1,mv,fi,hU,fa,iG,fV,dq,fW,H21=>(Hp.ldI H21 .i64 fV dq).bind λn40=>(bif (decide (fW<n40)) then ((Hp.ldB H21 mv (fi+15)).bind λb41=>(bif (!b41) then ((Hp.ldI H21 .i64 fV dq).bind λn42=>(Hp.ldI H21 .i64 fV (dq+1)).bind λn43=>(Hp.ldSl H21 fV (dq+2)).bind λs44=>(Hp.ldI H21 .i64 fV dq).bind λn45=>(Hp.ldI H21 .i64 fV (dq+1)).bind λn46=>(Hp.ldSl H21 fV (dq+2)).bind λs47=>(ap n45 n46 s47 fW hU H21).bind λr48=>((r48.1).asI .i64).bind λn49=>(if bp H21 r48.2 then ((Hp.ldI r48.2 .i64 fV dq).bind λn50=>(Hp.ldI r48.2 .i64 fV (dq+1)).bind λn51=>(Hp.ldSl r48.2 fV (dq+2)).bind λs52=>(ap n50 n51 s52 fW fa r48.2).bind λr53=>((r53.1).asI .i64).bind λn54=>(if bp r48.2 r53.2 then ((fT n49 iG n54 r53.2).bind λr55=>((r55.1).asI .i64).bind λn56=>(if bp r53.2 r55.2 then ((fU mv fi n42 n43 s44 fW hU n56 r55.2).bind λr57=>dr.l7 F ap fT fU nm mv fi hU fa iG fV dq (IntKind.i64.wrap (fW+1)) r57.2) else none)) else none)) else none)) else (some ((.tup []),H21)))) else (some ((.tup []),H21)))
termination_by structural n=>n
def dr.twX (F:Nat) (ap:Int->Int->Sl->Int->Int->Hp->OA) (fT:Int->Int->Int->Hp->OA) (fU:Nat->Nat->Int->Int->Sl->Int->Int->Int->Hp->OA) (aa:Nat) (ac:Nat) (af:Int) (aw:Int) (dS:Sl) (cP:Int) (ef:Int) (dU:Int) (H:Hp):OA:=(Hp.new H [(.int .i64 af),(.int .i64 aw),(.sl dS)]).bind λH9=>dr.l7 F ap fT fU F aa ac cP ef dU H.length 0 0 H9
def dr.tw (F:Nat) (aa:Nat) (ac:Nat) (af:Int) (aw:Int) (dS:Sl) (cP:Int) (ef:Int) (dU:Int) (H:Hp):OA:=dr.twX F (bB.tw F) (gG.tw F) (gH.tw F) aa ac af aw dS cP ef dU H
def dr.lh7 (F:Nat) (ap:Int->Int->Sl->Int->Int->Hp->OA) (fT:Int->Int->Int->Hp->OA) (fU:Nat->Nat->Int->Int->Sl->Int->Int->Int->Hp->OA) (ks:List Nat) (n:Nat) (tm:Tm) (H:Hp):OA:=match ks,tm 0,tm 2,tm 3,tm 4,tm 6,tm 10 with
 | [],(.ptr mv fi),(.int .i64 hU),(.int .i64 fa),(.int .i64 iG),(.ptr fV dq),(.int .i64 fW)=>dr.l7 F ap fT fU n mv fi hU fa iG fV dq fW H
 | _,_,_,_,_,_,_=>none
theorem dr.lh7_inv {F:Nat} {ap:Int->Int->Sl->Int->Int->Hp->OA} {fT:Int->Int->Int->Hp->OA} {fU:Nat->Nat->Int->Int->Sl->Int->Int->Int->Hp->OA} {ks:List Nat} {n:Nat} {tm:Tm} {H:Hp} {r:AV×Hp} (h:dr.lh7 F ap fT fU ks n tm H=some r):∃ mv fi hU fa iG fV dq fW,ks=[]/\dZ tm [(0,(.ptr mv fi)),(2,(.int .i64 hU)),(3,(.int .i64 fa)),(4,(.int .i64 iG)),(6,(.ptr fV dq)),(10,(.int .i64 fW))]/\dr.l7 F ap fT fU n mv fi hU fa iG fV dq fW H=some r:=by
 unfold dr.lh7 at h
 split at h
 ·exact ⟨_,_,_,_,_,_,_,_,rfl,⟨‹_›,‹_›,‹_›,‹_›,‹_›,‹_›,trivial⟩,h⟩
 ·cases h
def dr.lh (F:Nat) (ap:Int->Int->Sl->Int->Int->Hp->OA) (fT:Int->Int->Int->Hp->OA) (fU:Nat->Nat->Int->Int->Sl->Int->Int->Int->Hp->OA) (p:Nat) (ks:List Nat) (n:Nat) (tm:Tm) (H:Hp):OA:=bif p.beq 7 then dr.lh7 F ap fT fU ks n tm H else (none)
def dr.pn:Nat->List Nat:=eU [(4,[14])]
def dr.tb:Nat->List (List Nat):=eU [(4,[[],[],[],[],[],[],[],[4,5,6],[],[],[],[],[4,5,6,7,9,10,11],[4,5,6,7,8,9,10,11,12],[0,1,2,3,4,5,6,7,8,9,10,11,12,13]])]
def dr.mk (g:Nat->Nat->Int->Int->Sl->Int->Int->Int->Hp->OA) (args:List AV) (H:Hp):OA:=match args with
 | [(.ptr aa ac),(.agg [(.int .i64 af),(.int .i64 aw),(.sl dS)]),(.int .i64 cP),(.int .i64 ef),(.int .i64 dU)]=>g aa ac af aw dS cP ef dU H
 | _=>none
def dr.cs (F:Nat) (ap:Int->Int->Sl->Int->Int->Hp->OA) (fT:Int->Int->Int->Hp->OA) (fU:Nat->Nat->Int->Int->Sl->Int->Int->Int->Hp->OA):Cs:=[(32,bB.mk ap),(126,gG.mk fT),(125,gH.mk fU)]
theorem dr.loops (F:Nat) (ap:Int->Int->Sl->Int->Int->Hp->OA) (fT:Int->Int->Int->Hp->OA) (fU:Nat->Nat->Int->Int->Sl->Int->Int->Int->Hp->OA):LO (bh (dr.cs F ap fT fU)) dr.pn (dr.lh F ap fT fU) F Tryz.f107:=
 (ae.rt (ae.rt (ae.block (ae.la (λn tm H r h=>by obtain ⟨mv,fi,hU,fa,iG,fV,dq,fW,hks,e,h⟩:=dr.lh7_inv (show dr.lh7 F ap fT fU [] n tm H=some r from h);obtain _ | k7:=n;cases h;exact ⟨_,rfl,by rw [<- eb e];exact Eq.trans (by kernel_rfl) h⟩) λk7=>ae.no))))
theorem dr.eqX (F:Nat) (ap:Int->Int->Sl->Int->Int->Hp->OA) (fT:Int->Int->Int->Hp->OA) (fU:Nat->Nat->Int->Int->Sl->Int->Int->Int->Hp->OA) (aa:Nat) (ac:Nat) (af:Int) (aw:Int) (dS:Sl) (cP:Int) (ef:Int) (dU:Int) (H:Hp):EX (bh (dr.cs F ap fT fU)) dr.pn (dr.lh F ap fT fU) F Tryz.f107 [(.ptr aa ac),(.agg [(.int .i64 af),(.int .i64 aw),(.sl dS)]),(.int .i64 cP),(.int .i64 ef),(.int .i64 dU)] H=dr.twX F ap fT fU aa ac af aw dS cP ef dU H:=by kernel_rfl
theorem dr.k (F:Nat):Ok Tryz.prog 107 (dr.mk (dr.tw F)):=by
 intro args H v H' h
 unfold dr.mk at h
 split at h
 ·exact okT (TB:=dr.tb) Tryz.func107 (bg (bB.k F) (bg (gG.k F) (bg (gH.k F) ca))) (dr.loops F (bB.tw F) (gG.tw F) (gH.tw F)) ((dr.eqX F (bB.tw F) (gG.tw F) (gH.tw F) _ _ _ _ _ _ _ _ H).trans h) (by kernel_rfl)
 ·cases h
def gT.twX (F:Nat) (pm:Nat->Nat->Int->Int->Sl->Int->Int->Int->Hp->OA) (po:Nat->Nat->Int->Int->Sl->Int->Int->Int->Hp->OA) (aa:Nat) (ac:Nat) (af:Int) (cf:Int) (dH:Int) (H:Hp):OA:=(bif (dH != 0) then ((Hp.ldI H .i64 aa ac).bind λn6=>(Hp.ldI H .i64 aa (ac+1)).bind λn7=>(Hp.ldSl H aa (ac+2)).bind λs8=>(pm aa ac n6 n7 s8 af cf dH H).bind λr9=>(Hp.ldI r9.2 .i64 aa (ac+3)).bind λn10=>(Hp.ldI r9.2 .i64 aa ((ac+3)+1)).bind λn11=>(Hp.ldSl r9.2 aa ((ac+3)+2)).bind λs12=>(pm aa ac n10 n11 s12 af cf dH r9.2).bind λr13=>(Hp.ldI r13.2 .i64 aa (ac+6)).bind λn14=>(Hp.ldI r13.2 .i64 aa ((ac+6)+1)).bind λn15=>(Hp.ldSl r13.2 aa ((ac+6)+2)).bind λs16=>(po aa ac n14 n15 s16 cf af (IntKind.i64.wrap (0 - dH)) r13.2).bind λr17=>some ((.tup []),r17.2)) else (some ((.tup []),H)))
def gT.tw (F:Nat) (aa:Nat) (ac:Nat) (af:Int) (cf:Int) (dH:Int) (H:Hp):OA:=gT.twX F (dp.tw F) (dr.tw F) aa ac af cf dH H
def gT.mk (g:Nat->Nat->Int->Int->Int->Hp->OA) (args:List AV) (H:Hp):OA:=match args with
 | [(.ptr aa ac),(.int .i64 af),(.int .i64 cf),(.int .i64 dH)]=>g aa ac af cf dH H
 | _=>none
def gT.cs (F:Nat) (pm:Nat->Nat->Int->Int->Sl->Int->Int->Int->Hp->OA) (po:Nat->Nat->Int->Int->Sl->Int->Int->Int->Hp->OA):Cs:=[(106,dp.mk pm),(107,dr.mk po)]
theorem gT.eqX (F:Nat) (pm:Nat->Nat->Int->Int->Sl->Int->Int->Int->Hp->OA) (po:Nat->Nat->Int->Int->Sl->Int->Int->Int->Hp->OA) (aa:Nat) (ac:Nat) (af:Int) (cf:Int) (dH:Int) (H:Hp):EX (bh (gT.cs F pm po)) aW lh0 F Tryz.f84 [(.ptr aa ac),(.int .i64 af),(.int .i64 cf),(.int .i64 dH)] H=gT.twX F pm po aa ac af cf dH H:=by kernel_rfl
theorem gT.k (F:Nat):Ok Tryz.prog 84 (gT.mk (gT.tw F)):=by
 intro args H v H' h
 unfold gT.mk at h
 split at h
 ·exact okT (TB:=aW) Tryz.func84 (bg (dp.k F) (bg (dr.k F) ca)) ae.no ((gT.eqX F (dp.tw F) (dr.tw F) _ _ _ _ _ H).trans h) (by kernel_rfl)
 ·cases h
def hY.twX (F:Nat) (po:Nat->Nat->Int->Int->Sl->Int->Int->Int->Hp->OA) (pm:Nat->Nat->Int->Int->Sl->Int->Int->Int->Hp->OA) (aa:Nat) (ac:Nat) (af:Int) (cf:Int) (dH:Int) (H:Hp):OA:=(bif (dH != 0) then ((Hp.ldI H .i64 aa ac).bind λn6=>(Hp.ldI H .i64 aa (ac+1)).bind λn7=>(Hp.ldSl H aa (ac+2)).bind λs8=>(po aa ac n6 n7 s8 af cf dH H).bind λr9=>(Hp.ldI r9.2 .i64 aa (ac+9)).bind λn10=>(Hp.ldI r9.2 .i64 aa ((ac+9)+1)).bind λn11=>(Hp.ldSl r9.2 aa ((ac+9)+2)).bind λs12=>(po aa ac n10 n11 s12 af cf dH r9.2).bind λr13=>(Hp.ldI r13.2 .i64 aa (ac+12)).bind λn14=>(Hp.ldI r13.2 .i64 aa ((ac+12)+1)).bind λn15=>(Hp.ldSl r13.2 aa ((ac+12)+2)).bind λs16=>(pm aa ac n14 n15 s16 cf af (IntKind.i64.wrap (0 - dH)) r13.2).bind λr17=>some ((.tup []),r17.2)) else (some ((.tup []),H)))
def hY.tw (F:Nat) (aa:Nat) (ac:Nat) (af:Int) (cf:Int) (dH:Int) (H:Hp):OA:=hY.twX F (dr.tw F) (dp.tw F) aa ac af cf dH H
def hY.mk (g:Nat->Nat->Int->Int->Int->Hp->OA) (args:List AV) (H:Hp):OA:=match args with
 | [(.ptr aa ac),(.int .i64 af),(.int .i64 cf),(.int .i64 dH)]=>g aa ac af cf dH H
 | _=>none
def hY.cs (F:Nat) (po:Nat->Nat->Int->Int->Sl->Int->Int->Int->Hp->OA) (pm:Nat->Nat->Int->Int->Sl->Int->Int->Int->Hp->OA):Cs:=[(107,dr.mk po),(106,dp.mk pm)]
theorem hY.eqX (F:Nat) (po:Nat->Nat->Int->Int->Sl->Int->Int->Int->Hp->OA) (pm:Nat->Nat->Int->Int->Sl->Int->Int->Int->Hp->OA) (aa:Nat) (ac:Nat) (af:Int) (cf:Int) (dH:Int) (H:Hp):EX (bh (hY.cs F po pm)) aW lh0 F Tryz.f86 [(.ptr aa ac),(.int .i64 af),(.int .i64 cf),(.int .i64 dH)] H=hY.twX F po pm aa ac af cf dH H:=by kernel_rfl
theorem hY.k (F:Nat):Ok Tryz.prog 86 (hY.mk (hY.tw F)):=by
 intro args H v H' h
 unfold hY.mk at h
 split at h
 ·exact okT (TB:=aW) Tryz.func86 (bg (dr.k F) (bg (dp.k F) ca)) ae.no ((hY.eqX F (dr.tw F) (dp.tw F) _ _ _ _ _ H).trans h) (by kernel_rfl)
 ·cases h
def bY.l29 (F:Nat) (ap:Int->Int->Sl->Int->Int->Hp->OA) :Nat->Nat->Nat->Int->Int->Hp->OA
 | 0,_,_,_,_,_=>none
 | fj+1,qQ,qR,oB,nE,H30=>(Hp.ldI H30 .i64 qQ (qR+1)).bind λn37=>(bif (decide (nE<n37)) then ((Hp.ldI H30 .i64 qQ qR).bind λn38=>(Hp.ldI H30 .i64 qQ (qR+1)).bind λn39=>(Hp.ldSl H30 qQ (qR+2)).bind λs40=>(ap n38 n39 s40 oB nE H30).bind λr41=>((r41.1).asI .i64).bind λn42=>(bif (n42 != 0) then (some ((.bool false),r41.2)) else (bY.l29 F ap fj qQ qR oB (IntKind.i64.wrap (nE+1)) r41.2))) else (some ((.bool true),H30)))
termination_by structural n=>n
def bY.j1 (F:Nat) (ap:Int->Int->Sl->Int->Int->Hp->OA) (YP:Nat) (YQ:Nat) (tD:Int) (H22:Hp):OA:=bY.l29 F ap F YP YQ tD (IntKind.i64.wrap (tD+1)) H22
def bY.l13 (F:Nat) (ap:Int->Int->Sl->Int->Int->Hp->OA) :Nat->Nat->Nat->Int->Int->Hp->OA
 | 0,_,_,_,_,_=>none
 | jN+1,fc,iF,fd,fk,H9=>(Hp.ldI H9 .i64 fc iF).bind λn43=>(bif (decide (fk<n43)) then ((Hp.ldI H9 .i64 fc iF).bind λn44=>(Hp.ldI H9 .i64 fc (iF+1)).bind λn45=>(Hp.ldSl H9 fc (iF+2)).bind λs46=>(ap n44 n45 s46 fk fd H9).bind λr47=>((r47.1).asI .i64).bind λn48=>(bif (n48 != 0) then (some ((.bool false),r47.2)) else (bY.l13 F ap jN fc iF fd (IntKind.i64.wrap (fk+1)) r47.2))) else (bY.j1 F ap fc iF fd H9))
termination_by structural n=>n
def bY.twX (F:Nat) (ap:Int->Int->Sl->Int->Int->Hp->OA) (aa:Nat) (ac:Nat) (af:Int) (H:Hp):OA:=bY.l13 F ap F aa ac af (IntKind.i64.wrap (af+1)) H
def bY.tw (F:Nat) (aa:Nat) (ac:Nat) (af:Int) (H:Hp):OA:=bY.twX F (bB.tw F) aa ac af H
def bY.lh13 (F:Nat) (ap:Int->Int->Sl->Int->Int->Hp->OA) (ks:List Nat) (n:Nat) (tm:Tm) (H:Hp):OA:=match ks,tm 0,tm 1,tm 5 with
 | [],(.ptr fc iF),(.int .i64 fd),(.int .i64 fk)=>bY.l13 F ap n fc iF fd fk H
 | _,_,_,_=>none
theorem bY.lh13_inv {F:Nat} {ap:Int->Int->Sl->Int->Int->Hp->OA} {ks:List Nat} {n:Nat} {tm:Tm} {H:Hp} {r:AV×Hp} (h:bY.lh13 F ap ks n tm H=some r):∃ fc iF fd fk,ks=[]/\dZ tm [(0,(.ptr fc iF)),(1,(.int .i64 fd)),(5,(.int .i64 fk))]/\bY.l13 F ap n fc iF fd fk H=some r:=by
 unfold bY.lh13 at h
 split at h
 ·exact ⟨_,_,_,_,rfl,⟨‹_›,‹_›,‹_›,trivial⟩,h⟩
 ·cases h
def bY.lh29 (F:Nat) (ap:Int->Int->Sl->Int->Int->Hp->OA) (ks:List Nat) (n:Nat) (tm:Tm) (H:Hp):OA:=match ks,tm 0,tm 1,tm 6 with
 | [],(.ptr qQ qR),(.int .i64 oB),(.int .i64 nE)=>bY.l29 F ap n qQ qR oB nE H
 | _,_,_,_=>none
theorem bY.lh29_inv {F:Nat} {ap:Int->Int->Sl->Int->Int->Hp->OA} {ks:List Nat} {n:Nat} {tm:Tm} {H:Hp} {r:AV×Hp} (h:bY.lh29 F ap ks n tm H=some r):∃ qQ qR oB nE,ks=[]/\dZ tm [(0,(.ptr qQ qR)),(1,(.int .i64 oB)),(6,(.int .i64 nE))]/\bY.l29 F ap n qQ qR oB nE H=some r:=by
 unfold bY.lh29 at h
 split at h
 ·exact ⟨_,_,_,_,rfl,⟨‹_›,‹_›,‹_›,trivial⟩,h⟩
 ·cases h
def bY.lh (F:Nat) (ap:Int->Int->Sl->Int->Int->Hp->OA) (p:Nat) (ks:List Nat) (n:Nat) (tm:Tm) (H:Hp):OA:=bif p.beq 29 then bY.lh29 F ap ks n tm H else (bif p.beq 13 then bY.lh13 F ap ks n tm H else (none))
def bY.mk (g:Nat->Nat->Int->Hp->OA) (args:List AV) (H:Hp):OA:=match args with
 | [(.ptr aa ac),(.int .i64 af)]=>g aa ac af H
 | _=>none
def bY.cs (F:Nat) (ap:Int->Int->Sl->Int->Int->Hp->OA):Cs:=[(32,bB.mk ap)]
theorem bY.loops (F:Nat) (ap:Int->Int->Sl->Int->Int->Hp->OA):LO (bh (bY.cs F ap)) aW (bY.lh F ap) F Tryz.f87:=
 (ae.rt (ae.seq (ae.rt (ae.block (ae.la (λn tm H r h=>by obtain ⟨fc,iF,fd,fk,hks,e,h⟩:=bY.lh13_inv (show bY.lh13 F ap [] n tm H=some r from h);obtain _ | k13:=n;cases h;exact ⟨_,rfl,by rw [<- eb e];exact Eq.trans (by kernel_rfl) h⟩) λk13=>ae.no))) (ae.lt (ae.rt (ae.block (ae.la (λn tm H r h=>by obtain ⟨qQ,qR,oB,nE,hks,e,h⟩:=bY.lh29_inv (show bY.lh29 F ap [] n tm H=some r from h);obtain _ | k29:=n;cases h;exact ⟨_,rfl,by rw [<- eb e];exact Eq.trans (by kernel_rfl) h⟩) λk29=>ae.no))))))
theorem bY.eqX (F:Nat) (ap:Int->Int->Sl->Int->Int->Hp->OA) (aa:Nat) (ac:Nat) (af:Int) (H:Hp):EX (bh (bY.cs F ap)) aW (bY.lh F ap) F Tryz.f87 [(.ptr aa ac),(.int .i64 af)] H=bY.twX F ap aa ac af H:=by kernel_rfl
theorem bY.k (F:Nat):Ok Tryz.prog 87 (bY.mk (bY.tw F)):=by
 intro args H v H' h
 unfold bY.mk at h
 split at h
 ·exact okT (TB:=aW) Tryz.func87 (bg (bB.k F) ca) (bY.loops F (bB.tw F)) ((bY.eqX F (bB.tw F) _ _ _ H).trans h) (by kernel_rfl)
 ·cases h
def bH.j3 (F:Nat) (ap:Int->Int->Sl->Int->Int->Hp->OA) (C13_:Nat->Nat->Int->Int->Hp->OA) (YR:Nat) (YS:Nat) (xV:Int) (xW:Int) (H96:Hp):OA:=C13_ YR YS xV (IntKind.i64.wrap (xW+1)) H96
def bH.j4 (F:Nat) (ap:Int->Int->Sl->Int->Int->Hp->OA) (C13_:Nat->Nat->Int->Int->Hp->OA) (YT:Nat) (YU:Nat) (xX:Int) (tE:Int) (H87:Hp):OA:=bH.j3 F ap C13_ YT YU xX tE H87
def bH.l213 (F:Nat) (ap:Int->Int->Sl->Int->Int->Hp->OA) (C13_:Nat->Nat->Int->Int->Hp->OA):Nat->Nat->Nat->Int->Int->Int->Hp->OA
 | 0,_,_,_,_,_,_=>none
 | CJ+1,oC,oD,mw,mz,nF,H67=>(Hp.ldI H67 .i64 oC (oD+1)).bind λn97=>(bif (decide (nF<n97)) then ((Hp.ldI H67 .i64 oC oD).bind λn98=>(Hp.ldI H67 .i64 oC (oD+1)).bind λn99=>(Hp.ldSl H67 oC (oD+2)).bind λs100=>(ap n98 n99 s100 mz nF H67).bind λr101=>((r101.1).asI .i64).bind λn102=>(if bp H67 r101.2 then ((Hp.ldI r101.2 .i64 oC oD).bind λn103=>(Hp.ldI r101.2 .i64 oC (oD+1)).bind λn104=>(Hp.ldSl r101.2 oC (oD+2)).bind λs105=>(ap n103 n104 s105 mw mw r101.2).bind λr106=>((r106.1).asI .i64).bind λn107=>(if n107=0 then none else ((bif ((Int.tmod n102 n107) != 0) then (some ((.int .i64 mz),r106.2)) else (bH.l213 F ap C13_ CJ oC oD mw mz (IntKind.i64.wrap (nF+1)) r106.2))))) else none)) else (bH.j4 F ap C13_ oC oD mw mz H67))
termination_by structural n=>n
def bH.l13 (F:Nat) (ap:Int->Int->Sl->Int->Int->Hp->OA) :Nat->Nat->Nat->Int->Int->Hp->OA
 | 0,_,_,_,_,_=>none
 | jN+1,fc,iF,fd,fk,H9=>(Hp.ldI H9 .i64 fc iF).bind λn59=>(bif (decide (fk<n59)) then (bH.l213 F ap (bH.l13 F ap jN) F fc iF fd fk (IntKind.i64.wrap (fd+1)) H9) else (some ((.int .i64 (-1)),H9)))
termination_by structural n=>n
def bH.twX (F:Nat) (ap:Int->Int->Sl->Int->Int->Hp->OA) (aa:Nat) (ac:Nat) (af:Int) (H:Hp):OA:=bH.l13 F ap F aa ac af (IntKind.i64.wrap (af+1)) H
def bH.tw (F:Nat) (aa:Nat) (ac:Nat) (af:Int) (H:Hp):OA:=bH.twX F (bB.tw F) aa ac af H
def bH.lh13 (F:Nat) (ap:Int->Int->Sl->Int->Int->Hp->OA) (ks:List Nat) (n:Nat) (tm:Tm) (H:Hp):OA:=match ks,tm 0,tm 1,tm 5 with
 | [],(.ptr fc iF),(.int .i64 fd),(.int .i64 fk)=>bH.l13 F ap n fc iF fd fk H
 | _,_,_,_=>none
theorem bH.lh13_inv {F:Nat} {ap:Int->Int->Sl->Int->Int->Hp->OA} {ks:List Nat} {n:Nat} {tm:Tm} {H:Hp} {r:AV×Hp} (h:bH.lh13 F ap ks n tm H=some r):∃ fc iF fd fk,ks=[]/\dZ tm [(0,(.ptr fc iF)),(1,(.int .i64 fd)),(5,(.int .i64 fk))]/\bH.l13 F ap n fc iF fd fk H=some r:=by
 unfold bH.lh13 at h
 split at h
 ·exact ⟨_,_,_,_,rfl,⟨‹_›,‹_›,‹_›,trivial⟩,h⟩
 ·cases h
def bH.lh213 (F:Nat) (ap:Int->Int->Sl->Int->Int->Hp->OA) (ks:List Nat) (n:Nat) (tm:Tm) (H:Hp):OA:=match ks,tm 0,tm 1,tm 5,tm 6 with
 | [jN],(.ptr oC oD),(.int .i64 mw),(.int .i64 mz),(.int .i64 nF)=>bH.l213 F ap (bH.l13 F ap jN) n oC oD mw mz nF H
 | _,_,_,_,_=>none
theorem bH.lh213_inv {F:Nat} {ap:Int->Int->Sl->Int->Int->Hp->OA} {ks:List Nat} {n:Nat} {tm:Tm} {H:Hp} {r:AV×Hp} (h:bH.lh213 F ap ks n tm H=some r):∃ jN oC oD mw mz nF,ks=[jN]/\dZ tm [(0,(.ptr oC oD)),(1,(.int .i64 mw)),(5,(.int .i64 mz)),(6,(.int .i64 nF))]/\bH.l213 F ap (bH.l13 F ap jN) n oC oD mw mz nF H=some r:=by
 unfold bH.lh213 at h
 split at h
 ·exact ⟨_,_,_,_,_,_,rfl,⟨‹_›,‹_›,‹_›,‹_›,trivial⟩,h⟩
 ·cases h
def bH.lh (F:Nat) (ap:Int->Int->Sl->Int->Int->Hp->OA) (p:Nat) (ks:List Nat) (n:Nat) (tm:Tm) (H:Hp):OA:=bif p.beq 213 then bH.lh213 F ap ks n tm H else (bif p.beq 13 then bH.lh13 F ap ks n tm H else (none))
def bH.pn:Nat->List Nat:=eU [(7,[13])]
def bH.tb:Nat->List (List Nat):=eU [(7,[[],[0],[0,1],[0,1,2],[],[],[0,1,2,3,4,5],[],[7],[7,8],[7,8,9],[],[],[0,1,2,3,4,5,6,7,8,9,10,11,12],[0,1,2,3,4,5,6,7,8,9,10,11,12,13],[0,1,2,3,4,5,6,7,8,9,10,11,12,13,14]])]
def bH.mk (g:Nat->Nat->Int->Hp->OA) (args:List AV) (H:Hp):OA:=match args with
 | [(.ptr aa ac),(.int .i64 af)]=>g aa ac af H
 | _=>none
def bH.cs (F:Nat) (ap:Int->Int->Sl->Int->Int->Hp->OA):Cs:=[(32,bB.mk ap)]
theorem bH.loops (F:Nat) (ap:Int->Int->Sl->Int->Int->Hp->OA):LO (bh (bH.cs F ap)) bH.pn (bH.lh F ap) F Tryz.f88:=
 (ae.rt (ae.lt (ae.rt (ae.block (ae.la (λn tm H r h=>by obtain ⟨fc,iF,fd,fk,hks,e,h⟩:=bH.lh13_inv (show bH.lh13 F ap [] n tm H=some r from h);obtain _ | k13:=n;cases h;exact ⟨_,rfl,by rw [<- eb e];exact Eq.trans (by kernel_rfl) h⟩) λk13=>(ae.rt (ae.lt (ae.block (ae.rt (ae.block (ae.la (λn tm H r h=>by obtain ⟨jN,oC,oD,mw,mz,nF,hks,e,h⟩:=bH.lh213_inv (show bH.lh213 F ap [k13] n tm H=some r from h);cases hks;obtain _ | k213:=n;cases h;exact ⟨_,rfl,by rw [<- eb e];exact Eq.trans (by kernel_rfl) h⟩) λk213=>ae.no)))))))))))
theorem bH.eqX (F:Nat) (ap:Int->Int->Sl->Int->Int->Hp->OA) (aa:Nat) (ac:Nat) (af:Int) (H:Hp):EX (bh (bH.cs F ap)) bH.pn (bH.lh F ap) F Tryz.f88 [(.ptr aa ac),(.int .i64 af)] H=bH.twX F ap aa ac af H:=by kernel_rfl
theorem bH.k (F:Nat):Ok Tryz.prog 88 (bH.mk (bH.tw F)):=by
 intro args H v H' h
 unfold bH.mk at h
 split at h
 ·exact okT (TB:=bH.tb) Tryz.func88 (bg (bB.k F) ca) (bH.loops F (bB.tw F)) ((bH.eqX F (bB.tw F) _ _ _ H).trans h) (by kernel_rfl)
 ·cases h
def bs.j1 (F:Nat) (gU:Nat->Nat->Int->Hp->OA) (ap:Int->Int->Sl->Int->Int->Hp->OA) (gM:Int->Int->Hp->OA) (gN:Nat->Nat->Int->Int->Int->Hp->OA) (gV:Nat->Nat->Int->Int->Int->Hp->OA) (gW:Nat->Nat->Int->Hp->OA) (gX:Nat->Nat->Int->Hp->OA) (xY:Nat) (xZ:Nat) (rC:Int) (H73:Hp):OA:=(Hp.ldB H73 xY (xZ+15)).bind λb74=>(bif b74 then (some ((.tup [(.bool false),(.bool false)]),H73)) else ((gW xY xZ rC H73).bind λr75=>((r75.1).asB).bind λb76=>(bif (!b76) then (some ((.tup [(.bool false),(.bool false)]),r75.2)) else ((gX xY xZ rC r75.2).bind λr77=>((r77.1).asI .i64).bind λn78=>(bif (decide (n78<0)) then (some ((.tup [(.bool true),(.bool false)]),r77.2)) else ((gN xY xZ rC n78 (-1) r77.2).bind λr79=>some ((.tup [(.bool false),(.bool false)]),r79.2)))))))
def bs.l61 (F:Nat) (gU:Nat->Nat->Int->Hp->OA) (ap:Int->Int->Sl->Int->Int->Hp->OA) (gM:Int->Int->Hp->OA) (gN:Nat->Nat->Int->Int->Int->Hp->OA) (gV:Nat->Nat->Int->Int->Int->Hp->OA) (gW:Nat->Nat->Int->Hp->OA) (gX:Nat->Nat->Int->Hp->OA) :Nat->Nat->Nat->Int->Int->Hp->OA
 | 0,_,_,_,_,_=>none
 | eC+1,ns,nu,jW,mA,H47=>(Hp.ldI H47 .i64 ns (nu+1)).bind λn80=>(bif (decide (mA<n80)) then ((Hp.ldB H47 ns (nu+15)).bind λb81=>(bif (!b81) then ((Hp.ldI H47 .i64 ns nu).bind λn82=>(Hp.ldI H47 .i64 ns (nu+1)).bind λn83=>(Hp.ldSl H47 ns (nu+2)).bind λs84=>(ap n82 n83 s84 jW mA H47).bind λr85=>((r85.1).asI .i64).bind λn86=>(if bp H47 r85.2 then ((Hp.ldI r85.2 .i64 ns nu).bind λn87=>(Hp.ldI r85.2 .i64 ns (nu+1)).bind λn88=>(Hp.ldSl r85.2 ns (nu+2)).bind λs89=>(ap n87 n88 s89 jW jW r85.2).bind λr90=>((r90.1).asI .i64).bind λn91=>(gM n86 n91 r90.2).bind λr92=>((r92.1).asI .i64).bind λn93=>(gV ns nu mA jW n93 r92.2).bind λr94=>bs.l61 F gU ap gM gN gV gW gX eC ns nu jW (IntKind.i64.wrap (mA+1)) r94.2) else none)) else (bs.j1 F gU ap gM gN gV gW gX ns nu jW H47))) else (bs.j1 F gU ap gM gN gV gW gX ns nu jW H47))
termination_by structural n=>n
def bs.j2 (F:Nat) (gU:Nat->Nat->Int->Hp->OA) (ap:Int->Int->Sl->Int->Int->Hp->OA) (gM:Int->Int->Hp->OA) (gN:Nat->Nat->Int->Int->Int->Hp->OA) (gV:Nat->Nat->Int->Int->Int->Hp->OA) (gW:Nat->Nat->Int->Hp->OA) (gX:Nat->Nat->Int->Hp->OA) (YV:Nat) (YW:Nat) (tF:Int) (H37:Hp):OA:=bs.l61 F gU ap gM gN gV gW gX F YV YW tF (IntKind.i64.wrap (tF+1)) H37
def bs.l29 (F:Nat) (gU:Nat->Nat->Int->Hp->OA) (ap:Int->Int->Sl->Int->Int->Hp->OA) (gM:Int->Int->Hp->OA) (gN:Nat->Nat->Int->Int->Int->Hp->OA) (gV:Nat->Nat->Int->Int->Int->Hp->OA) (gW:Nat->Nat->Int->Hp->OA) (gX:Nat->Nat->Int->Hp->OA) :Nat->Nat->Nat->Int->Int->Hp->OA
 | 0,_,_,_,_,_=>none
 | fj+1,jA,ij,dl,mB,H13=>(Hp.ldI H13 .i64 jA ij).bind λn95=>(bif (decide (mB<n95)) then ((Hp.ldB H13 jA (ij+15)).bind λb96=>(bif (!b96) then ((Hp.ldI H13 .i64 jA ij).bind λn97=>(Hp.ldI H13 .i64 jA (ij+1)).bind λn98=>(Hp.ldSl H13 jA (ij+2)).bind λs99=>(ap n97 n98 s99 mB dl H13).bind λr100=>((r100.1).asI .i64).bind λn101=>(if bp H13 r100.2 then ((Hp.ldI r100.2 .i64 jA ij).bind λn102=>(Hp.ldI r100.2 .i64 jA (ij+1)).bind λn103=>(Hp.ldSl r100.2 jA (ij+2)).bind λs104=>(ap n102 n103 s104 dl dl r100.2).bind λr105=>((r105.1).asI .i64).bind λn106=>(gM n101 n106 r105.2).bind λr107=>((r107.1).asI .i64).bind λn108=>(gN jA ij mB dl n108 r107.2).bind λr109=>bs.l29 F gU ap gM gN gV gW gX fj jA ij dl (IntKind.i64.wrap (mB+1)) r109.2) else none)) else (bs.j2 F gU ap gM gN gV gW gX jA ij dl H13))) else (bs.j2 F gU ap gM gN gV gW gX jA ij dl H13))
termination_by structural n=>n
def bs.twX (F:Nat) (gU:Nat->Nat->Int->Hp->OA) (ap:Int->Int->Sl->Int->Int->Hp->OA) (gM:Int->Int->Hp->OA) (gN:Nat->Nat->Int->Int->Int->Hp->OA) (gV:Nat->Nat->Int->Int->Int->Hp->OA) (gW:Nat->Nat->Int->Hp->OA) (gX:Nat->Nat->Int->Hp->OA) (aa:Nat) (ac:Nat) (af:Int) (H:Hp):OA:=(gU aa ac af H).bind λr4=>((r4.1).asB).bind λb5=>(bif (!b5) then (some ((.tup [(.bool true),(.bool true)]),r4.2)) else (bs.l29 F gU ap gM gN gV gW gX F aa ac af (IntKind.i64.wrap (af+1)) r4.2))
def bs.tw (F:Nat) (aa:Nat) (ac:Nat) (af:Int) (H:Hp):OA:=bs.twX F (aE.tw F) (bB.tw F) (ii.tw F) (gT.tw F) (hY.tw F) (bY.tw F) (bH.tw F) aa ac af H
def bs.lh29 (F:Nat) (gU:Nat->Nat->Int->Hp->OA) (ap:Int->Int->Sl->Int->Int->Hp->OA) (gM:Int->Int->Hp->OA) (gN:Nat->Nat->Int->Int->Int->Hp->OA) (gV:Nat->Nat->Int->Int->Int->Hp->OA) (gW:Nat->Nat->Int->Hp->OA) (gX:Nat->Nat->Int->Hp->OA) (ks:List Nat) (n:Nat) (tm:Tm) (H:Hp):OA:=match ks,tm 0,tm 1,tm 6 with
 | [],(.ptr jA ij),(.int .i64 dl),(.int .i64 mB)=>bs.l29 F gU ap gM gN gV gW gX n jA ij dl mB H
 | _,_,_,_=>none
theorem bs.lh29_inv {F:Nat} {gU:Nat->Nat->Int->Hp->OA} {ap:Int->Int->Sl->Int->Int->Hp->OA} {gM:Int->Int->Hp->OA} {gN:Nat->Nat->Int->Int->Int->Hp->OA} {gV:Nat->Nat->Int->Int->Int->Hp->OA} {gW:Nat->Nat->Int->Hp->OA} {gX:Nat->Nat->Int->Hp->OA} {ks:List Nat} {n:Nat} {tm:Tm} {H:Hp} {r:AV×Hp} (h:bs.lh29 F gU ap gM gN gV gW gX ks n tm H=some r):∃ jA ij dl mB,ks=[]/\dZ tm [(0,(.ptr jA ij)),(1,(.int .i64 dl)),(6,(.int .i64 mB))]/\bs.l29 F gU ap gM gN gV gW gX n jA ij dl mB H=some r:=by
 unfold bs.lh29 at h
 split at h
 ·exact ⟨_,_,_,_,rfl,⟨‹_›,‹_›,‹_›,trivial⟩,h⟩
 ·cases h
def bs.lh61 (F:Nat) (gU:Nat->Nat->Int->Hp->OA) (ap:Int->Int->Sl->Int->Int->Hp->OA) (gM:Int->Int->Hp->OA) (gN:Nat->Nat->Int->Int->Int->Hp->OA) (gV:Nat->Nat->Int->Int->Int->Hp->OA) (gW:Nat->Nat->Int->Hp->OA) (gX:Nat->Nat->Int->Hp->OA) (ks:List Nat) (n:Nat) (tm:Tm) (H:Hp):OA:=match ks,tm 0,tm 1,tm 7 with
 | [],(.ptr ns nu),(.int .i64 jW),(.int .i64 mA)=>bs.l61 F gU ap gM gN gV gW gX n ns nu jW mA H
 | _,_,_,_=>none
theorem bs.lh61_inv {F:Nat} {gU:Nat->Nat->Int->Hp->OA} {ap:Int->Int->Sl->Int->Int->Hp->OA} {gM:Int->Int->Hp->OA} {gN:Nat->Nat->Int->Int->Int->Hp->OA} {gV:Nat->Nat->Int->Int->Int->Hp->OA} {gW:Nat->Nat->Int->Hp->OA} {gX:Nat->Nat->Int->Hp->OA} {ks:List Nat} {n:Nat} {tm:Tm} {H:Hp} {r:AV×Hp} (h:bs.lh61 F gU ap gM gN gV gW gX ks n tm H=some r):∃ ns nu jW mA,ks=[]/\dZ tm [(0,(.ptr ns nu)),(1,(.int .i64 jW)),(7,(.int .i64 mA))]/\bs.l61 F gU ap gM gN gV gW gX n ns nu jW mA H=some r:=by
 unfold bs.lh61 at h
 split at h
 ·exact ⟨_,_,_,_,rfl,⟨‹_›,‹_›,‹_›,trivial⟩,h⟩
 ·cases h
def bs.lh (F:Nat) (gU:Nat->Nat->Int->Hp->OA) (ap:Int->Int->Sl->Int->Int->Hp->OA) (gM:Int->Int->Hp->OA) (gN:Nat->Nat->Int->Int->Int->Hp->OA) (gV:Nat->Nat->Int->Int->Int->Hp->OA) (gW:Nat->Nat->Int->Hp->OA) (gX:Nat->Nat->Int->Hp->OA) (p:Nat) (ks:List Nat) (n:Nat) (tm:Tm) (H:Hp):OA:=bif p.beq 61 then bs.lh61 F gU ap gM gN gV gW gX ks n tm H else (bif p.beq 29 then bs.lh29 F gU ap gM gN gV gW gX ks n tm H else (none))
def bs.pn:Nat->List Nat:=eU [(6,[16,17,18]),(10,[16,17,18])]
def bs.tb:Nat->List (List Nat):=eU [(6,[[],[],[],[],[3],[3,4],[3,4,5],[],[],[3,4,5,6,7,8],[],[10],[10,11],[10,11,12],[],[],[3,4,5,6,7,8,9,10,11,12,13,14,15],[3,4,5,6,7,8,9,10,11,12,13,14,15,16],[0,1,2,3,4,5,6,7,8,9,10,11,12,13,14,15,16,17]]),(10,[[],[],[],[],[3],[3,4],[3,4,5],[],[],[3,4,5,6,7,8],[],[10],[10,11],[10,11,12],[],[],[3,4,5,6,7,8,9,10,11,12,13,14,15],[3,4,5,6,7,8,9,10,11,12,13,14,15,16],[0,1,2,3,4,5,6,7,8,9,10,11,12,13,14,15,16,17]])]
def bs.mk (g:Nat->Nat->Int->Hp->OA) (args:List AV) (H:Hp):OA:=match args with
 | [(.ptr aa ac),(.int .i64 af)]=>g aa ac af H
 | _=>none
def bs.cs (F:Nat) (gU:Nat->Nat->Int->Hp->OA) (ap:Int->Int->Sl->Int->Int->Hp->OA) (gM:Int->Int->Hp->OA) (gN:Nat->Nat->Int->Int->Int->Hp->OA) (gV:Nat->Nat->Int->Int->Int->Hp->OA) (gW:Nat->Nat->Int->Hp->OA) (gX:Nat->Nat->Int->Hp->OA):Cs:=[(83,aE.mk gU),(32,bB.mk ap),(85,ii.mk gM),(84,gT.mk gN),(86,hY.mk gV),(87,bY.mk gW),(88,bH.mk gX)]
theorem bs.loops (F:Nat) (gU:Nat->Nat->Int->Hp->OA) (ap:Int->Int->Sl->Int->Int->Hp->OA) (gM:Int->Int->Hp->OA) (gN:Nat->Nat->Int->Int->Int->Hp->OA) (gV:Nat->Nat->Int->Int->Int->Hp->OA) (gW:Nat->Nat->Int->Hp->OA) (gX:Nat->Nat->Int->Hp->OA):LO (bh (bs.cs F gU ap gM gN gV gW gX)) bs.pn (bs.lh F gU ap gM gN gV gW gX) F Tryz.f68:=
 (ae.rt (ae.rt (ae.seq (ae.rt (ae.block (ae.la (λn tm H r h=>by obtain ⟨jA,ij,dl,mB,hks,e,h⟩:=bs.lh29_inv (show bs.lh29 F gU ap gM gN gV gW gX [] n tm H=some r from h);obtain _ | k29:=n;cases h;exact ⟨_,rfl,by rw [<- eb e];exact Eq.trans (by kernel_rfl) h⟩) λk29=>ae.no))) (ae.lt (ae.rt (ae.block (ae.la (λn tm H r h=>by obtain ⟨ns,nu,jW,mA,hks,e,h⟩:=bs.lh61_inv (show bs.lh61 F gU ap gM gN gV gW gX [] n tm H=some r from h);obtain _ | k61:=n;cases h;exact ⟨_,rfl,by rw [<- eb e];exact Eq.trans (by kernel_rfl) h⟩) λk61=>ae.no)))))))
theorem bs.eqX (F:Nat) (gU:Nat->Nat->Int->Hp->OA) (ap:Int->Int->Sl->Int->Int->Hp->OA) (gM:Int->Int->Hp->OA) (gN:Nat->Nat->Int->Int->Int->Hp->OA) (gV:Nat->Nat->Int->Int->Int->Hp->OA) (gW:Nat->Nat->Int->Hp->OA) (gX:Nat->Nat->Int->Hp->OA) (aa:Nat) (ac:Nat) (af:Int) (H:Hp):EX (bh (bs.cs F gU ap gM gN gV gW gX)) bs.pn (bs.lh F gU ap gM gN gV gW gX) F Tryz.f68 [(.ptr aa ac),(.int .i64 af)] H=bs.twX F gU ap gM gN gV gW gX aa ac af H:=by kernel_rfl
theorem bs.k (F:Nat):Ok Tryz.prog 68 (bs.mk (bs.tw F)):=by
 intro args H v H' h
 unfold bs.mk at h
 split at h
 ·exact okT (TB:=bs.tb) Tryz.func68 (bg (aE.k F) (bg (bB.k F) (bg (ii.k F) (bg (gT.k F) (bg (hY.k F) (bg (bY.k F) (bg (bH.k F) ca))))))) (bs.loops F (aE.tw F) (bB.tw F) (ii.tw F) (gT.tw F) (hY.tw F) (bY.tw F) (bH.tw F)) ((bs.eqX F (aE.tw F) (bB.tw F) (ii.tw F) (gT.tw F) (hY.tw F) (bY.tw F) (bH.tw F) _ _ _ H).trans h) (by kernel_rfl)
 ·cases h
def bD.j3 (F:Nat) (gi:Int->Hp->OA) (gO:Nat->Nat->Int->Hp->OA) (C29_:Nat->Nat->Nat->Nat->Int->Hp->OA) (CZ:Nat) (YX:Nat) (C_:Nat) (YY:Nat) (x_:Int) (H161:Hp):OA:=C29_ CZ YX C_ YY (IntKind.i64.wrap (x_+1)) H161
def bD.j4 (F:Nat) (gi:Int->Hp->OA) (gO:Nat->Nat->Int->Hp->OA) (C29_:Nat->Nat->Nat->Nat->Int->Hp->OA) (pK:Nat) (YZ:Nat) (ph:Nat) (xb:Nat) (tG:Int) (tz:Bool) (H146:Hp):OA:=(bif tz then (some ((.ptr ph xb),H146)) else ((Hp.ldB H146 ph (xb+15)).bind λb147=>(bif b147 then (some ((.ptr ph xb),H146)) else (bD.j3 F gi gO C29_ pK YZ ph xb tG H146))))
def bD.l938 (F:Nat) (gi:Int->Hp->OA) (gO:Nat->Nat->Int->Hp->OA) (C29_:Nat->Nat->Nat->Nat->Int->Hp->OA):Nat->Nat->Nat->Nat->Nat->Int->Bool->Bool->Hp->OA
 | 0,_,_,_,_,_,_,_,_=>none
 | Y_+1,pQ,sp,oE,qS,mC,pR,oF,H126=>(bif (!pR) then ((Hp.ldB H126 oE (qS+15)).bind λb162=>(bif (!b162) then ((gO oE qS mC H126).bind λr163=>((r163.1).asTup 2).bind λl164=>(l164[0]?).bind λv165=>((v165).asB).bind λb166=>(l164[1]?).bind λv167=>((v167).asB).bind λb168=>bD.l938 F gi gO C29_ Y_ pQ sp oE qS mC b166 b168 r163.2) else (bD.j4 F gi gO C29_ pQ sp oE qS mC oF H126))) else (bD.j4 F gi gO C29_ pQ sp oE qS mC oF H126))
termination_by structural n=>n
def bD.l29 (F:Nat) (gi:Int->Hp->OA) (gO:Nat->Nat->Int->Hp->OA) :Nat->Nat->Nat->Nat->Nat->Int->Hp->OA
 | 0,_,_,_,_,_,_=>none
 | fj+1,pS,sq,qt,tH,oG,H56=>(Hp.ldI H56 .i64 pS sq).bind λn113=>(Hp.ldI H56 .i64 pS (sq+1)).bind λn114=>(bif (decide (oG<(if n114<n113 then n114 else n113))) then (bD.l938 F gi gO (bD.l29 F gi gO fj) F pS sq qt tH oG false false H56) else (some ((.ptr qt tH),H56)))
termination_by structural n=>n
def bD.twX (F:Nat) (gi:Int->Hp->OA) (gO:Nat->Nat->Int->Hp->OA) (aa:Int) (ac:Int) (aI:Sl) (H:Hp):OA:=(Hp.new H [(.int .i64 aa),(.int .i64 ac),(.sl aI)]).bind λH4=>(Hp.ldI H4 .i64 H.length 0).bind λn5=>(Hp.ldI H4 .i64 H.length 1).bind λn6=>(Hp.new H4 []).bind λH7=>(Hp.ldSl H7 H.length 2).bind λs8=>(Sl.row H7 s8 1).bind λxs10=>(Hp.app H7 1 8 (⟨some (H4.length,0),0,.ex 0⟩:Sl) s8.n xs10).bind λa9=>(if bp H7 a9.2 then ((Hp.ldI a9.2 .i64 H.length 0).bind λn11=>(gi n11 a9.2).bind λr12=>((r12.1).asAgg 3).bind λl13=>(l13[0]?).bind λv14=>((v14).asI .i64).bind λn15=>(l13[1]?).bind λv16=>((v16).asI .i64).bind λn17=>(l13[2]?).bind λv18=>((v18).asSl).bind λs19=>(if bp a9.2 r12.2 then ((Hp.ldI r12.2 .i64 H.length 0).bind λn20=>(gi n20 r12.2).bind λr21=>((r21.1).asAgg 3).bind λl22=>(l22[0]?).bind λv23=>((v23).asI .i64).bind λn24=>(l22[1]?).bind λv25=>((v25).asI .i64).bind λn26=>(l22[2]?).bind λv27=>((v27).asSl).bind λs28=>(if bp r12.2 r21.2 then ((Hp.ldI r21.2 .i64 H.length 1).bind λn29=>(gi n29 r21.2).bind λr30=>((r30.1).asAgg 3).bind λl31=>(l31[0]?).bind λv32=>((v32).asI .i64).bind λn33=>(l31[1]?).bind λv34=>((v34).asI .i64).bind λn35=>(l31[2]?).bind λv36=>((v36).asSl).bind λs37=>(if bp r21.2 r30.2 then ((Hp.ldI r30.2 .i64 H.length 1).bind λn38=>(gi n38 r30.2).bind λr39=>((r39.1).asAgg 3).bind λl40=>(l40[0]?).bind λv41=>((v41).asI .i64).bind λn42=>(l40[1]?).bind λv43=>((v43).asI .i64).bind λn44=>(l40[2]?).bind λv45=>((v45).asSl).bind λs46=>(if bp r30.2 r39.2 then ((Hp.new r39.2 [(.int .i64 n5),(.int .i64 n6),(.sl a9.1),(.int .i64 n15),(.int .i64 n17),(.sl s19),(.int .i64 n24),(.int .i64 n26),(.sl s28),(.int .i64 n33),(.int .i64 n35),(.sl s37),(.int .i64 n42),(.int .i64 n44),(.sl s46),(.bool false)]).bind λH47=>bD.l29 F gi gO F H.length 0 r39.2.length 0 0 H47) else none)) else none)) else none)) else none)) else none)
def bD.tw (F:Nat) (aa:Int) (ac:Int) (aI:Sl) (H:Hp):OA:=bD.twX F (dK.tw F) (bs.tw F) aa ac aI H
def bD.lh29 (F:Nat) (gi:Int->Hp->OA) (gO:Nat->Nat->Int->Hp->OA) (ks:List Nat) (n:Nat) (tm:Tm) (H:Hp):OA:=match ks,tm 1,tm 2,tm 3,tm 4 with
 | [],(.ptr pS sq),.nilp,(.ptr qt tH),(.int .i64 oG)=>bD.l29 F gi gO n pS sq qt tH oG H
 | _,_,_,_,_=>none
theorem bD.lh29_inv {F:Nat} {gi:Int->Hp->OA} {gO:Nat->Nat->Int->Hp->OA} {ks:List Nat} {n:Nat} {tm:Tm} {H:Hp} {r:AV×Hp} (h:bD.lh29 F gi gO ks n tm H=some r):∃ pS sq qt tH oG,ks=[]/\dZ tm [(1,(.ptr pS sq)),(2,.nilp),(3,(.ptr qt tH)),(4,(.int .i64 oG))]/\bD.l29 F gi gO n pS sq qt tH oG H=some r:=by
 unfold bD.lh29 at h
 split at h
 ·exact ⟨_,_,_,_,_,rfl,⟨‹_›,‹_›,‹_›,‹_›,trivial⟩,h⟩
 ·cases h
def bD.lh938 (F:Nat) (gi:Int->Hp->OA) (gO:Nat->Nat->Int->Hp->OA) (ks:List Nat) (n:Nat) (tm:Tm) (H:Hp):OA:=match ks,tm 1,tm 2,tm 3,tm 4,tm 5,tm 6 with
 | [fj],(.ptr pQ sp),.nilp,(.ptr oE qS),(.int .i64 mC),(.bool pR),(.bool oF)=>bD.l938 F gi gO (bD.l29 F gi gO fj) n pQ sp oE qS mC pR oF H
 | _,_,_,_,_,_,_=>none
theorem bD.lh938_inv {F:Nat} {gi:Int->Hp->OA} {gO:Nat->Nat->Int->Hp->OA} {ks:List Nat} {n:Nat} {tm:Tm} {H:Hp} {r:AV×Hp} (h:bD.lh938 F gi gO ks n tm H=some r):∃ fj pQ sp oE qS mC pR oF,ks=[fj]/\dZ tm [(1,(.ptr pQ sp)),(2,.nilp),(3,(.ptr oE qS)),(4,(.int .i64 mC)),(5,(.bool pR)),(6,(.bool oF))]/\bD.l938 F gi gO (bD.l29 F gi gO fj) n pQ sp oE qS mC pR oF H=some r:=by
 unfold bD.lh938 at h
 split at h
 ·exact ⟨_,_,_,_,_,_,_,_,rfl,⟨‹_›,‹_›,‹_›,‹_›,‹_›,‹_›,trivial⟩,h⟩
 ·cases h
def bD.lh (F:Nat) (gi:Int->Hp->OA) (gO:Nat->Nat->Int->Hp->OA) (p:Nat) (ks:List Nat) (n:Nat) (tm:Tm) (H:Hp):OA:=bif p.beq 938 then bD.lh938 F gi gO ks n tm H else (bif p.beq 29 then bD.lh29 F gi gO ks n tm H else (none))
def bD.tb:Nat->List (List Nat):=eU [(1,[[],[0],[],[2],[],[],[5],[4,5,6],[0,1,2,3,4,5,6,7],[],[9],[4,5,6,7,9,10],[],[12],[4,5,6,7,9,10,11,12,13],[],[15],[4,5,6,7,9,10,11,12,13,14,15,16],[],[18],[4,5,6,7,9,10,11,12,13,14,15,16,17,18,19],[0,1,2,3,4,5,6,7,8,9,10,11,12,13,14,15,16,17,18,19,20],[0,1,2,3,4,5,6,7,8,9,10,11,12,13,14,15,16,17,18,19,20,21],[0,1,2,3,4,5,6,7,8,9,10,11,12,13,14,15,16,17,18,19,20,21,22]])]
def bD.mk (g:Int->Int->Sl->Hp->OA) (args:List AV) (H:Hp):OA:=match args with
 | [(.agg [(.int .i64 aa),(.int .i64 ac),(.sl aI)])]=>g aa ac aI H
 | _=>none
def bD.cs (F:Nat) (gi:Int->Hp->OA) (gO:Nat->Nat->Int->Hp->OA):Cs:=[(67,dK.mk gi),(68,bs.mk gO)]
theorem bD.loops (F:Nat) (gi:Int->Hp->OA) (gO:Nat->Nat->Int->Hp->OA):LO (bh (bD.cs F gi gO)) aW (bD.lh F gi gO) F Tryz.f45:=
 (ae.rt (ae.rt (ae.lt (ae.rt (ae.block (ae.la (λn tm H r h=>by obtain ⟨pS,sq,qt,tH,oG,hks,e,h⟩:=bD.lh29_inv (show bD.lh29 F gi gO [] n tm H=some r from h);obtain _ | k29:=n;cases h;exact ⟨_,rfl,by rw [<- eb e];exact Eq.trans (by kernel_rfl) h⟩) λk29=>(ae.rt (ae.lt (ae.block (ae.rt (ae.lt (ae.block (ae.la (λn tm H r h=>by obtain ⟨fj,pQ,sp,oE,qS,mC,pR,oF,hks,e,h⟩:=bD.lh938_inv (show bD.lh938 F gi gO [k29] n tm H=some r from h);cases hks;obtain _ | k938:=n;cases h;exact ⟨_,rfl,by rw [<- eb e];exact Eq.trans (by kernel_rfl) h⟩) λk938=>ae.no)))))))))))))
theorem bD.eqX (F:Nat) (gi:Int->Hp->OA) (gO:Nat->Nat->Int->Hp->OA) (aa:Int) (ac:Int) (aI:Sl) (H:Hp):EX (bh (bD.cs F gi gO)) aW (bD.lh F gi gO) F Tryz.f45 [(.agg [(.int .i64 aa),(.int .i64 ac),(.sl aI)])] H=bD.twX F gi gO aa ac aI H:=by kernel_rfl
theorem bD.k (F:Nat):Ok Tryz.prog 45 (bD.mk (bD.tw F)):=by
 intro args H v H' h
 unfold bD.mk at h
 split at h
 ·exact okT (TB:=bD.tb) Tryz.func45 (bg (dK.k F) (bg (bs.k F) ca)) (bD.loops F (dK.tw F) (bs.tw F)) ((bD.eqX F (dK.tw F) (bs.tw F) _ _ _ H).trans h) (by kernel_rfl)
 ·cases h
def b_.j2 (F:Nat) (jo:Int->Int->Sl->Hp->OA) (ap:Int->Int->Sl->Int->Int->Hp->OA) (Da:Nat) (Za:Nat) (Zb:Sl) (H61:Hp):OA:=(Hp.ldB H61 Da (Za+15)).bind λb62=>some ((.tup [(.sl Zb),(.bool (!b62))]),H61)
def b_.j3 (F:Nat) (jo:Int->Int->Sl->Hp->OA) (ap:Int->Int->Sl->Int->Int->Hp->OA) (C61_:Nat->Nat->Nat->Nat->Sl->Int->Hp->OA) (Db:Nat) (Zc:Nat) (Dc:Nat) (Zd:Nat) (tE:Sl) (ya:Int) (H88:Hp):OA:=C61_ Db Zc Dc Zd tE (IntKind.i64.wrap (ya+1)) H88
def b_.l61 (F:Nat) (jo:Int->Int->Sl->Hp->OA) (ap:Int->Int->Sl->Int->Int->Hp->OA) :Nat->Nat->Nat->Nat->Nat->Sl->Int->Hp->OA
 | 0,_,_,_,_,_,_,_=>none
 | eC+1,pr,rD,eY,pt,kB,gj,H22=>(Hp.ldI H22 .i64 pr rD).bind λn63=>(Hp.ldI H22 .i64 pr (rD+1)).bind λn64=>(bif (decide (gj<(if n64<n63 then n64 else n63))) then ((Hp.ldB H22 eY (pt+15)).bind λb65=>(bif (!b65) then ((Hp.ldI H22 .i64 eY pt).bind λn66=>(Hp.ldI H22 .i64 eY (pt+1)).bind λn67=>(Hp.ldSl H22 eY (pt+2)).bind λs68=>(ap n66 n67 s68 gj gj H22).bind λr69=>((r69.1).asI .i64).bind λn70=>(bif (n70 != 0) then ((Hp.new r69.2 [(.int .i64 n70)]).bind λH71=>(Sl.row H71 (⟨some (r69.2.length,0),1,.ex 1⟩:Sl) 1).bind λxs73=>(Hp.app H71 1 8 kB (⟨some (r69.2.length,0),1,.ex 1⟩:Sl).n xs73).bind λa72=>b_.j3 F jo ap (b_.l61 F jo ap eC) pr rD eY pt a72.1 gj a72.2) else (b_.j3 F jo ap (b_.l61 F jo ap eC) pr rD eY pt kB gj r69.2))) else (b_.j2 F jo ap eY pt kB H22))) else (b_.j2 F jo ap eY pt kB H22))
termination_by structural n=>n
def b_.twX (F:Nat) (jo:Int->Int->Sl->Hp->OA) (ap:Int->Int->Sl->Int->Int->Hp->OA) (aa:Int) (ac:Int) (aI:Sl) (H:Hp):OA:=(Hp.new H [(.int .i64 aa),(.int .i64 ac),(.sl aI)]).bind λH4=>(Hp.ldI H4 .i64 H.length 0).bind λn5=>(Hp.ldI H4 .i64 H.length (0+1)).bind λn6=>(Hp.ldSl H4 H.length (0+2)).bind λs7=>(jo n5 n6 s7 H4).bind λr8=>((r8.1).asP).bind λp9=>(Hp.new r8.2 []).bind λH10=>b_.l61 F jo ap F H.length 0 p9.1 p9.2 (⟨some (r8.2.length,0),0,.ex 0⟩:Sl) 0 H10
def b_.tw (F:Nat) (aa:Int) (ac:Int) (aI:Sl) (H:Hp):OA:=b_.twX F (bD.tw F) (bB.tw F) aa ac aI H
def b_.lh61 (F:Nat) (jo:Int->Int->Sl->Hp->OA) (ap:Int->Int->Sl->Int->Int->Hp->OA) (ks:List Nat) (n:Nat) (tm:Tm) (H:Hp):OA:=match ks,tm 1,tm 4,tm 5,tm 6 with
 | [],(.ptr pr rD),(.ptr eY pt),(.sl kB),(.int .i64 gj)=>b_.l61 F jo ap n pr rD eY pt kB gj H
 | _,_,_,_,_=>none
theorem b_.lh61_inv {F:Nat} {jo:Int->Int->Sl->Hp->OA} {ap:Int->Int->Sl->Int->Int->Hp->OA} {ks:List Nat} {n:Nat} {tm:Tm} {H:Hp} {r:AV×Hp} (h:b_.lh61 F jo ap ks n tm H=some r):∃ pr rD eY pt kB gj,ks=[]/\dZ tm [(1,(.ptr pr rD)),(4,(.ptr eY pt)),(5,(.sl kB)),(6,(.int .i64 gj))]/\b_.l61 F jo ap n pr rD eY pt kB gj H=some r:=by
 unfold b_.lh61 at h
 split at h
 ·exact ⟨_,_,_,_,_,_,rfl,⟨‹_›,‹_›,‹_›,‹_›,trivial⟩,h⟩
 ·cases h
def b_.lh (F:Nat) (jo:Int->Int->Sl->Hp->OA) (ap:Int->Int->Sl->Int->Int->Hp->OA) (p:Nat) (ks:List Nat) (n:Nat) (tm:Tm) (H:Hp):OA:=bif p.beq 61 then b_.lh61 F jo ap ks n tm H else (none)
def b_.tb:Nat->List (List Nat):=eU [(9,[[],[],[1],[1,2],[1,2,3],[1,2,3,4],[0],[0,1,2,3,4,5,6]])]
def b_.mk (g:Int->Int->Sl->Hp->OA) (args:List AV) (H:Hp):OA:=match args with
 | [(.agg [(.int .i64 aa),(.int .i64 ac),(.sl aI)])]=>g aa ac aI H
 | _=>none
def b_.cs (F:Nat) (jo:Int->Int->Sl->Hp->OA) (ap:Int->Int->Sl->Int->Int->Hp->OA):Cs:=[(45,bD.mk jo),(32,bB.mk ap)]
theorem b_.loops (F:Nat) (jo:Int->Int->Sl->Hp->OA) (ap:Int->Int->Sl->Int->Int->Hp->OA):LO (bh (b_.cs F jo ap)) aW (b_.lh F jo ap) F Tryz.f20:=
 (ae.rt (ae.rt (ae.rt (ae.lt (ae.rt (ae.block (ae.la (λn tm H r h=>by obtain ⟨pr,rD,eY,pt,kB,gj,hks,e,h⟩:=b_.lh61_inv (show b_.lh61 F jo ap [] n tm H=some r from h);obtain _ | k61:=n;cases h;exact ⟨_,rfl,by rw [<- eb e];exact Eq.trans (by kernel_rfl) h⟩) λk61=>ae.no)))))))
theorem b_.eqX (F:Nat) (jo:Int->Int->Sl->Hp->OA) (ap:Int->Int->Sl->Int->Int->Hp->OA) (aa:Int) (ac:Int) (aI:Sl) (H:Hp):EX (bh (b_.cs F jo ap)) aW (b_.lh F jo ap) F Tryz.f20 [(.agg [(.int .i64 aa),(.int .i64 ac),(.sl aI)])] H=b_.twX F jo ap aa ac aI H:=by kernel_rfl
theorem b_.k (F:Nat):Ok Tryz.prog 20 (b_.mk (b_.tw F)):=by
 intro args H v H' h
 unfold b_.mk at h
 split at h
 ·exact okT (TB:=b_.tb) Tryz.func20 (bg (bD.k F) (bg (bB.k F) ca)) (b_.loops F (bD.tw F) (bB.tw F)) ((b_.eqX F (bD.tw F) (bB.tw F) _ _ _ H).trans h) (by kernel_rfl)
 ·cases h
def eA.l6 (F:Nat) :Nat->Int->Int->Hp->OA
 | 0,_,_,_=>none
 | Ze+1,eV,jp,H6=>(bif (decide (jp>0)) then ((if jp=0 then none else (eA.l6 F Ze jp (Int.tmod eV jp) H6))) else (some ((.int .i64 eV),H6)))
def eA.twX (F:Nat) (aa:Int) (ai:Int) (H:Hp):OA:=eA.l6 F F aa ai H
def eA.tw (F:Nat) (aa:Int) (ai:Int) (H:Hp):OA:=eA.twX F aa ai H
def eA.lh6 (F:Nat) (ks:List Nat) (n:Nat) (tm:Tm) (H:Hp):OA:=match ks,tm 0,tm 1 with
 | [],(.int .i64 eV),(.int .i64 jp)=>eA.l6 F n eV jp H
 | _,_,_=>none
theorem eA.lh6_inv {F:Nat} {ks:List Nat} {n:Nat} {tm:Tm} {H:Hp} {r:AV×Hp} (h:eA.lh6 F ks n tm H=some r):∃ eV jp,ks=[]/\dZ tm [(0,(.int .i64 eV)),(1,(.int .i64 jp))]/\eA.l6 F n eV jp H=some r:=by
 unfold eA.lh6 at h
 split at h
 ·exact ⟨_,_,rfl,⟨‹_›,‹_›,trivial⟩,h⟩
 ·cases h
def eA.lh (F:Nat) (p:Nat) (ks:List Nat) (n:Nat) (tm:Tm) (H:Hp):OA:=bif p.beq 6 then eA.lh6 F ks n tm H else (none)
def eA.tb:Nat->List (List Nat):=eU [(2,[[],[],[],[1,2],[0,1],[0,1,2,3,4]])]
def eA.mk (g:Int->Int->Hp->OA) (args:List AV) (H:Hp):OA:=match args with
 | [(.int .i64 aa),(.int .i64 ai)]=>g aa ai H
 | _=>none
theorem eA.loops (F:Nat):LO (bh []) aW (eA.lh F) F Tryz.f21:=
 (ae.rt (ae.lt (ae.block (ae.la (λn tm H r h=>by obtain ⟨eV,jp,hks,e,h⟩:=eA.lh6_inv (show eA.lh6 F [] n tm H=some r from h);obtain _ | k6:=n;cases h;exact ⟨_,rfl,by rw [<- eb e];exact Eq.trans (by kernel_rfl) h⟩) λk6=>ae.no))))
theorem eA.eqX (F:Nat) (aa:Int) (ai:Int) (H:Hp):EX (bh []) aW (eA.lh F) F Tryz.f21 [(.int .i64 aa),(.int .i64 ai)] H=eA.twX F aa ai H:=by kernel_rfl
theorem eA.k (F:Nat):Ok Tryz.prog 21 (eA.mk (eA.tw F)):=by
 intro args H v H' h
 unfold eA.mk at h
 split at h
 ·exact okT (TB:=eA.tb) Tryz.func21 ca (eA.loops F) ((eA.eqX F _ _ H).trans h) (by kernel_rfl)
 ·cases h
def cX.j2 (F:Nat) (jX:Sl->Int->Hp->OA) (ec:Int->Int->Int->Hp->OA) (jY:Sl->Int->Hp->OA) (jZ:Int->Int->Sl->Hp->OA) (j_:Int->Int->Hp->OA) (iw:Int->Int->Int->Hp->OA) (C1021_:Int->Nat->Nat->Sl->Int->Int->Hp->OA) (yb:Int) (Dd:Nat) (Zf:Nat) (Zg:Sl) (yc:Int) (yd:Int) (ye:Int) (H106:Hp):OA:=(iw yc ye 1000000000000 H106).bind λr107=>((r107.1).asTup 2).bind λl108=>(l108[0]?).bind λv109=>((v109).asI .i64).bind λn110=>(l108[1]?).bind λv111=>((v111).asB).bind λb112=>(bif (!b112) then (some ((.tup [(.int .i64 0),(.int .i64 3)]),r107.2)) else (C1021_ yb Dd Zf Zg n110 (IntKind.i64.wrap (yd+1)) r107.2))
def cX.l1021 (F:Nat) (jX:Sl->Int->Hp->OA) (ec:Int->Int->Int->Hp->OA) (jY:Sl->Int->Hp->OA) (jZ:Int->Int->Sl->Hp->OA) (j_:Int->Int->Hp->OA) (iw:Int->Int->Int->Hp->OA) :Nat->Int->Nat->Nat->Sl->Int->Int->Hp->OA
 | 0,_,_,_,_,_,_,_=>none
 | PE+1,mD,pT,su,rE,nG,lD,H50=>(Hp.ldI H50 .i64 pT (su+1)).bind λn82=>(bif (decide (lD<n82)) then ((bif (decide (lD<(rE.n:Int))) then ((Sl.idx rE lD 1).bind λp83=>(Hp.ldI H50 .i64 p83.1 p83.2).bind λn84=>(j_ mD n84 H50).bind λr85=>((r85.1).asI .i64).bind λn86=>cX.j2 F jX ec jY jZ j_ iw (cX.l1021 F jX ec jY jZ j_ iw PE) mD pT su rE nG lD n86 r85.2) else (cX.j2 F jX ec jY jZ j_ iw (cX.l1021 F jX ec jY jZ j_ iw PE) mD pT su rE nG lD mD H50))) else (some ((.tup [(.int .i64 nG),(.int .i64 0)]),H50)))
termination_by structural n=>n
def cX.twX (F:Nat) (jX:Sl->Int->Hp->OA) (ec:Int->Int->Int->Hp->OA) (jY:Sl->Int->Hp->OA) (jZ:Int->Int->Sl->Hp->OA) (j_:Int->Int->Hp->OA) (iw:Int->Int->Int->Hp->OA) (aa:Sl) (ac:Int) (af:Int) (H:Hp):OA:=(Hp.new H [(.sl aa),(.int .i64 ac)]).bind λH4=>(Hp.ldSl H4 H.length 0).bind λs5=>(Hp.ldI H4 .i64 H.length (0+1)).bind λn6=>(jX s5 n6 H4).bind λr7=>((r7.1).asB).bind λb8=>(bif (!b8) then (some ((.tup [(.int .i64 0),(.int .i64 1)]),r7.2)) else ((ec af 1 30 r7.2).bind λr9=>((r9.1).asB).bind λb10=>(bif (!b10) then (some ((.tup [(.int .i64 0),(.int .i64 2)]),r9.2)) else ((Hp.ldSl r9.2 H.length 0).bind λs11=>(Hp.ldI r9.2 .i64 H.length (0+1)).bind λn12=>(jY s11 n12 r9.2).bind λr13=>((r13.1).asAgg 3).bind λl14=>(l14[0]?).bind λv15=>((v15).asI .i64).bind λn16=>(l14[1]?).bind λv17=>((v17).asI .i64).bind λn18=>(l14[2]?).bind λv19=>((v19).asSl).bind λs20=>(Hp.new r13.2 [.int .i64 0,.int .i64 0,.sl ⟨none,0,.ex 0⟩]).bind λH21=>(Hp.st H21 r13.2.length 0 (.int .i64 n16)).bind λH22=>(Hp.st H22 r13.2.length (0+1) (.int .i64 n18)).bind λH23=>(Hp.st H23 r13.2.length (0+1+1) (.sl s20)).bind λH24=>(Hp.ldI H24 .i64 r13.2.length 0).bind λn25=>(Hp.ldI H24 .i64 r13.2.length (0+1)).bind λn26=>(Hp.ldSl H24 r13.2.length (0+2)).bind λs27=>(jZ n25 n26 s27 H24).bind λr28=>((r28.1).asTup 2).bind λl29=>(l29[0]?).bind λv30=>((v30).asSl).bind λs31=>(l29[1]?).bind λv32=>((v32).asB).bind λb33=>(bif (!b33) then (some ((.tup [(.int .i64 0),(.int .i64 3)]),r28.2)) else (cX.l1021 F jX ec jY jZ j_ iw F af r13.2.length 0 s31 1 0 r28.2))))))
def cX.tw (F:Nat) (aa:Sl) (ac:Int) (af:Int) (H:Hp):OA:=cX.twX F (gR.tw F) (fq.tw F) (dQ.tw F) (b_.tw F) (eA.tw F) (gC.tw F) aa ac af H
def cX.lh1021 (F:Nat) (jX:Sl->Int->Hp->OA) (ec:Int->Int->Int->Hp->OA) (jY:Sl->Int->Hp->OA) (jZ:Int->Int->Sl->Hp->OA) (j_:Int->Int->Hp->OA) (iw:Int->Int->Int->Hp->OA) (ks:List Nat) (n:Nat) (tm:Tm) (H:Hp):OA:=match ks,tm 1,tm 6,tm 7,tm 9,tm 10 with
 | [],(.int .i64 mD),(.ptr pT su),(.sl rE),(.int .i64 nG),(.int .i64 lD)=>cX.l1021 F jX ec jY jZ j_ iw n mD pT su rE nG lD H
 | _,_,_,_,_,_=>none
theorem cX.lh1021_inv {F:Nat} {jX:Sl->Int->Hp->OA} {ec:Int->Int->Int->Hp->OA} {jY:Sl->Int->Hp->OA} {jZ:Int->Int->Sl->Hp->OA} {j_:Int->Int->Hp->OA} {iw:Int->Int->Int->Hp->OA} {ks:List Nat} {n:Nat} {tm:Tm} {H:Hp} {r:AV×Hp} (h:cX.lh1021 F jX ec jY jZ j_ iw ks n tm H=some r):∃ mD pT su rE nG lD,ks=[]/\dZ tm [(1,(.int .i64 mD)),(6,(.ptr pT su)),(7,(.sl rE)),(9,(.int .i64 nG)),(10,(.int .i64 lD))]/\cX.l1021 F jX ec jY jZ j_ iw n mD pT su rE nG lD H=some r:=by
 unfold cX.lh1021 at h
 split at h
 ·exact ⟨_,_,_,_,_,_,rfl,⟨‹_›,‹_›,‹_›,‹_›,‹_›,trivial⟩,h⟩
 ·cases h
def cX.lh (F:Nat) (jX:Sl->Int->Hp->OA) (ec:Int->Int->Int->Hp->OA) (jY:Sl->Int->Hp->OA) (jZ:Int->Int->Sl->Hp->OA) (j_:Int->Int->Hp->OA) (iw:Int->Int->Int->Hp->OA) (p:Nat) (ks:List Nat) (n:Nat) (tm:Tm) (H:Hp):OA:=bif p.beq 1021 then cX.lh1021 F jX ec jY jZ j_ iw ks n tm H else (none)
def cX.mk (g:Sl->Int->Int->Hp->OA) (args:List AV) (H:Hp):OA:=match args with
 | [(.agg [(.sl aa),(.int .i64 ac)]),(.int .i64 af)]=>g aa ac af H
 | _=>none
def cX.cs (F:Nat) (jX:Sl->Int->Hp->OA) (ec:Int->Int->Int->Hp->OA) (jY:Sl->Int->Hp->OA) (jZ:Int->Int->Sl->Hp->OA) (j_:Int->Int->Hp->OA) (iw:Int->Int->Int->Hp->OA):Cs:=[(17,gR.mk jX),(18,fq.mk ec),(19,dQ.mk jY),(20,b_.mk jZ),(21,eA.mk j_),(22,gC.mk iw)]
theorem cX.loops (F:Nat) (jX:Sl->Int->Hp->OA) (ec:Int->Int->Int->Hp->OA) (jY:Sl->Int->Hp->OA) (jZ:Int->Int->Sl->Hp->OA) (j_:Int->Int->Hp->OA) (iw:Int->Int->Int->Hp->OA):LO (bh (cX.cs F jX ec jY jZ j_ iw)) aW (cX.lh F jX ec jY jZ j_ iw) F Tryz.f6:=
 (ae.rt (ae.rt (ae.rt (ae.rt (ae.rt (ae.rt (ae.rt (ae.lt (ae.rt (ae.block (ae.la (λn tm H r h=>by obtain ⟨mD,pT,su,rE,nG,lD,hks,e,h⟩:=cX.lh1021_inv (show cX.lh1021 F jX ec jY jZ j_ iw [] n tm H=some r from h);obtain _ | k1021:=n;cases h;exact ⟨_,rfl,by rw [<- eb e];exact Eq.trans (by kernel_rfl) h⟩) λk1021=>ae.no)))))))))))
theorem cX.eqX (F:Nat) (jX:Sl->Int->Hp->OA) (ec:Int->Int->Int->Hp->OA) (jY:Sl->Int->Hp->OA) (jZ:Int->Int->Sl->Hp->OA) (j_:Int->Int->Hp->OA) (iw:Int->Int->Int->Hp->OA) (aa:Sl) (ac:Int) (af:Int) (H:Hp):EX (bh (cX.cs F jX ec jY jZ j_ iw)) aW (cX.lh F jX ec jY jZ j_ iw) F Tryz.f6 [(.agg [(.sl aa),(.int .i64 ac)]),(.int .i64 af)] H=cX.twX F jX ec jY jZ j_ iw aa ac af H:=by kernel_rfl
theorem cX.k (F:Nat):Ok Tryz.prog 6 (cX.mk (cX.tw F)):=by
 intro args H v H' h
 unfold cX.mk at h
 split at h
 ·exact okT (TB:=aW) Tryz.func6 (bg (gR.k F) (bg (fq.k F) (bg (dQ.k F) (bg (b_.k F) (bg (eA.k F) (bg (gC.k F) ca)))))) (cX.loops F (gR.tw F) (fq.tw F) (dQ.tw F) (b_.tw F) (eA.tw F) (gC.tw F)) ((cX.eqX F (gR.tw F) (fq.tw F) (dQ.tw F) (b_.tw F) (eA.tw F) (gC.tw F) _ _ _ H).trans h) (by kernel_rfl)
 ·cases h
def eS.twX (F:Nat) (aa:Sl) (H:Hp):OA:=some ((.int .i64 (aa.n:Int)),H)
def eS.tw (F:Nat) (aa:Sl) (H:Hp):OA:=eS.twX F aa H
def eS.mk (g:Sl->Hp->OA) (args:List AV) (H:Hp):OA:=match args with
 | [(.sl aa)]=>g aa H
 | _=>none
theorem eS.eqX (F:Nat) (aa:Sl) (H:Hp):EX (bh []) aW lh0 F Tryz.f52 [(.sl aa)] H=eS.twX F aa H:=by kernel_rfl
theorem eS.k (F:Nat):Ok Tryz.prog 52 (eS.mk (eS.tw F)):=by
 intro args H v H' h
 unfold eS.mk at h
 split at h
 ·exact okT (TB:=aW) Tryz.func52 ca ae.no ((eS.eqX F _ H).trans h) (by kernel_rfl)
 ·cases h
def gk.twX (F:Nat) (aa:Int) (ai:Int) (cV:Int) (H:Hp):OA:=(bif (decide (ai<=aa)) then (some ((.bool (decide (aa<=cV))),H)) else (some ((.bool false),H)))
def gk.tw (F:Nat) (aa:Int) (ai:Int) (cV:Int) (H:Hp):OA:=gk.twX F aa ai cV H
def gk.mk (g:Int->Int->Int->Hp->OA) (args:List AV) (H:Hp):OA:=match args with
 | [(.int .i64 aa),(.int .i64 ai),(.int .i64 cV)]=>g aa ai cV H
 | _=>none
theorem gk.eqX (F:Nat) (aa:Int) (ai:Int) (cV:Int) (H:Hp):EX (bh []) aW lh0 F Tryz.f70 [(.int .i64 aa),(.int .i64 ai),(.int .i64 cV)] H=gk.twX F aa ai cV H:=by kernel_rfl
theorem gk.k (F:Nat):Ok Tryz.prog 70 (gk.mk (gk.tw F)):=by
 intro args H v H' h
 unfold gk.mk at h
 split at h
 ·exact okT (TB:=aW) Tryz.func70 ca ae.no ((gk.eqX F _ _ _ H).trans h) (by kernel_rfl)
 ·cases h
def jq.twX (F:Nat) (aa:Int) (ac:Int) (aI:Int) (cL:Int) (cG:Int) (H:Hp):OA:=(Hp.new H [(.int .i64 aa),(.int .i64 ac),(.int .i64 aI),(.int .i64 cL),(.int .i64 cG)]).bind λH6=>(Hp.ldI H6 .i64 H.length 4).bind λn7=>(bif (n7 != 1) then ((Hp.ldI H6 .i64 H.length 4).bind λn8=>some ((.bool (n8 != (-1))),H6)) else (some ((.bool false),H6)))
def jq.tw (F:Nat) (aa:Int) (ac:Int) (aI:Int) (cL:Int) (cG:Int) (H:Hp):OA:=jq.twX F aa ac aI cL cG H
def jq.mk (g:Int->Int->Int->Int->Int->Hp->OA) (args:List AV) (H:Hp):OA:=match args with
 | [(.agg [(.int .i64 aa),(.int .i64 ac),(.int .i64 aI),(.int .i64 cL),(.int .i64 cG)])]=>g aa ac aI cL cG H
 | _=>none
theorem jq.eqX (F:Nat) (aa:Int) (ac:Int) (aI:Int) (cL:Int) (cG:Int) (H:Hp):EX (bh []) aW lh0 F Tryz.f90 [(.agg [(.int .i64 aa),(.int .i64 ac),(.int .i64 aI),(.int .i64 cL),(.int .i64 cG)])] H=jq.twX F aa ac aI cL cG H:=by kernel_rfl
theorem jq.k (F:Nat):Ok Tryz.prog 90 (jq.mk (jq.tw F)):=by
 intro args H v H' h
 unfold jq.mk at h
 split at h
 ·exact okT (TB:=aW) Tryz.func90 ca ae.no ((jq.eqX F _ _ _ _ _ H).trans h) (by kernel_rfl)
 ·cases h
def eD.l13 (F:Nat) (lE:Int->Int->Int->Int->Int->Hp->OA) :Nat->Sl->Int->Int->Hp->OA
 | 0,_,_,_,_=>none
 | jN+1,nH,iH,gI,H6=>(bif (decide (gI<iH)) then ((Sl.idx nH gI 5).bind λp15=>(Hp.ldI H6 .i64 p15.1 p15.2).bind λn16=>(Hp.ldI H6 .i64 p15.1 (p15.2+1)).bind λn17=>(Hp.ldI H6 .i64 p15.1 (p15.2+2)).bind λn18=>(Hp.ldI H6 .i64 p15.1 (p15.2+3)).bind λn19=>(Hp.ldI H6 .i64 p15.1 (p15.2+4)).bind λn20=>(lE n16 n17 n18 n19 n20 H6).bind λr21=>((r21.1).asB).bind λb22=>(bif b22 then (some ((.int .i64 gI),r21.2)) else (eD.l13 F lE jN nH iH (IntKind.i64.wrap (gI+1)) r21.2))) else (some ((.int .i64 (-1)),H6)))
def eD.twX (F:Nat) (lE:Int->Int->Int->Int->Int->Hp->OA) (aa:Sl) (H:Hp):OA:=eD.l13 F lE F aa (aa.n:Int) 0 H
def eD.tw (F:Nat) (aa:Sl) (H:Hp):OA:=eD.twX F (jq.tw F) aa H
def eD.lh13 (F:Nat) (lE:Int->Int->Int->Int->Int->Hp->OA) (ks:List Nat) (n:Nat) (tm:Tm) (H:Hp):OA:=match ks,tm 0,tm 1,tm 7,tm 8 with
 | [],(.sl nH),(.fn 90 []),(.int .i64 iH),(.int .i64 gI)=>eD.l13 F lE n nH iH gI H
 | _,_,_,_,_=>none
theorem eD.lh13_inv {F:Nat} {lE:Int->Int->Int->Int->Int->Hp->OA} {ks:List Nat} {n:Nat} {tm:Tm} {H:Hp} {r:AV×Hp} (h:eD.lh13 F lE ks n tm H=some r):∃ nH iH gI,ks=[]/\dZ tm [(0,(.sl nH)),(1,(.fn 90 [])),(7,(.int .i64 iH)),(8,(.int .i64 gI))]/\eD.l13 F lE n nH iH gI H=some r:=by
 unfold eD.lh13 at h
 split at h
 ·exact ⟨_,_,_,rfl,⟨‹_›,‹_›,‹_›,‹_›,trivial⟩,h⟩
 ·cases h
def eD.lh (F:Nat) (lE:Int->Int->Int->Int->Int->Hp->OA) (p:Nat) (ks:List Nat) (n:Nat) (tm:Tm) (H:Hp):OA:=bif p.beq 13 then eD.lh13 F lE ks n tm H else (none)
def eD.mk (g:Sl->Hp->OA) (args:List AV) (H:Hp):OA:=match args with
 | [(.sl aa),(.fn 90 [])]=>g aa H
 | _=>none
def eD.cs (F:Nat) (lE:Int->Int->Int->Int->Int->Hp->OA):Cs:=[(90,jq.mk lE)]
theorem eD.loops (F:Nat) (lE:Int->Int->Int->Int->Int->Hp->OA):LO (bh (eD.cs F lE)) aW (eD.lh F lE) F Tryz.f108:=
 (ae.rt (ae.lt (ae.rt (ae.block (ae.la (λn tm H r h=>by obtain ⟨nH,iH,gI,hks,e,h⟩:=eD.lh13_inv (show eD.lh13 F lE [] n tm H=some r from h);obtain _ | k13:=n;cases h;exact ⟨_,rfl,by rw [<- eb e];exact Eq.trans (by kernel_rfl) h⟩) λk13=>ae.no)))))
theorem eD.eqX (F:Nat) (lE:Int->Int->Int->Int->Int->Hp->OA) (aa:Sl) (H:Hp):EX (bh (eD.cs F lE)) aW (eD.lh F lE) F Tryz.f108 [(.sl aa),(.fn 90 [])] H=eD.twX F lE aa H:=by kernel_rfl
theorem eD.k (F:Nat):Ok Tryz.prog 108 (eD.mk (eD.tw F)):=by
 intro args H v H' h
 unfold eD.mk at h
 split at h
 ·exact okT (TB:=aW) Tryz.func108 (bg (jq.k F) ca) (eD.loops F (jq.tw F)) ((eD.eqX F (jq.tw F) _ H).trans h) (by kernel_rfl)
 ·cases h
def jc.twX (F:Nat) (yf:Sl->Hp->OA) (aa:Sl) (H:Hp):OA:=(yf aa H).bind λr2=>((r2.1).asI .i64).bind λn3=>some ((.bool (decide (n3>=0))),r2.2)
def jc.tw (F:Nat) (aa:Sl) (H:Hp):OA:=jc.twX F (eD.tw F) aa H
def jc.mk (g:Sl->Hp->OA) (args:List AV) (H:Hp):OA:=match args with
 | [(.sl aa),(.fn 90 [])]=>g aa H
 | _=>none
def jc.cs (F:Nat) (yf:Sl->Hp->OA):Cs:=[(108,eD.mk yf)]
theorem jc.eqX (F:Nat) (yf:Sl->Hp->OA) (aa:Sl) (H:Hp):EX (bh (jc.cs F yf)) aW lh0 F Tryz.f89 [(.sl aa),(.fn 90 [])] H=jc.twX F yf aa H:=by kernel_rfl
theorem jc.k (F:Nat):Ok Tryz.prog 89 (jc.mk (jc.tw F)):=by
 intro args H v H' h
 unfold jc.mk at h
 split at h
 ·exact okT (TB:=aW) Tryz.func89 (bg (eD.k F) ca) ae.no ((jc.eqX F (eD.tw F) _ H).trans h) (by kernel_rfl)
 ·cases h
def bits_Mul64.twX (F:Nat) (aa:Int) (ai:Int) (H:Hp):OA:=some ((.tup [(.int .u64 (IntKind.u64.wrap ((IntKind.u64.wrap ((IntKind.u64.wrap ((Int.fdiv aa (2 ^ (min (32:Int).toNat (IntKind.u64).bits))) * (Int.fdiv ai (2 ^ (min (32:Int).toNat (IntKind.u64).bits)))))+(Int.fdiv (IntKind.u64.wrap ((IntKind.u64.wrap ((Int.fdiv aa (2 ^ (min (32:Int).toNat (IntKind.u64).bits))) * (Go.bits .and .u64 ai 4294967295)))+(Int.fdiv (IntKind.u64.wrap ((Go.bits .and .u64 aa 4294967295) * (Go.bits .and .u64 ai 4294967295))) (2 ^ (min (32:Int).toNat (IntKind.u64).bits))))) (2 ^ (min (32:Int).toNat (IntKind.u64).bits)))))+(Int.fdiv (IntKind.u64.wrap ((Go.bits .and .u64 (IntKind.u64.wrap ((IntKind.u64.wrap ((Int.fdiv aa (2 ^ (min (32:Int).toNat (IntKind.u64).bits))) * (Go.bits .and .u64 ai 4294967295)))+(Int.fdiv (IntKind.u64.wrap ((Go.bits .and .u64 aa 4294967295) * (Go.bits .and .u64 ai 4294967295))) (2 ^ (min (32:Int).toNat (IntKind.u64).bits))))) 4294967295)+(IntKind.u64.wrap ((Go.bits .and .u64 aa 4294967295) * (Int.fdiv ai (2 ^ (min (32:Int).toNat (IntKind.u64).bits))))))) (2 ^ (min (32:Int).toNat (IntKind.u64).bits)))))),(.int .u64 (IntKind.u64.wrap (aa * ai)))]),H)
def bits_Mul64.tw (F:Nat) (aa:Int) (ai:Int) (H:Hp):OA:=bits_Mul64.twX F aa ai H
def bits_Mul64.mk (g:Int->Int->Hp->OA) (args:List AV) (H:Hp):OA:=match args with
 | [(.int .u64 aa),(.int .u64 ai)]=>g aa ai H
 | _=>none
theorem bits_Mul64.eqX (F:Nat) (aa:Int) (ai:Int) (H:Hp):EX (bh []) aW lh0 F Tryz.f131 [(.int .u64 aa),(.int .u64 ai)] H=bits_Mul64.twX F aa ai H:=by kernel_rfl
theorem bits_Mul64.k (F:Nat):Ok Tryz.prog 131 (bits_Mul64.mk (bits_Mul64.tw F)):=by
 intro args H v H' h
 unfold bits_Mul64.mk at h
 split at h
 ·exact okT (TB:=aW) Tryz.func131 ca ae.no ((bits_Mul64.eqX F _ _ H).trans h) (by kernel_rfl)
 ·cases h
def bits_Mul.twX (F:Nat) (g_bits_Mul64:Int->Int->Hp->OA) (aa:Int) (ai:Int) (H:Hp):OA:=(g_bits_Mul64 aa ai H).bind λr3=>((r3.1).asTup 2).bind λl4=>(l4[0]?).bind λv5=>((v5).asI .u64).bind λn6=>(l4[1]?).bind λv7=>((v7).asI .u64).bind λn8=>some ((.tup [(.int .u64 n6),(.int .u64 n8)]),r3.2)
def bits_Mul.tw (F:Nat) (aa:Int) (ai:Int) (H:Hp):OA:=bits_Mul.twX F (bits_Mul64.tw F) aa ai H
def bits_Mul.mk (g:Int->Int->Hp->OA) (args:List AV) (H:Hp):OA:=match args with
 | [(.int .u64 aa),(.int .u64 ai)]=>g aa ai H
 | _=>none
def bits_Mul.cs (F:Nat) (g_bits_Mul64:Int->Int->Hp->OA):Cs:=[(131,bits_Mul64.mk g_bits_Mul64)]
theorem bits_Mul.eqX (F:Nat) (g_bits_Mul64:Int->Int->Hp->OA) (aa:Int) (ai:Int) (H:Hp):EX (bh (bits_Mul.cs F g_bits_Mul64)) aW lh0 F Tryz.f127 [(.int .u64 aa),(.int .u64 ai)] H=bits_Mul.twX F g_bits_Mul64 aa ai H:=by kernel_rfl
theorem bits_Mul.k (F:Nat):Ok Tryz.prog 127 (bits_Mul.mk (bits_Mul.tw F)):=by
 intro args H v H' h
 unfold bits_Mul.mk at h
 split at h
 ·exact okT (TB:=aW) Tryz.func127 (bg (bits_Mul64.k F) ca) ae.no ((bits_Mul.eqX F (bits_Mul64.tw F) _ _ H).trans h) (by kernel_rfl)
 ·cases h
def dc.l254 (F:Nat) (g_bits_Mul:Int->Int->Hp->OA) :Nat->Sl->Int->Hp->OA
 | 0,_,_,_=>none
 | Zh+1,qu,rF,H33=>(bif (decide (rF<(qu.n:Int))) then ((Sl.cut qu 2 rF (qu.n:Int)).bind λs37=>(Sl.cut qu 2 0 rF).bind λs38=>(Hp.cpy H33 2 s37 s38).bind λc39=>dc.l254 F g_bits_Mul Zh qu (IntKind.i64.wrap (rF+(c39.1:Int))) c39.2) else (some ((.sl qu),H33)))
def dc.j1 (F:Nat) (g_bits_Mul:Int->Int->Hp->OA) (Zi:Sl) (vj:Int) (H21:Hp):OA:=(Hp.mk H21 [.int .i64 0,.int .i64 0] 16 (IntKind.i64.wrap vj) (IntKind.i64.wrap vj)).bind λm22=>(Hp.cpy m22.2 2 m22.1 Zi).bind λc23=>dc.l254 F g_bits_Mul F m22.1 (c23.1:Int) c23.2
def dc.j2 (F:Nat) (g_bits_Mul:Int->Int->Hp->OA) (PF:Sl) (yh:Int) (H7:Hp):OA:=(g_bits_Mul (IntKind.u64.wrap (PF.n:Int)) (IntKind.u64.wrap yh) H7).bind λr8=>((r8.1).asTup 2).bind λl9=>(l9[0]?).bind λv10=>((v10).asI .u64).bind λn11=>(l9[1]?).bind λv12=>((v12).asI .u64).bind λn13=>(bif (decide (n11>0)) then (none) else ((bif (decide (n13>9223372036854775807)) then (none) else (dc.j1 F g_bits_Mul PF n13 r8.2))))
def dc.twX (F:Nat) (g_bits_Mul:Int->Int->Hp->OA) (aa:Sl) (ai:Int) (H:Hp):OA:=(bif (decide (ai<0)) then (none) else (dc.j2 F g_bits_Mul aa ai H))
def dc.tw (F:Nat) (aa:Sl) (ai:Int) (H:Hp):OA:=dc.twX F (bits_Mul.tw F) aa ai H
def dc.lh254 (F:Nat) (g_bits_Mul:Int->Int->Hp->OA) (ks:List Nat) (n:Nat) (tm:Tm) (H:Hp):OA:=match ks,tm 7,tm 8 with
 | [],(.sl qu),(.int .i64 rF)=>dc.l254 F g_bits_Mul n qu rF H
 | _,_,_=>none
theorem dc.lh254_inv {F:Nat} {g_bits_Mul:Int->Int->Hp->OA} {ks:List Nat} {n:Nat} {tm:Tm} {H:Hp} {r:AV×Hp} (h:dc.lh254 F g_bits_Mul ks n tm H=some r):∃ qu rF,ks=[]/\dZ tm [(7,(.sl qu)),(8,(.int .i64 rF))]/\dc.l254 F g_bits_Mul n qu rF H=some r:=by
 unfold dc.lh254 at h
 split at h
 ·exact ⟨_,_,rfl,⟨‹_›,‹_›,trivial⟩,h⟩
 ·cases h
def dc.lh (F:Nat) (g_bits_Mul:Int->Int->Hp->OA) (p:Nat) (ks:List Nat) (n:Nat) (tm:Tm) (H:Hp):OA:=bif p.beq 254 then dc.lh254 F g_bits_Mul ks n tm H else (none)
def dc.pn:Nat->List Nat:=eU [(9,[7])]
def dc.tb:Nat->List (List Nat):=eU [(9,[[],[],[],[1,2],[],[],[4,5],[1,2,3,4,5,6],[0,1,2,3,4,5,6,7],[0,1,2,3,4,5,6,7,8]])]
def dc.mk (g:Sl->Int->Hp->OA) (args:List AV) (H:Hp):OA:=match args with
 | [(.sl aa),(.int .i64 ai)]=>g aa ai H
 | _=>none
def dc.cs (F:Nat) (g_bits_Mul:Int->Int->Hp->OA):Cs:=[(127,bits_Mul.mk g_bits_Mul)]
theorem dc.loops (F:Nat) (g_bits_Mul:Int->Int->Hp->OA):LO (bh (dc.cs F g_bits_Mul)) dc.pn (dc.lh F g_bits_Mul) F Tryz.f109:=
 (ae.rt (ae.rt (ae.rt (ae.rt (ae.rt (ae.rt (ae.lt (ae.block (ae.la (λn tm H r h=>by obtain ⟨qu,rF,hks,e,h⟩:=dc.lh254_inv (show dc.lh254 F g_bits_Mul [] n tm H=some r from h);obtain _ | k254:=n;cases h;exact ⟨_,rfl,by rw [<- eb e];exact Eq.trans (by kernel_rfl) h⟩) λk254=>ae.no)))))))))
theorem dc.eqX (F:Nat) (g_bits_Mul:Int->Int->Hp->OA) (aa:Sl) (ai:Int) (H:Hp):EX (bh (dc.cs F g_bits_Mul)) dc.pn (dc.lh F g_bits_Mul) F Tryz.f109 [(.sl aa),(.int .i64 ai)] H=dc.twX F g_bits_Mul aa ai H:=by kernel_rfl
theorem dc.k (F:Nat):Ok Tryz.prog 109 (dc.mk (dc.tw F)):=by
 intro args H v H' h
 unfold dc.mk at h
 split at h
 ·exact okT (TB:=dc.tb) Tryz.func109 (bg (bits_Mul.k F) ca) (dc.loops F (bits_Mul.tw F)) ((dc.eqX F (bits_Mul.tw F) _ _ H).trans h) (by kernel_rfl)
 ·cases h
def hJ.twX (F:Nat) (aa:Int) (ac:Int) (aI:Int) (cL:Int) (cG:Int) (H:Hp):OA:=(Hp.new H [(.int .i64 aa),(.int .i64 ac),(.int .i64 aI),(.int .i64 cL),(.int .i64 cG)]).bind λH6=>(Hp.new H6 [.int .i64 0,.int .i64 0,.int .i64 0,.int .i64 0]).bind λH7=>(Hp.ldI H7 .i64 H.length 0).bind λn8=>(Hp.ldI H7 .i64 H.length 1).bind λn9=>(Hp.ldI H7 .i64 H.length 2).bind λn10=>(Hp.ldI H7 .i64 H.length 3).bind λn11=>(Hp.st H7 H6.length 0 (.int .i64 n8)).bind λH12=>(Hp.st H12 H6.length (0+1) (.int .i64 n9)).bind λH13=>(Hp.st H13 H6.length (0+1+1) (.int .i64 n10)).bind λH14=>(Hp.st H14 H6.length (0+1+1+1) (.int .i64 n11)).bind λH15=>(Hp.ldI H15 .i64 H6.length 0).bind λn16=>(Hp.ldI H15 .i64 H6.length (0+1)).bind λn17=>(Hp.ldI H15 .i64 H6.length (0+2)).bind λn18=>(Hp.ldI H15 .i64 H6.length (0+3)).bind λn19=>some ((.agg [(.int .i64 n16),(.int .i64 n17),(.int .i64 n18),(.int .i64 n19)]),H15)
def hJ.tw (F:Nat) (aa:Int) (ac:Int) (aI:Int) (cL:Int) (cG:Int) (H:Hp):OA:=hJ.twX F aa ac aI cL cG H
def hJ.mk (g:Int->Int->Int->Int->Int->Hp->OA) (args:List AV) (H:Hp):OA:=match args with
 | [(.agg [(.int .i64 aa),(.int .i64 ac),(.int .i64 aI),(.int .i64 cL),(.int .i64 cG)])]=>g aa ac aI cL cG H
 | _=>none
theorem hJ.eqX (F:Nat) (aa:Int) (ac:Int) (aI:Int) (cL:Int) (cG:Int) (H:Hp):EX (bh []) aW lh0 F Tryz.f110 [(.agg [(.int .i64 aa),(.int .i64 ac),(.int .i64 aI),(.int .i64 cL),(.int .i64 cG)])] H=hJ.twX F aa ac aI cL cG H:=by kernel_rfl
theorem hJ.k (F:Nat):Ok Tryz.prog 110 (hJ.mk (hJ.tw F)):=by
 intro args H v H' h
 unfold hJ.mk at h
 split at h
 ·exact okT (TB:=aW) Tryz.func110 ca ae.no ((hJ.eqX F _ _ _ _ _ H).trans h) (by kernel_rfl)
 ·cases h
def hK.twX (F:Nat) (aa:Int) (ac:Int) (aI:Int) (cL:Int) (cG:Int) (eB:Int) (H:Hp):OA:=(Hp.new H [(.int .i64 aa),(.int .i64 ac),(.int .i64 aI),(.int .i64 cL),(.int .i64 cG)]).bind λH7=>(bif (eB==0) then (some ((.bool true),H7)) else ((Hp.ldI H7 .i64 H.length 4).bind λn8=>some ((.bool (eB==(IntKind.i64.wrap (2+n8)))),H7)))
def hK.tw (F:Nat) (aa:Int) (ac:Int) (aI:Int) (cL:Int) (cG:Int) (eB:Int) (H:Hp):OA:=hK.twX F aa ac aI cL cG eB H
def hK.mk (g:Int->Int->Int->Int->Int->Int->Hp->OA) (args:List AV) (H:Hp):OA:=match args with
 | [(.agg [(.int .i64 aa),(.int .i64 ac),(.int .i64 aI),(.int .i64 cL),(.int .i64 cG)]),(.int .i64 eB)]=>g aa ac aI cL cG eB H
 | _=>none
theorem hK.eqX (F:Nat) (aa:Int) (ac:Int) (aI:Int) (cL:Int) (cG:Int) (eB:Int) (H:Hp):EX (bh []) aW lh0 F Tryz.f111 [(.agg [(.int .i64 aa),(.int .i64 ac),(.int .i64 aI),(.int .i64 cL),(.int .i64 cG)]),(.int .i64 eB)] H=hK.twX F aa ac aI cL cG eB H:=by kernel_rfl
theorem hK.k (F:Nat):Ok Tryz.prog 111 (hK.mk (hK.tw F)):=by
 intro args H v H' h
 unfold hK.mk at h
 split at h
 ·exact okT (TB:=aW) Tryz.func111 ca ae.no ((hK.eqX F _ _ _ _ _ _ H).trans h) (by kernel_rfl)
 ·cases h
def jP.twX (F:Nat) (aa:Sl) (H:Hp):OA:=some ((.int .i64 (aa.n:Int)),H)
def jP.tw (F:Nat) (aa:Sl) (H:Hp):OA:=jP.twX F aa H
def jP.mk (g:Sl->Hp->OA) (args:List AV) (H:Hp):OA:=match args with
 | [(.sl aa)]=>g aa H
 | _=>none
theorem jP.eqX (F:Nat) (aa:Sl) (H:Hp):EX (bh []) aW lh0 F Tryz.f128 [(.sl aa)] H=jP.twX F aa H:=by kernel_rfl
theorem jP.k (F:Nat):Ok Tryz.prog 128 (jP.mk (jP.tw F)):=by
 intro args H v H' h
 unfold jP.mk at h
 split at h
 ·exact okT (TB:=aW) Tryz.func128 ca ae.no ((jP.eqX F _ H).trans h) (by kernel_rfl)
 ·cases h
def ik.twX (F:Nat) (yi:Sl->Hp->OA) (lX:Int->Int->Int->Hp->OA) (aa:Sl) (ai:Int) (H:Hp):OA:=(yi aa H).bind λr3=>((r3.1).asI .i64).bind λn4=>(lX ai 0 (IntKind.i64.wrap (n4 - 1)) r3.2).bind λr5=>((r5.1).asB).bind λb6=>some ((.bool b6),r5.2)
def ik.tw (F:Nat) (aa:Sl) (ai:Int) (H:Hp):OA:=ik.twX F (jP.tw F) (gk.tw F) aa ai H
def ik.mk (g:Sl->Int->Hp->OA) (args:List AV) (H:Hp):OA:=match args with
 | [(.sl aa),(.int .i64 ai)]=>g aa ai H
 | _=>none
def ik.cs (F:Nat) (yi:Sl->Hp->OA) (lX:Int->Int->Int->Hp->OA):Cs:=[(128,jP.mk yi),(70,gk.mk lX)]
theorem ik.eqX (F:Nat) (yi:Sl->Hp->OA) (lX:Int->Int->Int->Hp->OA) (aa:Sl) (ai:Int) (H:Hp):EX (bh (ik.cs F yi lX)) aW lh0 F Tryz.f112 [(.sl aa),(.int .i64 ai)] H=ik.twX F yi lX aa ai H:=by kernel_rfl
theorem ik.k (F:Nat):Ok Tryz.prog 112 (ik.mk (ik.tw F)):=by
 intro args H v H' h
 unfold ik.mk at h
 split at h
 ·exact okT (TB:=aW) Tryz.func112 (bg (jP.k F) (bg (gk.k F) ca)) ae.no ((ik.eqX F (jP.tw F) (gk.tw F) _ _ H).trans h) (by kernel_rfl)
 ·cases h
def bZ.l3931 (F:Nat) (hZ:Sl->Int->Hp->OA) (gl:Int->Int->Int->Int->Int->Hp->OA) (gm:Int->Int->Int->Int->Int->Int->Hp->OA) (h_:Sl->Int->Hp->OA) (C61_:Nat->Nat->Nat->Nat->Sl->Int->Int->Hp->OA):Nat->Nat->Nat->Nat->Nat->Sl->Int->Int->Nat->Nat->Int->Int->Int->Int->Int->Int->Hp->OA
 | 0,_,_,_,_,_,_,_,_,_,_,_,_,_,_,_,_=>none
 | PG+1,jd,ka,kC,mE,sv,nI,nJ,nK,pU,mF,ki,kj,kl,kn,ia,H233=>(bif (decide (ia<4)) then ((if 0<=ia/\ia<(4:Int) then (([(.int .i64 ki),(.int .i64 kj),(.int .i64 kl),(.int .i64 kn)]:List AV)[(ia:Int).toNat * 1]?).bind λv283=>((v283).asI .i64).bind λn284=>(Hp.ldSl H233 kC mE).bind λs285=>(Hp.ldI H233 .i64 nK pU).bind λn286=>(Hp.ldI H233 .i64 nK (pU+1)).bind λn287=>(Hp.ldI H233 .i64 nK (pU+2)).bind λn288=>(Hp.ldI H233 .i64 nK (pU+3)).bind λn289=>(Hp.ldI H233 .i64 nK (pU+4)).bind λn290=>(gm n286 n287 n288 n289 n290 ia H233).bind λr291=>((r291.1).asB).bind λb292=>(bif b292 then ((Hp.ldSl r291.2 kC (mE+1)).bind λs293=>(h_ s293 n284 r291.2).bind λr294=>((r294.1).asB).bind λb295=>(bif (!b295) then ((Hp.ldSl r294.2 kC mE).bind λs296=>(Hp.ldSl r294.2 kC (mE+1)).bind λs297=>(Hp.st r294.2 jd ka (.sl s296)).bind λH298=>(Hp.st H298 jd (ka+1) (.sl s297)).bind λH299=>(Hp.ldSl H299 jd ka).bind λs300=>(Hp.ldSl H299 jd (ka+1)).bind λs301=>some ((.tup [(.agg [(.sl s300),(.sl s301)]),(.bool false)]),H299)) else ((Sl.idx s293 n284 2).bind λp302=>(Hp.ldI r294.2 .i64 p302.1 p302.2).bind λn303=>(bif (decide (n303>=0)) then ((Hp.ldSl r294.2 kC mE).bind λs304=>(Hp.ldSl r294.2 kC (mE+1)).bind λs305=>(Hp.st r294.2 jd ka (.sl s304)).bind λH306=>(Hp.st H306 jd (ka+1) (.sl s305)).bind λH307=>(Hp.ldSl H307 jd ka).bind λs308=>(Hp.ldSl H307 jd (ka+1)).bind λs309=>some ((.tup [(.agg [(.sl s308),(.sl s309)]),(.bool false)]),H307)) else ((Sl.idx s293 n284 2).bind λp310=>(Hp.st r294.2 p310.1 p310.2 (.int .i64 mF)).bind λH311=>(Hp.st H311 p310.1 (p310.2+1) (.int .i64 ia)).bind λH312=>bZ.l3931 F hZ gl gm h_ C61_ PG jd ka kC mE sv nI nJ nK pU mF ki kj kl kn (IntKind.i64.wrap (ia+1)) H312))))) else ((h_ s285 n284 r291.2).bind λr313=>((r313.1).asB).bind λb314=>(bif (!b314) then ((Hp.ldSl r313.2 kC mE).bind λs315=>(Hp.ldSl r313.2 kC (mE+1)).bind λs316=>(Hp.st r313.2 jd ka (.sl s315)).bind λH317=>(Hp.st H317 jd (ka+1) (.sl s316)).bind λH318=>(Hp.ldSl H318 jd ka).bind λs319=>(Hp.ldSl H318 jd (ka+1)).bind λs320=>some ((.tup [(.agg [(.sl s319),(.sl s320)]),(.bool false)]),H318)) else ((Sl.idx s285 n284 2).bind λp321=>(Hp.ldI r313.2 .i64 p321.1 p321.2).bind λn322=>(bif (decide (n322>=0)) then ((Hp.ldSl r313.2 kC mE).bind λs323=>(Hp.ldSl r313.2 kC (mE+1)).bind λs324=>(Hp.st r313.2 jd ka (.sl s323)).bind λH325=>(Hp.st H325 jd (ka+1) (.sl s324)).bind λH326=>(Hp.ldSl H326 jd ka).bind λs327=>(Hp.ldSl H326 jd (ka+1)).bind λs328=>some ((.tup [(.agg [(.sl s327),(.sl s328)]),(.bool false)]),H326)) else ((Sl.idx s285 n284 2).bind λp329=>(Hp.st r313.2 p329.1 p329.2 (.int .i64 mF)).bind λH330=>(Hp.st H330 p329.1 (p329.2+1) (.int .i64 ia)).bind λH331=>bZ.l3931 F hZ gl gm h_ C61_ PG jd ka kC mE sv nI nJ nK pU mF ki kj kl kn (IntKind.i64.wrap (ia+1)) H331)))))) else none)) else (C61_ jd ka kC mE sv nI (IntKind.i64.wrap (nJ+1)) H233))
termination_by structural n=>n
def bZ.l61 (F:Nat) (hZ:Sl->Int->Hp->OA) (gl:Int->Int->Int->Int->Int->Hp->OA) (gm:Int->Int->Int->Int->Int->Int->Hp->OA) (h_:Sl->Int->Hp->OA) :Nat->Nat->Nat->Nat->Nat->Sl->Int->Int->Hp->OA
 | 0,_,_,_,_,_,_,_,_=>none
 | eC+1,oH,qT,pV,sx,tI,oI,mG,H29=>(bif (decide (mG<oI)) then ((Sl.idx tI mG 5).bind λp184=>(Hp.ldI H29 .i64 p184.1 p184.2).bind λn185=>(Hp.ldI H29 .i64 p184.1 (p184.2+1)).bind λn186=>(Hp.ldI H29 .i64 p184.1 (p184.2+2)).bind λn187=>(Hp.ldI H29 .i64 p184.1 (p184.2+3)).bind λn188=>(Hp.ldI H29 .i64 p184.1 (p184.2+4)).bind λn189=>(Hp.new H29 [.int .i64 0,.int .i64 0,.int .i64 0,.int .i64 0,.int .i64 0]).bind λH190=>(Hp.st H190 H29.length 0 (.int .i64 n185)).bind λH191=>(Hp.st H191 H29.length (0+1) (.int .i64 n186)).bind λH192=>(Hp.st H192 H29.length (0+1+1) (.int .i64 n187)).bind λH193=>(Hp.st H193 H29.length (0+1+1+1) (.int .i64 n188)).bind λH194=>(Hp.st H194 H29.length (0+1+1+1+1) (.int .i64 n189)).bind λH195=>(Hp.ldI H195 .i64 H29.length 0).bind λn196=>(Hp.ldI H195 .i64 H29.length (0+1)).bind λn197=>(Hp.ldI H195 .i64 H29.length (0+2)).bind λn198=>(Hp.ldI H195 .i64 H29.length (0+3)).bind λn199=>(Hp.ldI H195 .i64 H29.length (0+4)).bind λn200=>(gl n196 n197 n198 n199 n200 H195).bind λr201=>((r201.1).asAgg 4).bind λl202=>(l202[0]?).bind λv203=>((v203).asI .i64).bind λn204=>(l202[1]?).bind λv205=>((v205).asI .i64).bind λn206=>(l202[2]?).bind λv207=>((v207).asI .i64).bind λn208=>(l202[3]?).bind λv209=>((v209).asI .i64).bind λn210=>bZ.l3931 F hZ gl gm h_ (bZ.l61 F hZ gl gm h_ eC) F oH qT pV sx tI oI mG H29.length 0 mG n204 n206 n208 n210 0 r201.2) else ((Hp.ldSl H29 pV sx).bind λs332=>(Hp.ldSl H29 pV (sx+1)).bind λs333=>(Hp.st H29 oH qT (.sl s332)).bind λH334=>(Hp.st H334 oH (qT+1) (.sl s333)).bind λH335=>(Hp.ldSl H335 oH qT).bind λs336=>(Hp.ldSl H335 oH (qT+1)).bind λs337=>some ((.tup [(.agg [(.sl s336),(.sl s337)]),(.bool true)]),H335)))
termination_by structural n=>n
def bZ.twX (F:Nat) (hZ:Sl->Int->Hp->OA) (gl:Int->Int->Int->Int->Int->Hp->OA) (gm:Int->Int->Int->Int->Int->Int->Hp->OA) (h_:Sl->Int->Hp->OA) (aa:Sl) (ac:Int) (H:Hp):OA:=(Hp.new H [(.sl aa),(.int .i64 ac)]).bind λH3=>(Hp.new H3 [.sl ⟨none,0,.ex 0⟩,.sl ⟨none,0,.ex 0⟩]).bind λH4=>(Hp.ldSl H4 H.length 0).bind λs5=>(Hp.new H4 [(.int .i64 (-1)),(.int .i64 0)]).bind λH6=>(hZ (⟨some (H4.length,0),1,.ex 1⟩:Sl) (IntKind.i64.wrap (2 * (s5.n:Int))) H6).bind λr7=>((r7.1).asSl).bind λs8=>(Hp.new r7.2 [(.int .i64 (-1)),(.int .i64 0)]).bind λH9=>(hZ (⟨some (r7.2.length,0),1,.ex 1⟩:Sl) (IntKind.i64.wrap (2 * (s5.n:Int))) H9).bind λr10=>((r10.1).asSl).bind λs11=>(Hp.new r10.2 [.sl ⟨none,0,.ex 0⟩,.sl ⟨none,0,.ex 0⟩]).bind λH12=>(Hp.st H12 r10.2.length 0 (.sl s8)).bind λH13=>(Hp.st H13 r10.2.length (0+1) (.sl s11)).bind λH14=>(Hp.ldSl H14 H.length 0).bind λs15=>bZ.l61 F hZ gl gm h_ F H3.length 0 r10.2.length 0 s15 (s15.n:Int) 0 H14
def bZ.tw (F:Nat) (aa:Sl) (ac:Int) (H:Hp):OA:=bZ.twX F (dc.tw F) (hJ.tw F) (hK.tw F) (ik.tw F) aa ac H
def bZ.lh61 (F:Nat) (hZ:Sl->Int->Hp->OA) (gl:Int->Int->Int->Int->Int->Hp->OA) (gm:Int->Int->Int->Int->Int->Int->Hp->OA) (h_:Sl->Int->Hp->OA) (ks:List Nat) (n:Nat) (tm:Tm) (H:Hp):OA:=match ks,tm 2,tm 5,tm 25,tm 26,tm 27 with
 | [],(.ptr oH qT),(.ptr pV sx),(.sl tI),(.int .i64 oI),(.int .i64 mG)=>bZ.l61 F hZ gl gm h_ n oH qT pV sx tI oI mG H
 | _,_,_,_,_,_=>none
theorem bZ.lh61_inv {F:Nat} {hZ:Sl->Int->Hp->OA} {gl:Int->Int->Int->Int->Int->Hp->OA} {gm:Int->Int->Int->Int->Int->Int->Hp->OA} {h_:Sl->Int->Hp->OA} {ks:List Nat} {n:Nat} {tm:Tm} {H:Hp} {r:AV×Hp} (h:bZ.lh61 F hZ gl gm h_ ks n tm H=some r):∃ oH qT pV sx tI oI mG,ks=[]/\dZ tm [(2,(.ptr oH qT)),(5,(.ptr pV sx)),(25,(.sl tI)),(26,(.int .i64 oI)),(27,(.int .i64 mG))]/\bZ.l61 F hZ gl gm h_ n oH qT pV sx tI oI mG H=some r:=by
 unfold bZ.lh61 at h
 split at h
 ·exact ⟨_,_,_,_,_,_,_,rfl,⟨‹_›,‹_›,‹_›,‹_›,‹_›,trivial⟩,h⟩
 ·cases h
def bZ.lh3931 (F:Nat) (hZ:Sl->Int->Hp->OA) (gl:Int->Int->Int->Int->Int->Hp->OA) (gm:Int->Int->Int->Int->Int->Int->Hp->OA) (h_:Sl->Int->Hp->OA) (ks:List Nat) (n:Nat) (tm:Tm) (H:Hp):OA:=match ks,tm 2,tm 5,tm 6,tm 7,tm 25,tm 26,tm 27,tm 33,tm 34 with
 | [eC],(.ptr jd ka),(.ptr kC mE),(.int .i64 mF),(.ptr nK pU),(.sl sv),(.int .i64 nI),(.int .i64 nJ),(.agg [(.int .i64 ki),(.int .i64 kj),(.int .i64 kl),(.int .i64 kn)]),(.int .i64 ia)=>bZ.l3931 F hZ gl gm h_ (bZ.l61 F hZ gl gm h_ eC) n jd ka kC mE sv nI nJ nK pU mF ki kj kl kn ia H
 | _,_,_,_,_,_,_,_,_,_=>none
theorem bZ.lh3931_inv {F:Nat} {hZ:Sl->Int->Hp->OA} {gl:Int->Int->Int->Int->Int->Hp->OA} {gm:Int->Int->Int->Int->Int->Int->Hp->OA} {h_:Sl->Int->Hp->OA} {ks:List Nat} {n:Nat} {tm:Tm} {H:Hp} {r:AV×Hp} (h:bZ.lh3931 F hZ gl gm h_ ks n tm H=some r):∃ eC jd ka kC mE mF nK pU sv nI nJ ki kj kl kn ia,ks=[eC]/\dZ tm [(2,(.ptr jd ka)),(5,(.ptr kC mE)),(6,(.int .i64 mF)),(7,(.ptr nK pU)),(25,(.sl sv)),(26,(.int .i64 nI)),(27,(.int .i64 nJ)),(33,(.agg [(.int .i64 ki),(.int .i64 kj),(.int .i64 kl),(.int .i64 kn)])),(34,(.int .i64 ia))]/\bZ.l3931 F hZ gl gm h_ (bZ.l61 F hZ gl gm h_ eC) n jd ka kC mE sv nI nJ nK pU mF ki kj kl kn ia H=some r:=by
 unfold bZ.lh3931 at h
 split at h
 ·exact ⟨_,_,_,_,_,_,_,_,_,_,_,_,_,_,_,_,rfl,⟨‹_›,‹_›,‹_›,‹_›,‹_›,‹_›,‹_›,‹_›,‹_›,trivial⟩,h⟩
 ·cases h
def bZ.lh (F:Nat) (hZ:Sl->Int->Hp->OA) (gl:Int->Int->Int->Int->Int->Hp->OA) (gm:Int->Int->Int->Int->Int->Int->Hp->OA) (h_:Sl->Int->Hp->OA) (p:Nat) (ks:List Nat) (n:Nat) (tm:Tm) (H:Hp):OA:=bif p.beq 3931 then bZ.lh3931 F hZ gl gm h_ ks n tm H else (bif p.beq 61 then bZ.lh61 F hZ gl gm h_ ks n tm H else (none))
def bZ.mk (g:Sl->Int->Hp->OA) (args:List AV) (H:Hp):OA:=match args with
 | [(.agg [(.sl aa),(.int .i64 ac)])]=>g aa ac H
 | _=>none
def bZ.cs (F:Nat) (hZ:Sl->Int->Hp->OA) (gl:Int->Int->Int->Int->Int->Hp->OA) (gm:Int->Int->Int->Int->Int->Int->Hp->OA) (h_:Sl->Int->Hp->OA):Cs:=[(109,dc.mk hZ),(110,hJ.mk gl),(111,hK.mk gm),(112,ik.mk h_)]
theorem bZ.loops (F:Nat) (hZ:Sl->Int->Hp->OA) (gl:Int->Int->Int->Int->Int->Hp->OA) (gm:Int->Int->Int->Int->Int->Int->Hp->OA) (h_:Sl->Int->Hp->OA):LO (bh (bZ.cs F hZ gl gm h_)) aW (bZ.lh F hZ gl gm h_) F Tryz.f91:=
 (ae.rt (ae.rt (ae.rt (ae.lt (ae.rt (ae.block (ae.la (λn tm H r h=>by obtain ⟨oH,qT,pV,sx,tI,oI,mG,hks,e,h⟩:=bZ.lh61_inv (show bZ.lh61 F hZ gl gm h_ [] n tm H=some r from h);obtain _ | k61:=n;cases h;exact ⟨_,rfl,by rw [<- eb e];exact Eq.trans (by kernel_rfl) h⟩) λk61=>(ae.rt (ae.rt (ae.lt (ae.block (ae.rt (ae.rt (ae.block (ae.la (λn tm H r h=>by obtain ⟨eC,jd,ka,kC,mE,mF,nK,pU,sv,nI,nJ,ki,kj,kl,kn,ia,hks,e,h⟩:=bZ.lh3931_inv (show bZ.lh3931 F hZ gl gm h_ [k61] n tm H=some r from h);cases hks;obtain _ | k3931:=n;cases h;exact ⟨_,rfl,by rw [<- eb e];exact Eq.trans (by kernel_rfl) h⟩) λk3931=>ae.no)))))))))))))))
theorem bZ.eqX (F:Nat) (hZ:Sl->Int->Hp->OA) (gl:Int->Int->Int->Int->Int->Hp->OA) (gm:Int->Int->Int->Int->Int->Int->Hp->OA) (h_:Sl->Int->Hp->OA) (aa:Sl) (ac:Int) (H:Hp):EX (bh (bZ.cs F hZ gl gm h_)) aW (bZ.lh F hZ gl gm h_) F Tryz.f91 [(.agg [(.sl aa),(.int .i64 ac)])] H=bZ.twX F hZ gl gm h_ aa ac H:=by kernel_rfl
theorem bZ.k (F:Nat):Ok Tryz.prog 91 (bZ.mk (bZ.tw F)):=by
 intro args H v H' h
 unfold bZ.mk at h
 split at h
 ·exact okT (TB:=aW) Tryz.func91 (bg (dc.k F) (bg (hJ.k F) (bg (hK.k F) (bg (ik.k F) ca)))) (bZ.loops F (dc.tw F) (hJ.tw F) (hK.tw F) (ik.tw F)) ((bZ.eqX F (dc.tw F) (hJ.tw F) (hK.tw F) (ik.tw F) _ _ H).trans h) (by kernel_rfl)
 ·cases h
def gP.twX (F:Nat) (gl:Int->Int->Int->Int->Int->Hp->OA) (gm:Int->Int->Int->Int->Int->Int->Hp->OA) (aa:Sl) (ac:Int) (af:Sl) (aw:Sl) (bS:Int) (cP:Int) (H:Hp):OA:=(Hp.new H [(.sl aa),(.int .i64 ac)]).bind λH7=>(Hp.new H7 [(.sl af),(.sl aw)]).bind λH8=>(Hp.new H8 [(.int .i64 bS),(.int .i64 cP)]).bind λH9=>(Hp.new H9 [.int .i64 0,.int .i64 0]).bind λH10=>(Hp.ldSl H10 H.length 0).bind λs11=>(Hp.ldI H10 .i64 H8.length 0).bind λn12=>(Sl.idx s11 n12 5).bind λp13=>(Hp.ldI H10 .i64 p13.1 p13.2).bind λn14=>(Hp.ldI H10 .i64 p13.1 (p13.2+1)).bind λn15=>(Hp.ldI H10 .i64 p13.1 (p13.2+2)).bind λn16=>(Hp.ldI H10 .i64 p13.1 (p13.2+3)).bind λn17=>(Hp.ldI H10 .i64 p13.1 (p13.2+4)).bind λn18=>(Hp.new H10 [.int .i64 0,.int .i64 0,.int .i64 0,.int .i64 0,.int .i64 0]).bind λH19=>(Hp.st H19 H10.length 0 (.int .i64 n14)).bind λH20=>(Hp.st H20 H10.length (0+1) (.int .i64 n15)).bind λH21=>(Hp.st H21 H10.length (0+1+1) (.int .i64 n16)).bind λH22=>(Hp.st H22 H10.length (0+1+1+1) (.int .i64 n17)).bind λH23=>(Hp.st H23 H10.length (0+1+1+1+1) (.int .i64 n18)).bind λH24=>(Hp.ldI H24 .i64 H10.length 0).bind λn25=>(Hp.ldI H24 .i64 H10.length (0+1)).bind λn26=>(Hp.ldI H24 .i64 H10.length (0+2)).bind λn27=>(Hp.ldI H24 .i64 H10.length (0+3)).bind λn28=>(Hp.ldI H24 .i64 H10.length (0+4)).bind λn29=>(gl n25 n26 n27 n28 n29 H24).bind λr30=>((r30.1).asAgg 4).bind λl31=>(l31[0]?).bind λv32=>((v32).asI .i64).bind λn33=>(l31[1]?).bind λv34=>((v34).asI .i64).bind λn35=>(l31[2]?).bind λv36=>((v36).asI .i64).bind λn37=>(l31[3]?).bind λv38=>((v38).asI .i64).bind λn39=>(if bp H24 r30.2 then ((Hp.ldI r30.2 .i64 H8.length 1).bind λn40=>(if 0<=n40/\n40<(4:Int) then (([(.int .i64 n33),(.int .i64 n35),(.int .i64 n37),(.int .i64 n39)]:List AV)[(n40:Int).toNat * 1]?).bind λv41=>((v41).asI .i64).bind λn42=>(Hp.ldI r30.2 .i64 H10.length 0).bind λn43=>(Hp.ldI r30.2 .i64 H10.length (0+1)).bind λn44=>(Hp.ldI r30.2 .i64 H10.length (0+2)).bind λn45=>(Hp.ldI r30.2 .i64 H10.length (0+3)).bind λn46=>(Hp.ldI r30.2 .i64 H10.length (0+4)).bind λn47=>(Hp.ldI r30.2 .i64 H8.length 1).bind λn48=>(gm n43 n44 n45 n46 n47 n48 r30.2).bind λr49=>((r49.1).asB).bind λb50=>(bif b50 then ((Hp.ldSl r49.2 H7.length 0).bind λs51=>(Sl.idx s51 n42 2).bind λp52=>(Hp.ldI r49.2 .i64 p52.1 p52.2).bind λn53=>(Hp.ldI r49.2 .i64 p52.1 (p52.2+1)).bind λn54=>(Hp.st r49.2 H9.length 0 (.int .i64 n53)).bind λH55=>(Hp.st H55 H9.length (0+1) (.int .i64 n54)).bind λH56=>(Hp.ldI H56 .i64 H9.length 0).bind λn57=>(Hp.ldI H56 .i64 H9.length (0+1)).bind λn58=>some ((.agg [(.int .i64 n57),(.int .i64 n58)]),H56)) else ((Hp.ldSl r49.2 H7.length 1).bind λs59=>(Sl.idx s59 n42 2).bind λp60=>(Hp.ldI r49.2 .i64 p60.1 p60.2).bind λn61=>(Hp.ldI r49.2 .i64 p60.1 (p60.2+1)).bind λn62=>(Hp.st r49.2 H9.length 0 (.int .i64 n61)).bind λH63=>(Hp.st H63 H9.length (0+1) (.int .i64 n62)).bind λH64=>(Hp.ldI H64 .i64 H9.length 0).bind λn65=>(Hp.ldI H64 .i64 H9.length (0+1)).bind λn66=>some ((.agg [(.int .i64 n65),(.int .i64 n66)]),H64))) else none)) else none)
def gP.tw (F:Nat) (aa:Sl) (ac:Int) (af:Sl) (aw:Sl) (bS:Int) (cP:Int) (H:Hp):OA:=gP.twX F (hJ.tw F) (hK.tw F) aa ac af aw bS cP H
def gP.tb:Nat->List (List Nat):=eU [(2,[[],[0],[],[2],[0,1,2,3],[0,1,2,3,4]])]
def gP.mk (g:Sl->Int->Sl->Sl->Int->Int->Hp->OA) (args:List AV) (H:Hp):OA:=match args with
 | [(.agg [(.sl aa),(.int .i64 ac)]),(.agg [(.sl af),(.sl aw)]),(.agg [(.int .i64 bS),(.int .i64 cP)])]=>g aa ac af aw bS cP H
 | _=>none
def gP.cs (F:Nat) (gl:Int->Int->Int->Int->Int->Hp->OA) (gm:Int->Int->Int->Int->Int->Int->Hp->OA):Cs:=[(110,hJ.mk gl),(111,hK.mk gm)]
theorem gP.eqX (F:Nat) (gl:Int->Int->Int->Int->Int->Hp->OA) (gm:Int->Int->Int->Int->Int->Int->Hp->OA) (aa:Sl) (ac:Int) (af:Sl) (aw:Sl) (bS:Int) (cP:Int) (H:Hp):EX (bh (gP.cs F gl gm)) aW lh0 F Tryz.f113 [(.agg [(.sl aa),(.int .i64 ac)]),(.agg [(.sl af),(.sl aw)]),(.agg [(.int .i64 bS),(.int .i64 cP)])] H=gP.twX F gl gm aa ac af aw bS cP H:=by kernel_rfl
theorem gP.k (F:Nat):Ok Tryz.prog 113 (gP.mk (gP.tw F)):=by
 intro args H v H' h
 unfold gP.mk at h
 split at h
 ·exact okT (TB:=gP.tb) Tryz.func113 (bg (hJ.k F) (bg (hK.k F) ca)) ae.no ((gP.eqX F (hJ.tw F) (hK.tw F) _ _ _ _ _ _ H).trans h) (by kernel_rfl)
 ·cases h
def bt.j4 (F:Nat) (gD:Sl->Int->Sl->Sl->Int->Int->Hp->OA) (C61_:Nat->Nat->Nat->Nat->Sl->Sl->Int->Int->Hp->OA) (De:Nat) (Zj:Nat) (Df:Nat) (Zk:Nat) (Zl:Sl) (Zm:Sl) (yj:Int) (yk:Int) (H248:Hp):OA:=C61_ De Zj Df Zk Zl Zm yj (IntKind.i64.wrap (yk+1)) H248
def bt.j5 (F:Nat) (gD:Sl->Int->Sl->Sl->Int->Int->Hp->OA) (C61_:Nat->Nat->Nat->Nat->Sl->Sl->Int->Int->Hp->OA) (Dg:Nat) (Zn:Nat) (xm:Nat) (Zo:Nat) (tC:Sl) (Zp:Sl) (ym:Int) (yn:Int) (H228:Hp):OA:=bt.j4 F gD C61_ Dg Zn xm Zo tC Zp ym yn H228
def bt.j6 (F:Nat) (gD:Sl->Int->Sl->Sl->Int->Int->Hp->OA) (C61_:Nat->Nat->Nat->Nat->Sl->Sl->Int->Int->Hp->OA) (AL:Nat) (PH:Nat) (AM:Nat) (PI:Nat) (PJ:Sl) (PK:Sl) (PL:Sl) (tJ:Int) (tK:Int) (H205:Hp):OA:=(bif (decide ((PL.n:Int)>0)) then ((Hp.new H205 [(.sl PL)]).bind λH206=>(Sl.row H206 (⟨some (H205.length,0),1,.ex 1⟩:Sl) 1).bind λxs208=>(Hp.app H206 1 24 PJ (⟨some (H205.length,0),1,.ex 1⟩:Sl).n xs208).bind λa207=>bt.j5 F gD C61_ AL PH AM PI a207.1 PK tJ tK a207.2) else (bt.j5 F gD C61_ AL PH AM PI PJ PK tJ tK H205))
def bt.l15725 (F:Nat) (gD:Sl->Int->Sl->Sl->Int->Int->Hp->OA) (C61_:Nat->Nat->Nat->Nat->Sl->Sl->Int->Int->Hp->OA):Nat->Nat->Nat->Nat->Nat->Sl->Sl->Int->Int->Sl->Int->Hp->OA
 | 0,_,_,_,_,_,_,_,_,_,_,_=>none
 | Zq+1,pu,rG,pv,rH,tL,rI,oJ,oK,tM,kD,H164=>(Sl.idx rI kD 1).bind λp249=>(Hp.ldB H164 p249.1 p249.2).bind λb250=>(bif (!b250) then ((Sl.idx rI kD 1).bind λp251=>(Hp.st H164 p251.1 p251.2 (.bool true)).bind λH252=>(Hp.new H252 [(.int .i64 kD)]).bind λH253=>(Sl.row H253 (⟨some (H252.length,0),1,.ex 1⟩:Sl) 1).bind λxs255=>(Hp.app H253 1 8 tM (⟨some (H252.length,0),1,.ex 1⟩:Sl).n xs255).bind λa254=>(Hp.ldSl a254.2 pu rG).bind λs256=>(Hp.ldI a254.2 .i64 pu (rG+1)).bind λn257=>(Hp.ldSl a254.2 pv rH).bind λs258=>(Hp.ldSl a254.2 pv (rH+1)).bind λs259=>(gD s256 n257 s258 s259 (IntKind.i64.wrap (Int.tdiv kD 4)) (Int.tmod (IntKind.i64.wrap (kD+1)) 4) a254.2).bind λr260=>((r260.1).asAgg 2).bind λl261=>(l261[0]?).bind λv262=>((v262).asI .i64).bind λn263=>(l261[1]?).bind λv264=>((v264).asI .i64).bind λn265=>(Hp.new r260.2 [.int .i64 0,.int .i64 0]).bind λH266=>(Hp.st H266 r260.2.length 0 (.int .i64 n263)).bind λH267=>(Hp.st H267 r260.2.length (0+1) (.int .i64 n265)).bind λH268=>(Hp.ldI H268 .i64 r260.2.length 0).bind λn269=>(Hp.ldI H268 .i64 r260.2.length 1).bind λn270=>bt.l15725 F gD C61_ Zq pu rG pv rH tL rI oJ oK a254.1 (IntKind.i64.wrap ((IntKind.i64.wrap (4 * n269))+n270)) H268) else (bt.j6 F gD C61_ pu rG pv rH tL rI tM oJ oK H164))
termination_by structural n=>n
def bt.l61 (F:Nat) (gD:Sl->Int->Sl->Sl->Int->Int->Hp->OA) :Nat->Nat->Nat->Nat->Nat->Sl->Sl->Int->Int->Hp->OA
 | 0,_,_,_,_,_,_,_,_,_=>none
 | eC+1,qU,vk,qV,fa,tO,dq,oL,nL,H22=>(bif (decide (nL<oL)) then (bt.l15725 F gD (bt.l61 F gD eC) F qU vk qV fa tO dq oL nL (⟨none,0,.ex 0⟩:Sl) nL H22) else (some ((.sl tO),H22)))
termination_by structural n=>n
def bt.twX (F:Nat) (gD:Sl->Int->Sl->Sl->Int->Int->Hp->OA) (aa:Sl) (ac:Int) (af:Sl) (aw:Sl) (H:Hp):OA:=(Hp.new H [(.sl aa),(.int .i64 ac)]).bind λH5=>(Hp.new H5 [(.sl af),(.sl aw)]).bind λH6=>(Hp.ldSl H6 H.length 0).bind λs7=>(Hp.mk H6 [.bool false] 1 (IntKind.i64.wrap (4 * (s7.n:Int))) (IntKind.i64.wrap (4 * (s7.n:Int)))).bind λm8=>bt.l61 F gD F H.length 0 H5.length 0 (⟨none,0,.ex 0⟩:Sl) m8.1 (m8.1.n:Int) 0 m8.2
def bt.tw (F:Nat) (aa:Sl) (ac:Int) (af:Sl) (aw:Sl) (H:Hp):OA:=bt.twX F (gP.tw F) aa ac af aw H
def bt.lh61 (F:Nat) (gD:Sl->Int->Sl->Sl->Int->Int->Hp->OA) (ks:List Nat) (n:Nat) (tm:Tm) (H:Hp):OA:=match ks,tm 2,tm 3,tm 5,tm 6,tm 17,tm 18 with
 | [],(.ptr qU vk),(.ptr qV fa),(.sl tO),(.sl dq),(.int .i64 oL),(.int .i64 nL)=>bt.l61 F gD n qU vk qV fa tO dq oL nL H
 | _,_,_,_,_,_,_=>none
theorem bt.lh61_inv {F:Nat} {gD:Sl->Int->Sl->Sl->Int->Int->Hp->OA} {ks:List Nat} {n:Nat} {tm:Tm} {H:Hp} {r:AV×Hp} (h:bt.lh61 F gD ks n tm H=some r):∃ qU vk qV fa tO dq oL nL,ks=[]/\dZ tm [(2,(.ptr qU vk)),(3,(.ptr qV fa)),(5,(.sl tO)),(6,(.sl dq)),(17,(.int .i64 oL)),(18,(.int .i64 nL))]/\bt.l61 F gD n qU vk qV fa tO dq oL nL H=some r:=by
 unfold bt.lh61 at h
 split at h
 ·exact ⟨_,_,_,_,_,_,_,_,rfl,⟨‹_›,‹_›,‹_›,‹_›,‹_›,‹_›,trivial⟩,h⟩
 ·cases h
def bt.lh15725 (F:Nat) (gD:Sl->Int->Sl->Sl->Int->Int->Hp->OA) (ks:List Nat) (n:Nat) (tm:Tm) (H:Hp):OA:=match ks,tm 2,tm 3,tm 5,tm 6,tm 8,tm 9,tm 17,tm 18 with
 | [eC],(.ptr pu rG),(.ptr pv rH),(.sl tL),(.sl rI),(.sl tM),(.int .i64 kD),(.int .i64 oJ),(.int .i64 oK)=>bt.l15725 F gD (bt.l61 F gD eC) n pu rG pv rH tL rI oJ oK tM kD H
 | _,_,_,_,_,_,_,_,_=>none
theorem bt.lh15725_inv {F:Nat} {gD:Sl->Int->Sl->Sl->Int->Int->Hp->OA} {ks:List Nat} {n:Nat} {tm:Tm} {H:Hp} {r:AV×Hp} (h:bt.lh15725 F gD ks n tm H=some r):∃ eC pu rG pv rH tL rI tM kD oJ oK,ks=[eC]/\dZ tm [(2,(.ptr pu rG)),(3,(.ptr pv rH)),(5,(.sl tL)),(6,(.sl rI)),(8,(.sl tM)),(9,(.int .i64 kD)),(17,(.int .i64 oJ)),(18,(.int .i64 oK))]/\bt.l15725 F gD (bt.l61 F gD eC) n pu rG pv rH tL rI oJ oK tM kD H=some r:=by
 unfold bt.lh15725 at h
 split at h
 ·exact ⟨_,_,_,_,_,_,_,_,_,_,_,rfl,⟨‹_›,‹_›,‹_›,‹_›,‹_›,‹_›,‹_›,‹_›,trivial⟩,h⟩
 ·cases h
def bt.lh (F:Nat) (gD:Sl->Int->Sl->Sl->Int->Int->Hp->OA) (p:Nat) (ks:List Nat) (n:Nat) (tm:Tm) (H:Hp):OA:=bif p.beq 15725 then bt.lh15725 F gD ks n tm H else (bif p.beq 61 then bt.lh61 F gD ks n tm H else (none))
def bt.mk (g:Sl->Int->Sl->Sl->Hp->OA) (args:List AV) (H:Hp):OA:=match args with
 | [(.agg [(.sl aa),(.int .i64 ac)]),(.agg [(.sl af),(.sl aw)])]=>g aa ac af aw H
 | _=>none
def bt.cs (F:Nat) (gD:Sl->Int->Sl->Sl->Int->Int->Hp->OA):Cs:=[(113,gP.mk gD)]
theorem bt.loops (F:Nat) (gD:Sl->Int->Sl->Sl->Int->Int->Hp->OA):LO (bh (bt.cs F gD)) aW (bt.lh F gD) F Tryz.f93:=
 (ae.rt (ae.rt (ae.rt (ae.lt (ae.rt (ae.block (ae.la (λn tm H r h=>by obtain ⟨qU,vk,qV,fa,tO,dq,oL,nL,hks,e,h⟩:=bt.lh61_inv (show bt.lh61 F gD [] n tm H=some r from h);obtain _ | k61:=n;cases h;exact ⟨_,rfl,by rw [<- eb e];exact Eq.trans (by kernel_rfl) h⟩) λk61=>(ae.rt (ae.rt (ae.lt (ae.block (ae.rt (ae.rt (ae.lt (ae.rt (ae.block (ae.la (λn tm H r h=>by obtain ⟨eC,pu,rG,pv,rH,tL,rI,tM,kD,oJ,oK,hks,e,h⟩:=bt.lh15725_inv (show bt.lh15725 F gD [k61] n tm H=some r from h);cases hks;obtain _ | k15725:=n;cases h;exact ⟨_,rfl,by rw [<- eb e];exact Eq.trans (by kernel_rfl) h⟩) λk15725=>ae.no)))))))))))))))))
theorem bt.eqX (F:Nat) (gD:Sl->Int->Sl->Sl->Int->Int->Hp->OA) (aa:Sl) (ac:Int) (af:Sl) (aw:Sl) (H:Hp):EX (bh (bt.cs F gD)) aW (bt.lh F gD) F Tryz.f93 [(.agg [(.sl aa),(.int .i64 ac)]),(.agg [(.sl af),(.sl aw)])] H=bt.twX F gD aa ac af aw H:=by kernel_rfl
theorem bt.k (F:Nat):Ok Tryz.prog 93 (bt.mk (bt.tw F)):=by
 intro args H v H' h
 unfold bt.mk at h
 split at h
 ·exact okT (TB:=aW) Tryz.func93 (bg (gP.k F) ca) (bt.loops F (gP.tw F)) ((bt.eqX F (gP.tw F) _ _ _ _ H).trans h) (by kernel_rfl)
 ·cases h
def jQ.twX (F:Nat) (aa:Sl) (H:Hp):OA:=some ((.int .i64 (aa.n:Int)),H)
def jQ.tw (F:Nat) (aa:Sl) (H:Hp):OA:=jQ.twX F aa H
def jQ.mk (g:Sl->Hp->OA) (args:List AV) (H:Hp):OA:=match args with
 | [(.sl aa)]=>g aa H
 | _=>none
theorem jQ.eqX (F:Nat) (aa:Sl) (H:Hp):EX (bh []) aW lh0 F Tryz.f92 [(.sl aa)] H=jQ.twX F aa H:=by kernel_rfl
theorem jQ.k (F:Nat):Ok Tryz.prog 92 (jQ.mk (jQ.tw F)):=by
 intro args H v H' h
 unfold jQ.mk at h
 split at h
 ·exact okT (TB:=aW) Tryz.func92 ca ae.no ((jQ.eqX F _ H).trans h) (by kernel_rfl)
 ·cases h
def dV.l29 (F:Nat) :Nat->Sl->Int->Int->Hp->OA
 | 0,_,_,_,_=>none
 | fj+1,tP,oM,mH,H7=>(bif (decide (mH<oM)) then ((Hp.new H7 [(.int .i64 mH)]).bind λH11=>(Sl.row H11 (⟨some (H7.length,0),1,.ex 1⟩:Sl) 1).bind λxs13=>(Hp.app H11 1 8 tP (⟨some (H7.length,0),1,.ex 1⟩:Sl).n xs13).bind λa12=>dV.l29 F fj a12.1 oM (IntKind.i64.wrap (mH+1)) a12.2) else (some ((.sl tP),H7)))
def dV.twX (F:Nat) (aa:Int) (H:Hp):OA:=dV.l29 F F (⟨none,0,.ex 0⟩:Sl) aa 0 H
def dV.tw (F:Nat) (aa:Int) (H:Hp):OA:=dV.twX F aa H
def dV.lh29 (F:Nat) (ks:List Nat) (n:Nat) (tm:Tm) (H:Hp):OA:=match ks,tm 3,tm 5,tm 6 with
 | [],(.sl tP),(.int .i64 oM),(.int .i64 mH)=>dV.l29 F n tP oM mH H
 | _,_,_,_=>none
theorem dV.lh29_inv {F:Nat} {ks:List Nat} {n:Nat} {tm:Tm} {H:Hp} {r:AV×Hp} (h:dV.lh29 F ks n tm H=some r):∃ tP oM mH,ks=[]/\dZ tm [(3,(.sl tP)),(5,(.int .i64 oM)),(6,(.int .i64 mH))]/\dV.l29 F n tP oM mH H=some r:=by
 unfold dV.lh29 at h
 split at h
 ·exact ⟨_,_,_,rfl,⟨‹_›,‹_›,‹_›,trivial⟩,h⟩
 ·cases h
def dV.lh (F:Nat) (p:Nat) (ks:List Nat) (n:Nat) (tm:Tm) (H:Hp):OA:=bif p.beq 29 then dV.lh29 F ks n tm H else (none)
def dV.mk (g:Int->Hp->OA) (args:List AV) (H:Hp):OA:=match args with
 | [(.int .i64 aa)]=>g aa H
 | _=>none
theorem dV.loops (F:Nat):LO (bh []) aW (dV.lh F) F Tryz.f71:=
 (ae.rt (ae.rt (ae.lt (ae.rt (ae.block (ae.la (λn tm H r h=>by obtain ⟨tP,oM,mH,hks,e,h⟩:=dV.lh29_inv (show dV.lh29 F [] n tm H=some r from h);obtain _ | k29:=n;cases h;exact ⟨_,rfl,by rw [<- eb e];exact Eq.trans (by kernel_rfl) h⟩) λk29=>ae.no))))))
theorem dV.eqX (F:Nat) (aa:Int) (H:Hp):EX (bh []) aW (dV.lh F) F Tryz.f71 [(.int .i64 aa)] H=dV.twX F aa H:=by kernel_rfl
theorem dV.k (F:Nat):Ok Tryz.prog 71 (dV.mk (dV.tw F)):=by
 intro args H v H' h
 unfold dV.mk at h
 split at h
 ·exact okT (TB:=aW) Tryz.func71 ca (dV.loops F) ((dV.eqX F _ H).trans h) (by kernel_rfl)
 ·cases h
def cK.j2 (F:Nat) (C7_:Sl->Int->Int->Sl->Int->Int->Hp->OA) (Zr:Sl) (yo:Int) (yp:Int) (Zs:Sl) (yq:Int) (yr:Int) (H50:Hp):OA:=C7_ Zr yo yp Zs yq (IntKind.i64.wrap (yr+1)) H50
def cK.l7 (F:Nat) :Nat->Sl->Int->Int->Sl->Int->Int->Hp->OA
 | 0,_,_,_,_,_,_,_=>none
 | nm+1,mI,nM,nN,sy,nO,lF,H16=>(bif (decide (lF<nO)) then ((Sl.idx sy lF 1).bind λp34=>(Hp.ldI H16 .i64 p34.1 p34.2).bind λn35=>(bif (n35==nM) then ((Sl.idx mI lF 1).bind λp36=>(Hp.st H16 p36.1 p36.2 (.int .i64 nN)).bind λH37=>cK.j2 F (cK.l7 F nm) mI nM nN sy nO lF H37) else (cK.j2 F (cK.l7 F nm) mI nM nN sy nO lF H16))) else (some ((.tup []),H16)))
def cK.twX (F:Nat) (aa:Sl) (ai:Int) (cV:Int) (H:Hp):OA:=(Sl.idx aa cV 1).bind λp4=>(Hp.ldI H .i64 p4.1 p4.2).bind λn5=>(Sl.idx aa ai 1).bind λp6=>(Hp.ldI H .i64 p6.1 p6.2).bind λn7=>cK.l7 F F aa n5 n7 aa (aa.n:Int) 0 H
def cK.tw (F:Nat) (aa:Sl) (ai:Int) (cV:Int) (H:Hp):OA:=cK.twX F aa ai cV H
def cK.lh7 (F:Nat) (ks:List Nat) (n:Nat) (tm:Tm) (H:Hp):OA:=match ks,tm 0,tm 6,tm 7,tm 18,tm 19,tm 20 with
 | [],(.sl mI),(.int .i64 nM),(.int .i64 nN),(.sl sy),(.int .i64 nO),(.int .i64 lF)=>cK.l7 F n mI nM nN sy nO lF H
 | _,_,_,_,_,_,_=>none
theorem cK.lh7_inv {F:Nat} {ks:List Nat} {n:Nat} {tm:Tm} {H:Hp} {r:AV×Hp} (h:cK.lh7 F ks n tm H=some r):∃ mI nM nN sy nO lF,ks=[]/\dZ tm [(0,(.sl mI)),(6,(.int .i64 nM)),(7,(.int .i64 nN)),(18,(.sl sy)),(19,(.int .i64 nO)),(20,(.int .i64 lF))]/\cK.l7 F n mI nM nN sy nO lF H=some r:=by
 unfold cK.lh7 at h
 split at h
 ·exact ⟨_,_,_,_,_,_,rfl,⟨‹_›,‹_›,‹_›,‹_›,‹_›,‹_›,trivial⟩,h⟩
 ·cases h
def cK.lh (F:Nat) (p:Nat) (ks:List Nat) (n:Nat) (tm:Tm) (H:Hp):OA:=bif p.beq 7 then cK.lh7 F ks n tm H else (none)
def cK.tb:Nat->List (List Nat):=eU [(0,[[],[],[0,1],[0,1,2],[],[],[4,5],[4,5,6],[0,1,2,3],[0,1,2,3,4,5,6,7,8]])]
def cK.mk (g:Sl->Int->Int->Hp->OA) (args:List AV) (H:Hp):OA:=match args with
 | [(.sl aa),(.int .i64 ai),(.int .i64 cV)]=>g aa ai cV H
 | _=>none
theorem cK.loops (F:Nat):LO (bh []) aW (cK.lh F) F Tryz.f72:=
 (ae.rt (ae.rt (ae.block (ae.la (λn tm H r h=>by obtain ⟨mI,nM,nN,sy,nO,lF,hks,e,h⟩:=cK.lh7_inv (show cK.lh7 F [] n tm H=some r from h);obtain _ | k7:=n;cases h;exact ⟨_,rfl,by rw [<- eb e];exact Eq.trans (by kernel_rfl) h⟩) λk7=>ae.no))))
theorem cK.eqX (F:Nat) (aa:Sl) (ai:Int) (cV:Int) (H:Hp):EX (bh []) aW (cK.lh F) F Tryz.f72 [(.sl aa),(.int .i64 ai),(.int .i64 cV)] H=cK.twX F aa ai cV H:=by kernel_rfl
theorem cK.k (F:Nat):Ok Tryz.prog 72 (cK.mk (cK.tw F)):=by
 intro args H v H' h
 unfold cK.mk at h
 split at h
 ·exact okT (TB:=cK.tb) Tryz.func72 ca (cK.loops F) ((cK.eqX F _ _ _ H).trans h) (by kernel_rfl)
 ·cases h
theorem nm_law:Keyed Tryz.prog 2:=int_keyed Tryz.underlying2
theorem nm_zero (w:World):(zeroValue 2).run Tryz.prog w=.ok (.int .i64 0) w:=by kernel_rfl
theorem nm_info:(Tryz.prog.info? 2).map (λi=>(i.zero,i.size,i.bytes))=some (some (.int .i64 0),1,8):=by kernel_rfl
theorem nm_none (a:Option Addr) (cap:Nat) (w:World):Calls Tryz.prog 73 #[.slice a 0 cap] w λe w'=>e=.returned (.slice none 0 0)/\Below w.heap.size w w':=by
 have hmm:=@run_makeMap Tryz.prog
 go_enter Tryz.func73,Tryz.ntmps73
 go_wp2
 refine wp_loop_rounds 1 ?_
 rw [rounds_succ]
 go_wp2
 go_ret
 exact ⟨rfl,(Below.refl _ _).alloc (Nat.le_refl _) _⟩
theorem nm_any (b off len cap:Nat) (zs:List Int) (w:World) (hreach:len<=4294967296) (hz:len<=zs.length) (hb:b<w.heap.size)
  (hc:∀ j,j<zs.length->w.cell? ⟨b,off+j,none⟩=some (.int .i64 (zs.getD j 0))) (hwz:∀ n∈zs,(Lit.int .i64 n).wf=true) :
  Calls Tryz.prog 73 #[.slice (some ⟨b,off,none⟩) len cap] w λe w'=>∃ v,e=.returned v/\w'.ownsRow (w.heap.size+1) 2 1 v len ((nst zs len).2.map (Value.int .i64))/\Below w.heap.size w w':=by
 have hmm:=@run_makeMap Tryz.prog
 obtain ⟨i0,hi,hz0,hz1,hz2⟩:=info_parts nm_info
 go_enter Tryz.func73,Tryz.ntmps73
 go_wp2
 go_loopw [4,12] (λv i wr=>∃ (k:Nat) (D:DataW Unit),k<=len/\i=.int .i64 k/\wr.ownsMap Tryz.prog 2 (plainElem Tryz.prog 2) w.heap.size k D/\ND D (nst zs k).1 /\
   wr.ownsRow (w.heap.size+1) 2 1 v k ((nst zs k).2.map (Value.int .i64))/\Below w.heap.size w wr/\w.heap.size+1<=wr.heap.size)
  (λ_ i _=>len - (intOf i).toNat)
 case atStart=>exact ⟨0,.map [],Nat.zero_le _,rfl,World.ownsMap_made _ _ _ _,ND.nil,World.ownsRow_nil _ _ _ _,(Below.refl _ _).alloc (Nat.le_refl _) _,by simp⟩
 case round=>
  obtain ⟨k,D,hk,rfl,hown,hD,hrow,hnx,hws⟩:=hrel
  obtain ⟨x,hx⟩:∃ x,x=zs.getD k 0:=⟨_,rfl⟩
  have hwx:(Lit.int .i64 x).wf=true:=by rw [hx];exact afJ hwz k
  have hcx:k<len->wr.cell? ⟨b,off+k,none⟩=some (.int .i64 x):=λ_=>by rw [hx];exact (hnx.cell (by exact hb)).trans (hc k (by omega))
  have hkey:keyOf Tryz.prog 2 (.int .i64 x)=some (.int .i64 x):=keyOf_int_mk Tryz.underlying2 hwx
  have hl1:=WZ zs k
  have hs1:Maps.size D<=k:=by rw [hD.size];exact hl1
  have hht:=hown.tidy nm_law
  have n1:nst zs (k+1)=(bif (nst zs k).1.contains x then (nst zs k).1 else (nst zs k).1++[x],(nst zs k).2++[(((bif (nst zs k).1.contains x then (nst zs k).1 else (nst zs k).1++[x]).idxOf x:Nat):Int)]):=by rw [hx];rfl
  clear hx
  go_wp2_with (first
   | (at_lookup;first
     | (refine wpList_lookup_own_ok_int _ rfl _ _ 123 rfl 2 2 .i64 nm_law Tryz.underlying123 Tryz.underlying2 (nm_zero _) w.heap.size k _ rfl hown _ _ rfl hkey ?_;intro c hat hwc)
     | (refine wpList_lookup_own_int _ rfl _ _ 123 rfl 2 2 .i64 nm_law Tryz.underlying123 Tryz.underlying2 (nm_zero _) w.heap.size (k+1) _ rfl hown1 _ _ rfl hkey ?_;intro c2 hat2 hwc2)
     | (refine wpList_lookup_own_int _ rfl _ _ 123 rfl 2 2 .i64 nm_law Tryz.underlying123 Tryz.underlying2 (nm_zero _) w.heap.size k _ rfl hown _ _ rfl hkey ?_;intro c2 hat2 hwc2))
   | (at_len;refine wpList_len_own _ rfl _ 123 rfl 2 2 Tryz.underlying123 _ w.heap.size k _ rfl hown ?_)
   | (at_mapUpdate;refine wpList_mapUpdate_own _ rfl _ _ _ 123 rfl 2 2 nm_law Tryz.underlying123 (plainElem Tryz.prog 2) w.heap.size k _ rfl hown (by unfold maxLen;omega) _ _ _ rfl rfl hkey _ [] (plainElem_int Tryz.underlying2 (WalkArith.wf_i64 (by omega))) ?_;intro w1 hown1 hgrow1)
   | (at_builtin;first
     | (refine wpList_append_own _ rfl _ _ 34 rfl (w.heap.size+1) 2 i0 (.int .i64 0) 1 8 Tryz.underlying34 hi hz0 hz1 hz2 rfl (by decide) _ _ _ rfl ((hrow.kept hgrow1 (Or.inr (Gu hrow (Nat.lt_succ_self _)).symm)).alloc _) ⟨w1.heap.size,0,none⟩ 1 1 [.int .i64 c2] rfl rfl (cell_one_new _ _ _) (ints_oneCell .i64 [c2]) (by unfold maxLen;omega) (by omega) (by have:=hgrow1.size;simp at this ⊢;omega) ?_;intro v' w2 hown' hgrow2 hnil2)
     | (refine wpList_append_own _ rfl _ _ 34 rfl (w.heap.size+1) 2 i0 (.int .i64 0) 1 8 Tryz.underlying34 hi hz0 hz1 hz2 rfl (by decide) _ _ _ rfl (hrow.alloc _) ⟨wr.heap.size,0,none⟩ 1 1 [.int .i64 c2] rfl rfl (cell_one_new _ _ _) (ints_oneCell .i64 [c2]) (by unfold maxLen;omega) (by omega) (by simp;omega) ?_;intro v' w2 hown' hgrow2 hnil2))
   | go_in)
  ·have hlt:k<len:=by assumption
   have ht:(!Maps.has D (Lit.int .i64 x))=true:=by assumption
   have hc0:(nst zs k).1.contains x=false:=by rw [<- hD.has x];simpa using ht
   have hr1:=hrow.kept hgrow1 (Or.inr (Gu hrow (Nat.lt_succ_self _)).symm)
   have s1:=hgrow1.size
   have s2:=hgrow2.size
   simp at s1 s2
   have hD1:=hD.new hht hc0
   rw [hD1.at_ x (by simp) _] at hat2
   have e2:c2=(((nst zs k).1++[x]).idxOf x:Nat):=by injection hat2 with q;injection q with _ q;exact q.symm
   rw [hc0,cond_false] at n1
   go_roundw
   case rel=>
    refine ⟨k+1,_,by omega,by go_num,(hown1.alloc _).kept hgrow2 (Gu hr1 (Nat.lt_succ_self _)),by rw [n1];exact hD1,?_,?_,by omega⟩
    ·rw [n1,List.map_append,<-e2];exact hown'
    ·exact (((hnx.grown hgrow1 hnx.size (λj hj=>by cases hj;exact Nat.le_refl _)).alloc (by omega) _).grown hgrow2 (by simp;omega) (λj hj=>Nat.le_trans (Nat.le_succ _) (hr1.lt j hj).1))
   case measure=>simp [intOf];omega
  ·have hlt:k<len:=by assumption
   have ht:(!Maps.has D (Lit.int .i64 x))=false:=by assumption
   have hc1:(nst zs k).1.contains x=true:=by rw [<- hD.has x];simpa using ht
   have s2:=hgrow2.size
   simp at s2
   rw [hD.at_ x hc1 _] at hat2
   have e2:c2=((nst zs k).1.idxOf x:Nat):=by injection hat2 with q;injection q with _ q;exact q.symm
   rw [hc1,cond_true] at n1
   go_roundw
   case rel=>
    refine ⟨k+1,_,by omega,by go_num,((hown.alloc _).kept hgrow2 (Gu hrow (Nat.lt_succ_self _))).mono (Nat.le_succ _),by rw [n1];exact hD,?_,?_,by omega⟩
    ·rw [n1,List.map_append,<-e2];exact hown'
    ·exact ((hnx.alloc hnx.size _).grown hgrow2 (by simp;omega) (λj hj=>Nat.le_trans (Nat.le_succ _) (hrow.lt j hj).1))
   case measure=>simp [intOf];omega
  ·have:k=len:=by omega
   subst this
   go_ret
   exact ⟨_,rfl,hrow,hnx⟩
theorem nm_ok:NumOk Tryz.prog 73 2:=⟨nm_none,nm_any⟩
def gJ.tw (F:Nat) (aa:Sl) (H:Hp):OA:=Cx aa H
def gJ.mk (g:Sl->Hp->OA) (args:List AV) (H:Hp):OA:=match args with
 | [.sl aa]=>g aa H
 | _=>none
theorem gJ.T {F:Nat} {aa:Sl} {H:Hp} {v:AV} {H':Hp} (h:gJ.tw F aa H=some (v,H')):Go.AE.T Tryz.prog 73 [.sl aa] H v H':=
 nm_ok.T (afK Tryz.func73 (by kernel_rfl) (by kernel_rfl)) h
theorem gJ.mk_T {F:Nat} {args:List AV} {H:Hp} {v:AV} {H':Hp} (h:gJ.mk (gJ.tw F) args H=some (v,H')):Go.AE.T Tryz.prog 73 args H v H':=by
 unfold gJ.mk at h
 split at h
 ·exact gJ.T h
 ·cases h
theorem gJ.k (F:Nat):Ok Tryz.prog 73 (gJ.mk (gJ.tw F)):=λ_ _ _ _ h=>gJ.mk_T h
def eg.l29 (F:Nat) (dL:Sl->Hp->OA) (fK:Int->Hp->OA) (fL:Sl->Int->Int->Hp->OA) (fM:Sl->Hp->OA) :Nat->Nat->Nat->Sl->Sl->Int->Int->Hp->OA
 | 0,_,_,_,_,_,_,_=>none
 | fj+1,gL,tQ,sB,tR,oN,mJ,H26=>(bif (decide (mJ<oN)) then ((Sl.idx tR mJ 2).bind λp40=>(Hp.ldI H26 .i64 p40.1 p40.2).bind λn41=>(Hp.ldI H26 .i64 p40.1 (p40.2+1)).bind λn42=>(Hp.new H26 [.int .i64 0,.int .i64 0]).bind λH43=>(Hp.st H43 H26.length 0 (.int .i64 n41)).bind λH44=>(Hp.st H44 H26.length (0+1) (.int .i64 n42)).bind λH45=>(Hp.ldI H45 .i64 H26.length 0).bind λn46=>(Hp.ldSl H45 gL (tQ+1)).bind λs47=>(Sl.idx s47 mJ 2).bind λp48=>(Hp.ldI H45 .i64 p48.1 p48.2).bind λn49=>(fL sB n46 n49 H45).bind λr50=>eg.l29 F dL fK fL fM fj gL tQ sB tR oN (IntKind.i64.wrap (mJ+1)) r50.2) else ((fM sB H26).bind λr51=>((r51.1).asSl).bind λs52=>some ((.sl s52),r51.2)))
termination_by structural n=>n
def eg.twX (F:Nat) (dL:Sl->Hp->OA) (fK:Int->Hp->OA) (fL:Sl->Int->Int->Hp->OA) (fM:Sl->Hp->OA) (aa:Sl) (ac:Int) (af:Sl) (aw:Sl) (H:Hp):OA:=(Hp.new H [(.sl aa),(.int .i64 ac)]).bind λH5=>(Hp.new H5 [(.sl af),(.sl aw)]).bind λH6=>(Hp.ldSl H6 H.length 0).bind λs7=>(dL s7 H6).bind λr8=>((r8.1).asI .i64).bind λn9=>(fK n9 r8.2).bind λr10=>((r10.1).asSl).bind λs11=>(Hp.ldSl r10.2 H5.length 0).bind λs12=>eg.l29 F dL fK fL fM F H5.length 0 s11 s12 (s12.n:Int) 0 r10.2
def eg.tw (F:Nat) (aa:Sl) (ac:Int) (af:Sl) (aw:Sl) (H:Hp):OA:=eg.twX F (eS.tw F) (dV.tw F) (cK.tw F) (gJ.tw F) aa ac af aw H
def eg.lh29 (F:Nat) (dL:Sl->Hp->OA) (fK:Int->Hp->OA) (fL:Sl->Int->Int->Hp->OA) (fM:Sl->Hp->OA) (ks:List Nat) (n:Nat) (tm:Tm) (H:Hp):OA:=match ks,tm 3,tm 5,tm 13,tm 14,tm 15 with
 | [],(.ptr gL tQ),(.sl sB),(.sl tR),(.int .i64 oN),(.int .i64 mJ)=>eg.l29 F dL fK fL fM n gL tQ sB tR oN mJ H
 | _,_,_,_,_,_=>none
theorem eg.lh29_inv {F:Nat} {dL:Sl->Hp->OA} {fK:Int->Hp->OA} {fL:Sl->Int->Int->Hp->OA} {fM:Sl->Hp->OA} {ks:List Nat} {n:Nat} {tm:Tm} {H:Hp} {r:AV×Hp} (h:eg.lh29 F dL fK fL fM ks n tm H=some r):∃ gL tQ sB tR oN mJ,ks=[]/\dZ tm [(3,(.ptr gL tQ)),(5,(.sl sB)),(13,(.sl tR)),(14,(.int .i64 oN)),(15,(.int .i64 mJ))]/\eg.l29 F dL fK fL fM n gL tQ sB tR oN mJ H=some r:=by
 unfold eg.lh29 at h
 split at h
 ·exact ⟨_,_,_,_,_,_,rfl,⟨‹_›,‹_›,‹_›,‹_›,‹_›,trivial⟩,h⟩
 ·cases h
def eg.lh (F:Nat) (dL:Sl->Hp->OA) (fK:Int->Hp->OA) (fL:Sl->Int->Int->Hp->OA) (fM:Sl->Hp->OA) (p:Nat) (ks:List Nat) (n:Nat) (tm:Tm) (H:Hp):OA:=bif p.beq 29 then eg.lh29 F dL fK fL fM ks n tm H else (none)
def eg.pn:Nat->List Nat:=eU [(5,[9])]
def eg.tb:Nat->List (List Nat):=eU [(5,[[],[],[1],[],[3],[],[3,4,5],[3,4,5,6],[3,4,5,6,7],[0,1,2,3,4,5,6,7,8]])]
def eg.mk (g:Sl->Int->Sl->Sl->Hp->OA) (args:List AV) (H:Hp):OA:=match args with
 | [(.agg [(.sl aa),(.int .i64 ac)]),(.agg [(.sl af),(.sl aw)])]=>g aa ac af aw H
 | _=>none
def eg.cs (F:Nat) (dL:Sl->Hp->OA) (fK:Int->Hp->OA) (fL:Sl->Int->Int->Hp->OA) (fM:Sl->Hp->OA):Cs:=[(52,eS.mk dL),(71,dV.mk fK),(72,cK.mk fL),(73,gJ.mk fM)]
theorem eg.loops (F:Nat) (dL:Sl->Hp->OA) (fK:Int->Hp->OA) (fL:Sl->Int->Int->Hp->OA) (fM:Sl->Hp->OA):LO (bh (eg.cs F dL fK fL fM)) eg.pn (eg.lh F dL fK fL fM) F Tryz.f94:=
 (ae.rt (ae.rt (ae.lt (ae.rt (ae.block (ae.la (λn tm H r h=>by obtain ⟨gL,tQ,sB,tR,oN,mJ,hks,e,h⟩:=eg.lh29_inv (show eg.lh29 F dL fK fL fM [] n tm H=some r from h);obtain _ | k29:=n;cases h;exact ⟨_,rfl,by rw [<- eb e];exact Eq.trans (by kernel_rfl) h⟩) λk29=>ae.no))))))
theorem eg.eqX (F:Nat) (dL:Sl->Hp->OA) (fK:Int->Hp->OA) (fL:Sl->Int->Int->Hp->OA) (fM:Sl->Hp->OA) (aa:Sl) (ac:Int) (af:Sl) (aw:Sl) (H:Hp):EX (bh (eg.cs F dL fK fL fM)) eg.pn (eg.lh F dL fK fL fM) F Tryz.f94 [(.agg [(.sl aa),(.int .i64 ac)]),(.agg [(.sl af),(.sl aw)])] H=eg.twX F dL fK fL fM aa ac af aw H:=by kernel_rfl
theorem eg.k (F:Nat):Ok Tryz.prog 94 (eg.mk (eg.tw F)):=by
 intro args H v H' h
 unfold eg.mk at h
 split at h
 ·exact okT (TB:=eg.tb) Tryz.func94 (bg (eS.k F) (bg (dV.k F) (bg (cK.k F) (bg (gJ.k F) ca)))) (eg.loops F (eS.tw F) (dV.tw F) (cK.tw F) (gJ.tw F)) ((eg.eqX F (eS.tw F) (dV.tw F) (cK.tw F) (gJ.tw F) _ _ _ _ H).trans h) (by kernel_rfl)
 ·cases h
def dN.l61 (F:Nat) :Nat->Sl->Int->Int->Hp->OA
 | 0,_,_,_,_=>none
 | eC+1,mI,jO,nP,H13=>(bif (decide (nP<(mI.n:Int))) then ((Sl.idx mI nP 1).bind λp16=>(Hp.ldI H13 .i64 p16.1 p16.2).bind λn17=>dN.l61 F eC mI (if n17>jO then n17 else jO) (IntKind.i64.wrap (nP+1)) H13) else (some ((.int .i64 jO),H13)))
def dN.j1 (F:Nat) (PM:Sl) (H5:Hp):OA:=(Sl.idx PM 0 1).bind λp6=>(Hp.ldI H5 .i64 p6.1 p6.2).bind λn7=>dN.l61 F F PM n7 1 H5
def dN.twX (F:Nat) (aa:Sl) (H:Hp):OA:=(bif (decide ((aa.n:Int)<1)) then (none) else (dN.j1 F aa H))
def dN.tw (F:Nat) (aa:Sl) (H:Hp):OA:=dN.twX F aa H
def dN.lh61 (F:Nat) (ks:List Nat) (n:Nat) (tm:Tm) (H:Hp):OA:=match ks,tm 0,tm 3,tm 4 with
 | [],(.sl mI),(.int .i64 jO),(.int .i64 nP)=>dN.l61 F n mI jO nP H
 | _,_,_,_=>none
theorem dN.lh61_inv {F:Nat} {ks:List Nat} {n:Nat} {tm:Tm} {H:Hp} {r:AV×Hp} (h:dN.lh61 F ks n tm H=some r):∃ mI jO nP,ks=[]/\dZ tm [(0,(.sl mI)),(3,(.int .i64 jO)),(4,(.int .i64 nP))]/\dN.l61 F n mI jO nP H=some r:=by
 unfold dN.lh61 at h
 split at h
 ·exact ⟨_,_,_,rfl,⟨‹_›,‹_›,‹_›,trivial⟩,h⟩
 ·cases h
def dN.lh (F:Nat) (p:Nat) (ks:List Nat) (n:Nat) (tm:Tm) (H:Hp):OA:=bif p.beq 61 then dN.lh61 F ks n tm H else (none)
def dN.mk (g:Sl->Hp->OA) (args:List AV) (H:Hp):OA:=match args with
 | [(.sl aa)]=>g aa H
 | _=>none
theorem dN.loops (F:Nat):LO (bh []) aW (dN.lh F) F Tryz.f95:=
 (ae.rt (ae.rt (ae.rt (ae.lt (ae.rt (ae.block (ae.la (λn tm H r h=>by obtain ⟨mI,jO,nP,hks,e,h⟩:=dN.lh61_inv (show dN.lh61 F [] n tm H=some r from h);obtain _ | k61:=n;cases h;exact ⟨_,rfl,by rw [<- eb e];exact Eq.trans (by kernel_rfl) h⟩) λk61=>ae.no)))))))
theorem dN.eqX (F:Nat) (aa:Sl) (H:Hp):EX (bh []) aW (dN.lh F) F Tryz.f95 [(.sl aa)] H=dN.twX F aa H:=by kernel_rfl
theorem dN.k (F:Nat):Ok Tryz.prog 95 (dN.mk (dN.tw F)):=by
 intro args H v H' h
 unfold dN.mk at h
 split at h
 ·exact okT (TB:=aW) Tryz.func95 ca (dN.loops F) ((dN.eqX F _ H).trans h) (by kernel_rfl)
 ·cases h
def gQ.twX (F:Nat) (yt:Sl->Hp->OA) (aa:Sl) (H:Hp):OA:=(bif ((aa.n:Int)==0) then (some ((.int .i64 0),H)) else ((yt aa H).bind λr2=>((r2.1).asI .i64).bind λn3=>some ((.int .i64 (IntKind.i64.wrap (n3+1))),r2.2)))
def gQ.tw (F:Nat) (aa:Sl) (H:Hp):OA:=gQ.twX F (dN.tw F) aa H
def gQ.mk (g:Sl->Hp->OA) (args:List AV) (H:Hp):OA:=match args with
 | [(.sl aa)]=>g aa H
 | _=>none
def gQ.cs (F:Nat) (yt:Sl->Hp->OA):Cs:=[(95,dN.mk yt)]
theorem gQ.eqX (F:Nat) (yt:Sl->Hp->OA) (aa:Sl) (H:Hp):EX (bh (gQ.cs F yt)) aW lh0 F Tryz.f74 [(.sl aa)] H=gQ.twX F yt aa H:=by kernel_rfl
theorem gQ.k (F:Nat):Ok Tryz.prog 74 (gQ.mk (gQ.tw F)):=by
 intro args H v H' h
 unfold gQ.mk at h
 split at h
 ·exact okT (TB:=aW) Tryz.func74 (bg (dN.k F) ca) ae.no ((gQ.eqX F (dN.tw F) _ H).trans h) (by kernel_rfl)
 ·cases h
def gE.twX (F:Nat) (dL:Sl->Hp->OA) (lX:Int->Int->Int->Hp->OA) (yu:Sl->Hp->OA) (yw:Sl->Int->Hp->OA) (yx:Sl->Int->Sl->Sl->Hp->OA) (yy:Sl->Hp->OA) (yz:Sl->Int->Sl->Sl->Hp->OA) (iX:Sl->Hp->OA) (aa:Sl) (ac:Int) (H:Hp):OA:=(Hp.new H [(.sl aa),(.int .i64 ac)]).bind λH3=>(Hp.new H3 [.sl ⟨none,0,.ex 0⟩,.sl ⟨none,0,.ex 0⟩]).bind λH4=>(Hp.ldSl H4 H.length 0).bind λs5=>(dL s5 H4).bind λr6=>((r6.1).asI .i64).bind λn7=>(bif (decide (n7>10)) then ((Hp.st r6.2 H3.length 0 (.sl (⟨none,0,.ex 0⟩:Sl))).bind λH8=>(Hp.st H8 H3.length (0+1) (.sl (⟨none,0,.ex 0⟩:Sl))).bind λH9=>(Hp.ldSl H9 H3.length 0).bind λs10=>(Hp.ldSl H9 H3.length (0+1)).bind λs11=>some ((.tup [(.agg [(.sl s10),(.sl s11)]),(.bool false)]),H9)) else ((Hp.ldI r6.2 .i64 H.length 1).bind λn12=>(lX n12 0 8 r6.2).bind λr13=>((r13.1).asB).bind λb14=>(bif (!b14) then ((Hp.st r13.2 H3.length 0 (.sl (⟨none,0,.ex 0⟩:Sl))).bind λH15=>(Hp.st H15 H3.length (0+1) (.sl (⟨none,0,.ex 0⟩:Sl))).bind λH16=>(Hp.ldSl H16 H3.length 0).bind λs17=>(Hp.ldSl H16 H3.length (0+1)).bind λs18=>some ((.tup [(.agg [(.sl s17),(.sl s18)]),(.bool false)]),H16)) else ((Hp.ldSl r13.2 H.length 0).bind λs19=>(yu s19 r13.2).bind λr20=>((r20.1).asB).bind λb21=>(bif b21 then ((Hp.st r20.2 H3.length 0 (.sl (⟨none,0,.ex 0⟩:Sl))).bind λH22=>(Hp.st H22 H3.length (0+1) (.sl (⟨none,0,.ex 0⟩:Sl))).bind λH23=>(Hp.ldSl H23 H3.length 0).bind λs24=>(Hp.ldSl H23 H3.length (0+1)).bind λs25=>some ((.tup [(.agg [(.sl s24),(.sl s25)]),(.bool false)]),H23)) else ((Hp.ldSl r20.2 H.length 0).bind λs26=>(Hp.ldI r20.2 .i64 H.length (0+1)).bind λn27=>(yw s26 n27 r20.2).bind λr28=>((r28.1).asTup 2).bind λl29=>(l29[0]?).bind λv30=>((v30).asAgg 2).bind λl31=>(l31[0]?).bind λv32=>((v32).asSl).bind λs33=>(l31[1]?).bind λv34=>((v34).asSl).bind λs35=>(l29[1]?).bind λv36=>((v36).asB).bind λb37=>(Hp.new r28.2 [.sl ⟨none,0,.ex 0⟩,.sl ⟨none,0,.ex 0⟩]).bind λH38=>(Hp.st H38 r28.2.length 0 (.sl s33)).bind λH39=>(Hp.st H39 r28.2.length (0+1) (.sl s35)).bind λH40=>(bif (!b37) then ((Hp.st H40 H3.length 0 (.sl (⟨none,0,.ex 0⟩:Sl))).bind λH41=>(Hp.st H41 H3.length (0+1) (.sl (⟨none,0,.ex 0⟩:Sl))).bind λH42=>(Hp.ldSl H42 H3.length 0).bind λs43=>(Hp.ldSl H42 H3.length (0+1)).bind λs44=>some ((.tup [(.agg [(.sl s43),(.sl s44)]),(.bool false)]),H42)) else ((Hp.ldSl H40 H.length 0).bind λs45=>(Hp.ldI H40 .i64 H.length (0+1)).bind λn46=>(Hp.ldSl H40 r28.2.length 0).bind λs47=>(Hp.ldSl H40 r28.2.length (0+1)).bind λs48=>(yx s45 n46 s47 s48 H40).bind λr49=>((r49.1).asSl).bind λs50=>(if bp H40 r49.2 then ((yy s50 r49.2).bind λr51=>((r51.1).asI .i64).bind λn52=>(if bp r49.2 r51.2 then ((Hp.ldSl r51.2 H.length 0).bind λs53=>(Hp.ldI r51.2 .i64 H.length (0+1)).bind λn54=>(Hp.ldSl r51.2 r28.2.length 0).bind λs55=>(Hp.ldSl r51.2 r28.2.length (0+1)).bind λs56=>(yz s53 n54 s55 s56 r51.2).bind λr57=>((r57.1).asSl).bind λs58=>(iX s58 r57.2).bind λr59=>((r59.1).asI .i64).bind λn60=>(bif (n52 != (IntKind.i64.wrap (n7+(IntKind.i64.wrap (2 * n60))))) then ((Hp.st r59.2 H3.length 0 (.sl (⟨none,0,.ex 0⟩:Sl))).bind λH61=>(Hp.st H61 H3.length (0+1) (.sl (⟨none,0,.ex 0⟩:Sl))).bind λH62=>(Hp.ldSl H62 H3.length 0).bind λs63=>(Hp.ldSl H62 H3.length (0+1)).bind λs64=>some ((.tup [(.agg [(.sl s63),(.sl s64)]),(.bool false)]),H62)) else ((Hp.ldSl r59.2 r28.2.length 0).bind λs65=>(Hp.ldSl r59.2 r28.2.length (0+1)).bind λs66=>(Hp.st r59.2 H3.length 0 (.sl s65)).bind λH67=>(Hp.st H67 H3.length (0+1) (.sl s66)).bind λH68=>(Hp.ldSl H68 H3.length 0).bind λs69=>(Hp.ldSl H68 H3.length (0+1)).bind λs70=>some ((.tup [(.agg [(.sl s69),(.sl s70)]),(.bool true)]),H68)))) else none)) else none)))))))))
def gE.tw (F:Nat) (aa:Sl) (ac:Int) (H:Hp):OA:=gE.twX F (eS.tw F) (gk.tw F) (jc.tw F) (bZ.tw F) (bt.tw F) (jQ.tw F) (eg.tw F) (gQ.tw F) aa ac H
def gE.pn:Nat->List Nat:=eU [(5,[10,11])]
def gE.tb:Nat->List (List Nat):=eU [(5,[[],[0],[0,1],[0,1,2],[0,1,2],[0,1,2,3,4],[0,1,2,3,4,5],[0,1,2],[0,1,2],[0,1,2],[0,1,2,3,4,5,6,8,9],[0,1,2,3,4,5,6,8,9,10],[0,1,2,3,4,5,6,8,9,10,11],[0,1,2,3,4,5,6,7,8,9,10,11,12],[0,1,2,3,4,5,6,7,8,9,10,11,12,13],[0,1,2,3,4,5,6,7,8,9,10,11,12,13,14]])]
def gE.mk (g:Sl->Int->Hp->OA) (args:List AV) (H:Hp):OA:=match args with
 | [(.agg [(.sl aa),(.int .i64 ac)])]=>g aa ac H
 | _=>none
def gE.cs (F:Nat) (dL:Sl->Hp->OA) (lX:Int->Int->Int->Hp->OA) (yu:Sl->Hp->OA) (yw:Sl->Int->Hp->OA) (yx:Sl->Int->Sl->Sl->Hp->OA) (yy:Sl->Hp->OA) (yz:Sl->Int->Sl->Sl->Hp->OA) (iX:Sl->Hp->OA):Cs:=[(52,eS.mk dL),(70,gk.mk lX),(89,jc.mk yu),(91,bZ.mk yw),(93,bt.mk yx),(92,jQ.mk yy),(94,eg.mk yz),(74,gQ.mk iX)]
theorem gE.eqX (F:Nat) (dL:Sl->Hp->OA) (lX:Int->Int->Int->Hp->OA) (yu:Sl->Hp->OA) (yw:Sl->Int->Hp->OA) (yx:Sl->Int->Sl->Sl->Hp->OA) (yy:Sl->Hp->OA) (yz:Sl->Int->Sl->Sl->Hp->OA) (iX:Sl->Hp->OA) (aa:Sl) (ac:Int) (H:Hp):EX (bh (gE.cs F dL lX yu yw yx yy yz iX)) gE.pn lh0 F Tryz.f69 [(.agg [(.sl aa),(.int .i64 ac)])] H=gE.twX F dL lX yu yw yx yy yz iX aa ac H:=by kernel_rfl
theorem gE.k (F:Nat):Ok Tryz.prog 69 (gE.mk (gE.tw F)):=by
 intro args H v H' h
 unfold gE.mk at h
 split at h
 ·exact okT (TB:=gE.tb) Tryz.func69 (bg (eS.k F) (bg (gk.k F) (bg (jc.k F) (bg (bZ.k F) (bg (bt.k F) (bg (jQ.k F) (bg (eg.k F) (bg (gQ.k F) ca)))))))) ae.no ((gE.eqX F (eS.tw F) (gk.tw F) (jc.tw F) (bZ.tw F) (bt.tw F) (jQ.tw F) (eg.tw F) (gQ.tw F) _ _ H).trans h) (by kernel_rfl)
 ·cases h
def iI.twX (F:Nat) (yA:Sl->Int->Hp->OA) (aa:Sl) (ac:Int) (H:Hp):OA:=(Hp.new H [(.sl aa),(.int .i64 ac)]).bind λH3=>(Hp.ldSl H3 H.length 0).bind λs4=>(Hp.ldI H3 .i64 H.length (0+1)).bind λn5=>(yA s4 n5 H3).bind λr6=>((r6.1).asTup 2).bind λl7=>(l7[0]?).bind λv8=>((v8).asAgg 2).bind λl9=>(l9[0]?).bind λv10=>((v10).asSl).bind λs11=>(l9[1]?).bind λv12=>((v12).asSl).bind λs13=>(l7[1]?).bind λv14=>((v14).asB).bind λb15=>(Hp.new r6.2 [.sl ⟨none,0,.ex 0⟩,.sl ⟨none,0,.ex 0⟩]).bind λH16=>(Hp.st H16 r6.2.length 0 (.sl s11)).bind λH17=>(Hp.st H17 r6.2.length (0+1) (.sl s13)).bind λH18=>some ((.bool b15),H18)
def iI.tw (F:Nat) (aa:Sl) (ac:Int) (H:Hp):OA:=iI.twX F (gE.tw F) aa ac H
def iI.mk (g:Sl->Int->Hp->OA) (args:List AV) (H:Hp):OA:=match args with
 | [(.agg [(.sl aa),(.int .i64 ac)])]=>g aa ac H
 | _=>none
def iI.cs (F:Nat) (yA:Sl->Int->Hp->OA):Cs:=[(69,gE.mk yA)]
theorem iI.eqX (F:Nat) (yA:Sl->Int->Hp->OA) (aa:Sl) (ac:Int) (H:Hp):EX (bh (iI.cs F yA)) aW lh0 F Tryz.f48 [(.agg [(.sl aa),(.int .i64 ac)])] H=iI.twX F yA aa ac H:=by kernel_rfl
theorem iI.k (F:Nat):Ok Tryz.prog 48 (iI.mk (iI.tw F)):=by
 intro args H v H' h
 unfold iI.mk at h
 split at h
 ·exact okT (TB:=aW) Tryz.func48 (bg (gE.k F) ca) ae.no ((iI.eqX F (gE.tw F) _ _ H).trans h) (by kernel_rfl)
 ·cases h
def jr.twX (F:Nat) (lX:Int->Int->Int->Hp->OA) (aa:Int) (H:Hp):OA:=(lX aa 1 30 H).bind λr2=>((r2.1).asB).bind λb3=>some ((.bool b3),r2.2)
def jr.tw (F:Nat) (aa:Int) (H:Hp):OA:=jr.twX F (gk.tw F) aa H
def jr.mk (g:Int->Hp->OA) (args:List AV) (H:Hp):OA:=match args with
 | [(.int .i64 aa)]=>g aa H
 | _=>none
def jr.cs (F:Nat) (lX:Int->Int->Int->Hp->OA):Cs:=[(70,gk.mk lX)]
theorem jr.eqX (F:Nat) (lX:Int->Int->Int->Hp->OA) (aa:Int) (H:Hp):EX (bh (jr.cs F lX)) aW lh0 F Tryz.f49 [(.int .i64 aa)] H=jr.twX F lX aa H:=by kernel_rfl
theorem jr.k (F:Nat):Ok Tryz.prog 49 (jr.mk (jr.tw F)):=by
 intro args H v H' h
 unfold jr.mk at h
 split at h
 ·exact okT (TB:=aW) Tryz.func49 (bg (gk.k F) ca) ae.no ((jr.eqX F (gk.tw F) _ H).trans h) (by kernel_rfl)
 ·cases h
def iJ.twX (F:Nat) (yB:Sl->Int->Hp->OA) (yC:Int->Hp->OA) (aa:Sl) (ac:Int) (af:Int) (H:Hp):OA:=(Hp.new H [(.sl aa),(.int .i64 ac)]).bind λH4=>(Hp.ldSl H4 H.length 0).bind λs5=>(Hp.ldI H4 .i64 H.length (0+1)).bind λn6=>(yB s5 n6 H4).bind λr7=>((r7.1).asB).bind λb8=>(bif (!b8) then (some ((.int .i64 1),r7.2)) else ((yC af r7.2).bind λr9=>((r9.1).asB).bind λb10=>(bif (!b10) then (some ((.int .i64 2),r9.2)) else (some ((.int .i64 0),r9.2)))))
def iJ.tw (F:Nat) (aa:Sl) (ac:Int) (af:Int) (H:Hp):OA:=iJ.twX F (iI.tw F) (jr.tw F) aa ac af H
def iJ.mk (g:Sl->Int->Int->Hp->OA) (args:List AV) (H:Hp):OA:=match args with
 | [(.agg [(.sl aa),(.int .i64 ac)]),(.int .i64 af)]=>g aa ac af H
 | _=>none
def iJ.cs (F:Nat) (yB:Sl->Int->Hp->OA) (yC:Int->Hp->OA):Cs:=[(48,iI.mk yB),(49,jr.mk yC)]
theorem iJ.eqX (F:Nat) (yB:Sl->Int->Hp->OA) (yC:Int->Hp->OA) (aa:Sl) (ac:Int) (af:Int) (H:Hp):EX (bh (iJ.cs F yB yC)) aW lh0 F Tryz.f24 [(.agg [(.sl aa),(.int .i64 ac)]),(.int .i64 af)] H=iJ.twX F yB yC aa ac af H:=by kernel_rfl
theorem iJ.k (F:Nat):Ok Tryz.prog 24 (iJ.mk (iJ.tw F)):=by
 intro args H v H' h
 unfold iJ.mk at h
 split at h
 ·exact okT (TB:=aW) Tryz.func24 (bg (iI.k F) (bg (jr.k F) ca)) ae.no ((iJ.eqX F (iI.tw F) (jr.tw F) _ _ _ H).trans h) (by kernel_rfl)
 ·cases h
def dt.j1 (F:Nat) (dL:Sl->Hp->OA) (fK:Int->Hp->OA) (fL:Sl->Int->Int->Hp->OA) (fM:Sl->Hp->OA) (iX:Sl->Hp->OA) (Dh:Nat) (Zt:Nat) (Zu:Sl) (H47:Hp):OA:=(fM Zu H47).bind λr48=>((r48.1).asSl).bind λs49=>(iX s49 r48.2).bind λr50=>((r50.1).asI .i64).bind λn51=>(if bp r48.2 r50.2 then ((Hp.ldI r50.2 .i64 Dh (Zt+1)).bind λn52=>some ((.tup [(.sl s49),(.int .i64 (IntKind.i64.wrap (n51+n52)))]),r50.2)) else none)
def dt.l29 (F:Nat) (dL:Sl->Hp->OA) (fK:Int->Hp->OA) (fL:Sl->Int->Int->Hp->OA) (fM:Sl->Hp->OA) (iX:Sl->Hp->OA) :Nat->Nat->Nat->Sl->Sl->Int->Int->Hp->OA
 | 0,_,_,_,_,_,_,_=>none
 | fj+1,qv,d_,sC,tS,oO,nQ,H20=>(bif (decide (nQ<oO)) then ((Sl.idx tS nQ 5).bind λp53=>(Hp.ldI H20 .i64 p53.1 p53.2).bind λn54=>(Hp.ldI H20 .i64 p53.1 (p53.2+1)).bind λn55=>(Hp.ldI H20 .i64 p53.1 (p53.2+2)).bind λn56=>(Hp.ldI H20 .i64 p53.1 (p53.2+3)).bind λn57=>(Hp.ldI H20 .i64 p53.1 (p53.2+4)).bind λn58=>(Hp.new H20 [.int .i64 0,.int .i64 0,.int .i64 0,.int .i64 0,.int .i64 0]).bind λH59=>(Hp.st H59 H20.length 0 (.int .i64 n54)).bind λH60=>(Hp.st H60 H20.length (0+1) (.int .i64 n55)).bind λH61=>(Hp.st H61 H20.length (0+1+1) (.int .i64 n56)).bind λH62=>(Hp.st H62 H20.length (0+1+1+1) (.int .i64 n57)).bind λH63=>(Hp.st H63 H20.length (0+1+1+1+1) (.int .i64 n58)).bind λH64=>(Hp.ldI H64 .i64 H20.length 1).bind λn65=>(Hp.ldI H64 .i64 H20.length 3).bind λn66=>(fL sC n65 n66 H64).bind λr67=>dt.l29 F dL fK fL fM iX fj qv d_ sC tS oO (IntKind.i64.wrap (nQ+1)) r67.2) else (dt.j1 F dL fK fL fM iX qv d_ sC H20))
termination_by structural n=>n
def dt.twX (F:Nat) (dL:Sl->Hp->OA) (fK:Int->Hp->OA) (fL:Sl->Int->Int->Hp->OA) (fM:Sl->Hp->OA) (iX:Sl->Hp->OA) (aa:Sl) (ac:Int) (H:Hp):OA:=(Hp.new H [(.sl aa),(.int .i64 ac)]).bind λH3=>(Hp.ldSl H3 H.length 0).bind λs4=>(dL s4 H3).bind λr5=>((r5.1).asI .i64).bind λn6=>(fK (IntKind.i64.wrap (2 * n6)) r5.2).bind λr7=>((r7.1).asSl).bind λs8=>(Hp.ldSl r7.2 H.length 0).bind λs9=>dt.l29 F dL fK fL fM iX F H.length 0 s8 s9 (s9.n:Int) 0 r7.2
def dt.tw (F:Nat) (aa:Sl) (ac:Int) (H:Hp):OA:=dt.twX F (eS.tw F) (dV.tw F) (cK.tw F) (gJ.tw F) (gQ.tw F) aa ac H
def dt.lh29 (F:Nat) (dL:Sl->Hp->OA) (fK:Int->Hp->OA) (fL:Sl->Int->Int->Hp->OA) (fM:Sl->Hp->OA) (iX:Sl->Hp->OA) (ks:List Nat) (n:Nat) (tm:Tm) (H:Hp):OA:=match ks,tm 1,tm 4,tm 14,tm 15,tm 16 with
 | [],(.ptr qv d_),(.sl sC),(.sl tS),(.int .i64 oO),(.int .i64 nQ)=>dt.l29 F dL fK fL fM iX n qv d_ sC tS oO nQ H
 | _,_,_,_,_,_=>none
theorem dt.lh29_inv {F:Nat} {dL:Sl->Hp->OA} {fK:Int->Hp->OA} {fL:Sl->Int->Int->Hp->OA} {fM:Sl->Hp->OA} {iX:Sl->Hp->OA} {ks:List Nat} {n:Nat} {tm:Tm} {H:Hp} {r:AV×Hp} (h:dt.lh29 F dL fK fL fM iX ks n tm H=some r):∃ qv d_ sC tS oO nQ,ks=[]/\dZ tm [(1,(.ptr qv d_)),(4,(.sl sC)),(14,(.sl tS)),(15,(.int .i64 oO)),(16,(.int .i64 nQ))]/\dt.l29 F dL fK fL fM iX n qv d_ sC tS oO nQ H=some r:=by
 unfold dt.lh29 at h
 split at h
 ·exact ⟨_,_,_,_,_,_,rfl,⟨‹_›,‹_›,‹_›,‹_›,‹_›,trivial⟩,h⟩
 ·cases h
def dt.lh (F:Nat) (dL:Sl->Hp->OA) (fK:Int->Hp->OA) (fL:Sl->Int->Int->Hp->OA) (fM:Sl->Hp->OA) (iX:Sl->Hp->OA) (p:Nat) (ks:List Nat) (n:Nat) (tm:Tm) (H:Hp):OA:=bif p.beq 29 then dt.lh29 F dL fK fL fM iX ks n tm H else (none)
def dt.tb:Nat->List (List Nat):=eU [(8,[[],[],[1],[],[3],[1,2,3,4],[0,1,2],[0,1,2,3,4,5,6]])]
def dt.mk (g:Sl->Int->Hp->OA) (args:List AV) (H:Hp):OA:=match args with
 | [(.agg [(.sl aa),(.int .i64 ac)])]=>g aa ac H
 | _=>none
def dt.cs (F:Nat) (dL:Sl->Hp->OA) (fK:Int->Hp->OA) (fL:Sl->Int->Int->Hp->OA) (fM:Sl->Hp->OA) (iX:Sl->Hp->OA):Cs:=[(52,eS.mk dL),(71,dV.mk fK),(72,cK.mk fL),(73,gJ.mk fM),(74,gQ.mk iX)]
theorem dt.loops (F:Nat) (dL:Sl->Hp->OA) (fK:Int->Hp->OA) (fL:Sl->Int->Int->Hp->OA) (fM:Sl->Hp->OA) (iX:Sl->Hp->OA):LO (bh (dt.cs F dL fK fL fM iX)) aW (dt.lh F dL fK fL fM iX) F Tryz.f50:=
 (ae.rt (ae.rt (ae.lt (ae.rt (ae.block (ae.la (λn tm H r h=>by obtain ⟨qv,d_,sC,tS,oO,nQ,hks,e,h⟩:=dt.lh29_inv (show dt.lh29 F dL fK fL fM iX [] n tm H=some r from h);obtain _ | k29:=n;cases h;exact ⟨_,rfl,by rw [<- eb e];exact Eq.trans (by kernel_rfl) h⟩) λk29=>ae.no))))))
theorem dt.eqX (F:Nat) (dL:Sl->Hp->OA) (fK:Int->Hp->OA) (fL:Sl->Int->Int->Hp->OA) (fM:Sl->Hp->OA) (iX:Sl->Hp->OA) (aa:Sl) (ac:Int) (H:Hp):EX (bh (dt.cs F dL fK fL fM iX)) aW (dt.lh F dL fK fL fM iX) F Tryz.f50 [(.agg [(.sl aa),(.int .i64 ac)])] H=dt.twX F dL fK fL fM iX aa ac H:=by kernel_rfl
theorem dt.k (F:Nat):Ok Tryz.prog 50 (dt.mk (dt.tw F)):=by
 intro args H v H' h
 unfold dt.mk at h
 split at h
 ·exact okT (TB:=dt.tb) Tryz.func50 (bg (eS.k F) (bg (dV.k F) (bg (cK.k F) (bg (gJ.k F) (bg (gQ.k F) ca))))) (dt.loops F (eS.tw F) (dV.tw F) (cK.tw F) (gJ.tw F) (gQ.tw F)) ((dt.eqX F (eS.tw F) (dV.tw F) (cK.tw F) (gJ.tw F) (gQ.tw F) _ _ H).trans h) (by kernel_rfl)
 ·cases h
def gY.twX (F:Nat) (aa:Int) (ai:Int) (H:Hp):OA:=(Hp.new H [.int .i64 0,.int .i64 0,.sl ⟨none,0,.ex 0⟩]).bind λH3=>(Hp.mk H3 [.int .i64 0] 8 (IntKind.i64.wrap (aa * ai)) (IntKind.i64.wrap (aa * ai))).bind λm4=>(Hp.st m4.2 H.length 0 (.int .i64 aa)).bind λH5=>(Hp.st H5 H.length (0+1) (.int .i64 ai)).bind λH6=>(Hp.st H6 H.length (0+1+1) (.sl m4.1)).bind λH7=>(Hp.ldI H7 .i64 H.length 0).bind λn8=>(Hp.ldI H7 .i64 H.length (0+1)).bind λn9=>(Hp.ldSl H7 H.length (0+2)).bind λs10=>some ((.agg [(.int .i64 n8),(.int .i64 n9),(.sl s10)]),H7)
def gY.tw (F:Nat) (aa:Int) (ai:Int) (H:Hp):OA:=gY.twX F aa ai H
def gY.mk (g:Int->Int->Hp->OA) (args:List AV) (H:Hp):OA:=match args with
 | [(.int .i64 aa),(.int .i64 ai)]=>g aa ai H
 | _=>none
theorem gY.eqX (F:Nat) (aa:Int) (ai:Int) (H:Hp):EX (bh []) aW lh0 F Tryz.f51 [(.int .i64 aa),(.int .i64 ai)] H=gY.twX F aa ai H:=by kernel_rfl
theorem gY.k (F:Nat):Ok Tryz.prog 51 (gY.mk (gY.tw F)):=by
 intro args H v H' h
 unfold gY.mk at h
 split at h
 ·exact okT (TB:=aW) Tryz.func51 ca ae.no ((gY.eqX F _ _ H).trans h) (by kernel_rfl)
 ·cases h
def bT.twX (F:Nat) (aa:Int) (ac:Int) (aI:Sl) (aw:Int) (bS:Int) (H:Hp):OA:=(Hp.new H [(.int .i64 aa),(.int .i64 ac),(.sl aI)]).bind λH6=>(Hp.ldSl H6 H.length 2).bind λs7=>(Hp.ldI H6 .i64 H.length 1).bind λn8=>(Sl.idx s7 (IntKind.i64.wrap ((IntKind.i64.wrap (aw * n8))+bS)) 1).bind λp9=>some ((.ptr p9.1 p9.2),H6)
def bT.tw (F:Nat) (aa:Int) (ac:Int) (aI:Sl) (aw:Int) (bS:Int) (H:Hp):OA:=bT.twX F aa ac aI aw bS H
def bT.mk (g:Int->Int->Sl->Int->Int->Hp->OA) (args:List AV) (H:Hp):OA:=match args with
 | [(.agg [(.int .i64 aa),(.int .i64 ac),(.sl aI)]),(.int .i64 aw),(.int .i64 bS)]=>g aa ac aI aw bS H
 | _=>none
theorem bT.eqX (F:Nat) (aa:Int) (ac:Int) (aI:Sl) (aw:Int) (bS:Int) (H:Hp):EX (bh []) aW lh0 F Tryz.f53 [(.agg [(.int .i64 aa),(.int .i64 ac),(.sl aI)]),(.int .i64 aw),(.int .i64 bS)] H=bT.twX F aa ac aI aw bS H:=by kernel_rfl
theorem bT.k (F:Nat):Ok Tryz.prog 53 (bT.mk (bT.tw F)):=by
 intro args H v H' h
 unfold bT.mk at h
 split at h
 ·exact okT (TB:=aW) Tryz.func53 ca ae.no ((bT.eqX F _ _ _ _ _ H).trans h) (by kernel_rfl)
 ·cases h
def dW.l61 (F:Nat) (lG:Sl->Int->Hp->OA) (dL:Sl->Hp->OA) (fX:Int->Int->Hp->OA) (aj:Int->Int->Sl->Int->Int->Hp->OA) :Nat->Nat->Nat->Sl->Nat->Nat->Sl->Int->Int->Hp->OA
 | 0,_,_,_,_,_,_,_,_,_=>none
 | eC+1,nR,pW,rJ,kE,mK,tT,oP,kF,H42=>(bif (decide (kF<oP)) then ((Sl.idx tT kF 5).bind λp94=>(Hp.ldI H42 .i64 p94.1 p94.2).bind λn95=>(Hp.ldI H42 .i64 p94.1 (p94.2+1)).bind λn96=>(Hp.ldI H42 .i64 p94.1 (p94.2+2)).bind λn97=>(Hp.ldI H42 .i64 p94.1 (p94.2+3)).bind λn98=>(Hp.ldI H42 .i64 p94.1 (p94.2+4)).bind λn99=>(Hp.new H42 [.int .i64 0,.int .i64 0,.int .i64 0,.int .i64 0,.int .i64 0]).bind λH100=>(Hp.st H100 H42.length 0 (.int .i64 n95)).bind λH101=>(Hp.st H101 H42.length (0+1) (.int .i64 n96)).bind λH102=>(Hp.st H102 H42.length (0+1+1) (.int .i64 n97)).bind λH103=>(Hp.st H103 H42.length (0+1+1+1) (.int .i64 n98)).bind λH104=>(Hp.st H104 H42.length (0+1+1+1+1) (.int .i64 n99)).bind λH105=>(Hp.ldI H105 .i64 kE mK).bind λn106=>(Hp.ldI H105 .i64 kE (mK+1)).bind λn107=>(Hp.ldSl H105 kE (mK+2)).bind λs108=>(Hp.ldI H105 .i64 H42.length 1).bind λn109=>(Sl.idx rJ n109 1).bind λp110=>(Hp.ldI H105 .i64 p110.1 p110.2).bind λn111=>(aj n106 n107 s108 kF n111 H105).bind λr112=>((r112.1).asP).bind λp113=>(Hp.ldI r112.2 .i64 p113.1 p113.2).bind λn114=>(Hp.st r112.2 p113.1 p113.2 (.int .i64 (IntKind.i64.wrap (n114+2)))).bind λH115=>(Hp.ldI H115 .i64 kE mK).bind λn116=>(Hp.ldI H115 .i64 kE (mK+1)).bind λn117=>(Hp.ldSl H115 kE (mK+2)).bind λs118=>(Hp.ldI H115 .i64 H42.length 0).bind λn119=>(Sl.idx rJ n119 1).bind λp120=>(Hp.ldI H115 .i64 p120.1 p120.2).bind λn121=>(aj n116 n117 s118 kF n121 H115).bind λr122=>((r122.1).asP).bind λp123=>(Hp.ldI r122.2 .i64 p123.1 p123.2).bind λn124=>(Hp.st r122.2 p123.1 p123.2 (.int .i64 (IntKind.i64.wrap (n124 - 1)))).bind λH125=>(Hp.ldI H125 .i64 kE mK).bind λn126=>(Hp.ldI H125 .i64 kE (mK+1)).bind λn127=>(Hp.ldSl H125 kE (mK+2)).bind λs128=>(Hp.ldI H125 .i64 H42.length 2).bind λn129=>(Sl.idx rJ n129 1).bind λp130=>(Hp.ldI H125 .i64 p130.1 p130.2).bind λn131=>(aj n126 n127 s128 kF n131 H125).bind λr132=>((r132.1).asP).bind λp133=>(Hp.ldI r132.2 .i64 p133.1 p133.2).bind λn134=>(Hp.st r132.2 p133.1 p133.2 (.int .i64 (IntKind.i64.wrap (n134 - 1)))).bind λH135=>dW.l61 F lG dL fX aj eC nR pW rJ kE mK tT oP (IntKind.i64.wrap (kF+1)) H135) else ((Hp.ldI H42 .i64 kE mK).bind λn136=>(Hp.ldI H42 .i64 kE (mK+1)).bind λn137=>(Hp.ldSl H42 kE (mK+2)).bind λs138=>(Hp.st H42 nR pW (.int .i64 n136)).bind λH139=>(Hp.st H139 nR (pW+1) (.int .i64 n137)).bind λH140=>(Hp.st H140 nR (pW+1+1) (.sl s138)).bind λH141=>(Hp.ldI H141 .i64 nR pW).bind λn142=>(Hp.ldI H141 .i64 nR (pW+1)).bind λn143=>(Hp.ldSl H141 nR (pW+2)).bind λs144=>some ((.agg [(.int .i64 n142),(.int .i64 n143),(.sl s144)]),H141)))
termination_by structural n=>n
def dW.twX (F:Nat) (lG:Sl->Int->Hp->OA) (dL:Sl->Hp->OA) (fX:Int->Int->Hp->OA) (aj:Int->Int->Sl->Int->Int->Hp->OA) (aa:Sl) (ac:Int) (H:Hp):OA:=(Hp.new H [(.sl aa),(.int .i64 ac)]).bind λH3=>(Hp.new H3 [.int .i64 0,.int .i64 0,.sl ⟨none,0,.ex 0⟩]).bind λH4=>(Hp.ldSl H4 H.length 0).bind λs5=>(Hp.ldI H4 .i64 H.length (0+1)).bind λn6=>(lG s5 n6 H4).bind λr7=>((r7.1).asTup 2).bind λl8=>(l8[0]?).bind λv9=>((v9).asSl).bind λs10=>(l8[1]?).bind λv11=>((v11).asI .i64).bind λn12=>(Hp.ldSl r7.2 H.length 0).bind λs13=>(dL s13 r7.2).bind λr14=>((r14.1).asI .i64).bind λn15=>(fX n15 n12 r14.2).bind λr16=>((r16.1).asAgg 3).bind λl17=>(l17[0]?).bind λv18=>((v18).asI .i64).bind λn19=>(l17[1]?).bind λv20=>((v20).asI .i64).bind λn21=>(l17[2]?).bind λv22=>((v22).asSl).bind λs23=>(Hp.new r16.2 [.int .i64 0,.int .i64 0,.sl ⟨none,0,.ex 0⟩]).bind λH24=>(Hp.st H24 r16.2.length 0 (.int .i64 n19)).bind λH25=>(Hp.st H25 r16.2.length (0+1) (.int .i64 n21)).bind λH26=>(Hp.st H26 r16.2.length (0+1+1) (.sl s23)).bind λH27=>(Hp.ldSl H27 H.length 0).bind λs28=>dW.l61 F lG dL fX aj F H3.length 0 s10 r16.2.length 0 s28 (s28.n:Int) 0 H27
def dW.tw (F:Nat) (aa:Sl) (ac:Int) (H:Hp):OA:=dW.twX F (dt.tw F) (eS.tw F) (gY.tw F) (bT.tw F) aa ac H
def dW.lh61 (F:Nat) (lG:Sl->Int->Hp->OA) (dL:Sl->Hp->OA) (fX:Int->Int->Hp->OA) (aj:Int->Int->Sl->Int->Int->Hp->OA) (ks:List Nat) (n:Nat) (tm:Tm) (H:Hp):OA:=match ks,tm 2,tm 3,tm 5,tm 19,tm 20,tm 21 with
 | [],(.ptr nR pW),(.sl rJ),(.ptr kE mK),(.sl tT),(.int .i64 oP),(.int .i64 kF)=>dW.l61 F lG dL fX aj n nR pW rJ kE mK tT oP kF H
 | _,_,_,_,_,_,_=>none
theorem dW.lh61_inv {F:Nat} {lG:Sl->Int->Hp->OA} {dL:Sl->Hp->OA} {fX:Int->Int->Hp->OA} {aj:Int->Int->Sl->Int->Int->Hp->OA} {ks:List Nat} {n:Nat} {tm:Tm} {H:Hp} {r:AV×Hp} (h:dW.lh61 F lG dL fX aj ks n tm H=some r):∃ nR pW rJ kE mK tT oP kF,ks=[]/\dZ tm [(2,(.ptr nR pW)),(3,(.sl rJ)),(5,(.ptr kE mK)),(19,(.sl tT)),(20,(.int .i64 oP)),(21,(.int .i64 kF))]/\dW.l61 F lG dL fX aj n nR pW rJ kE mK tT oP kF H=some r:=by
 unfold dW.lh61 at h
 split at h
 ·exact ⟨_,_,_,_,_,_,_,_,rfl,⟨‹_›,‹_›,‹_›,‹_›,‹_›,‹_›,trivial⟩,h⟩
 ·cases h
def dW.lh (F:Nat) (lG:Sl->Int->Hp->OA) (dL:Sl->Hp->OA) (fX:Int->Int->Hp->OA) (aj:Int->Int->Sl->Int->Int->Hp->OA) (p:Nat) (ks:List Nat) (n:Nat) (tm:Tm) (H:Hp):OA:=bif p.beq 61 then dW.lh61 F lG dL fX aj ks n tm H else (none)
def dW.pn:Nat->List Nat:=eU [(6,[7,12]),(7,[7,12]),(8,[7,12])]
def dW.tb:Nat->List (List Nat):=eU [(6,[[],[],[],[],[3],[2,3,4],[2,3,4,5],[0,1,2,3,4,5,6],[0,1,2,3,4,5,6,7],[0,1,2,3,4,5,6,7,8],[0,1,2,3,4,5,6,7,8,9],[0,1,2,3,4,5,6,7,8,9,10],[0,1,2,3,4,5,6,7,8,9,10,11]]),(7,[[],[],[],[],[3],[2,3,4],[2,3,4,5],[0,1,2,3,4,5,6],[0,1,2,3,4,5,6,7],[0,1,2,3,4,5,6,7,8],[0,1,2,3,4,5,6,7,8,9],[0,1,2,3,4,5,6,7,8,9,10],[0,1,2,3,4,5,6,7,8,9,10,11]]),(8,[[],[],[],[],[3],[2,3,4],[2,3,4,5],[0,1,2,3,4,5,6],[0,1,2,3,4,5,6,7],[0,1,2,3,4,5,6,7,8],[0,1,2,3,4,5,6,7,8,9],[0,1,2,3,4,5,6,7,8,9,10],[0,1,2,3,4,5,6,7,8,9,10,11]])]
def dW.mk (g:Sl->Int->Hp->OA) (args:List AV) (H:Hp):OA:=match args with
 | [(.agg [(.sl aa),(.int .i64 ac)])]=>g aa ac H
 | _=>none
def dW.cs (F:Nat) (lG:Sl->Int->Hp->OA) (dL:Sl->Hp->OA) (fX:Int->Int->Hp->OA) (aj:Int->Int->Sl->Int->Int->Hp->OA):Cs:=[(50,dt.mk lG),(52,eS.mk dL),(51,gY.mk fX),(53,bT.mk aj)]
theorem dW.loops (F:Nat) (lG:Sl->Int->Hp->OA) (dL:Sl->Hp->OA) (fX:Int->Int->Hp->OA) (aj:Int->Int->Sl->Int->Int->Hp->OA):LO (bh (dW.cs F lG dL fX aj)) dW.pn (dW.lh F lG dL fX aj) F Tryz.f25:=
 (ae.rt (ae.rt (ae.rt (ae.lt (ae.rt (ae.block (ae.la (λn tm H r h=>by obtain ⟨nR,pW,rJ,kE,mK,tT,oP,kF,hks,e,h⟩:=dW.lh61_inv (show dW.lh61 F lG dL fX aj [] n tm H=some r from h);obtain _ | k61:=n;cases h;exact ⟨_,rfl,by rw [<- eb e];exact Eq.trans (by kernel_rfl) h⟩) λk61=>ae.no)))))))
theorem dW.eqX (F:Nat) (lG:Sl->Int->Hp->OA) (dL:Sl->Hp->OA) (fX:Int->Int->Hp->OA) (aj:Int->Int->Sl->Int->Int->Hp->OA) (aa:Sl) (ac:Int) (H:Hp):EX (bh (dW.cs F lG dL fX aj)) dW.pn (dW.lh F lG dL fX aj) F Tryz.f25 [(.agg [(.sl aa),(.int .i64 ac)])] H=dW.twX F lG dL fX aj aa ac H:=by kernel_rfl
theorem dW.k (F:Nat):Ok Tryz.prog 25 (dW.mk (dW.tw F)):=by
 intro args H v H' h
 unfold dW.mk at h
 split at h
 ·exact okT (TB:=dW.tb) Tryz.func25 (bg (dt.k F) (bg (eS.k F) (bg (gY.k F) (bg (bT.k F) ca)))) (dW.loops F (dt.tw F) (eS.tw F) (gY.tw F) (bT.tw F)) ((dW.eqX F (dt.tw F) (eS.tw F) (gY.tw F) (bT.tw F) _ _ H).trans h) (by kernel_rfl)
 ·cases h
def dO.l29 (F:Nat) (fX:Int->Int->Hp->OA) (aj:Int->Int->Sl->Int->Int->Hp->OA) :Nat->Nat->Nat->Nat->Nat->Int->Int->Hp->OA
 | 0,_,_,_,_,_,_,_=>none
 | fj+1,dR,jx,iq,gL,oQ,mL,H22=>(bif (decide (mL<oQ)) then ((Hp.ldI H22 .i64 iq gL).bind λn38=>(Hp.ldI H22 .i64 iq (gL+1)).bind λn39=>(Hp.ldSl H22 iq (gL+2)).bind λs40=>(aj n38 n39 s40 mL mL H22).bind λr41=>((r41.1).asP).bind λp42=>(Hp.st r41.2 p42.1 p42.2 (.int .i64 1)).bind λH43=>dO.l29 F fX aj fj dR jx iq gL oQ (IntKind.i64.wrap (mL+1)) H43) else ((Hp.ldI H22 .i64 iq gL).bind λn44=>(Hp.ldI H22 .i64 iq (gL+1)).bind λn45=>(Hp.ldSl H22 iq (gL+2)).bind λs46=>(Hp.st H22 dR jx (.int .i64 n44)).bind λH47=>(Hp.st H47 dR (jx+1) (.int .i64 n45)).bind λH48=>(Hp.st H48 dR (jx+1+1) (.sl s46)).bind λH49=>(Hp.ldI H49 .i64 dR jx).bind λn50=>(Hp.ldI H49 .i64 dR (jx+1)).bind λn51=>(Hp.ldSl H49 dR (jx+2)).bind λs52=>some ((.agg [(.int .i64 n50),(.int .i64 n51),(.sl s52)]),H49)))
termination_by structural n=>n
def dO.twX (F:Nat) (fX:Int->Int->Hp->OA) (aj:Int->Int->Sl->Int->Int->Hp->OA) (aa:Int) (H:Hp):OA:=(Hp.new H [.int .i64 0,.int .i64 0,.sl ⟨none,0,.ex 0⟩]).bind λH2=>(fX aa aa H2).bind λr3=>((r3.1).asAgg 3).bind λl4=>(l4[0]?).bind λv5=>((v5).asI .i64).bind λn6=>(l4[1]?).bind λv7=>((v7).asI .i64).bind λn8=>(l4[2]?).bind λv9=>((v9).asSl).bind λs10=>(Hp.new r3.2 [.int .i64 0,.int .i64 0,.sl ⟨none,0,.ex 0⟩]).bind λH11=>(Hp.st H11 r3.2.length 0 (.int .i64 n6)).bind λH12=>(Hp.st H12 r3.2.length (0+1) (.int .i64 n8)).bind λH13=>(Hp.st H13 r3.2.length (0+1+1) (.sl s10)).bind λH14=>dO.l29 F fX aj F H.length 0 r3.2.length 0 aa 0 H14
def dO.tw (F:Nat) (aa:Int) (H:Hp):OA:=dO.twX F (gY.tw F) (bT.tw F) aa H
def dO.lh29 (F:Nat) (fX:Int->Int->Hp->OA) (aj:Int->Int->Sl->Int->Int->Hp->OA) (ks:List Nat) (n:Nat) (tm:Tm) (H:Hp):OA:=match ks,tm 2,tm 3,tm 8,tm 9 with
 | [],(.ptr dR jx),(.ptr iq gL),(.int .i64 oQ),(.int .i64 mL)=>dO.l29 F fX aj n dR jx iq gL oQ mL H
 | _,_,_,_,_=>none
theorem dO.lh29_inv {F:Nat} {fX:Int->Int->Hp->OA} {aj:Int->Int->Sl->Int->Int->Hp->OA} {ks:List Nat} {n:Nat} {tm:Tm} {H:Hp} {r:AV×Hp} (h:dO.lh29 F fX aj ks n tm H=some r):∃ dR jx iq gL oQ mL,ks=[]/\dZ tm [(2,(.ptr dR jx)),(3,(.ptr iq gL)),(8,(.int .i64 oQ)),(9,(.int .i64 mL))]/\dO.l29 F fX aj n dR jx iq gL oQ mL H=some r:=by
 unfold dO.lh29 at h
 split at h
 ·exact ⟨_,_,_,_,_,_,rfl,⟨‹_›,‹_›,‹_›,‹_›,trivial⟩,h⟩
 ·cases h
def dO.lh (F:Nat) (fX:Int->Int->Hp->OA) (aj:Int->Int->Sl->Int->Int->Hp->OA) (p:Nat) (ks:List Nat) (n:Nat) (tm:Tm) (H:Hp):OA:=bif p.beq 29 then dO.lh29 F fX aj ks n tm H else (none)
def dO.mk (g:Int->Hp->OA) (args:List AV) (H:Hp):OA:=match args with
 | [(.int .i64 aa)]=>g aa H
 | _=>none
def dO.cs (F:Nat) (fX:Int->Int->Hp->OA) (aj:Int->Int->Sl->Int->Int->Hp->OA):Cs:=[(51,gY.mk fX),(53,bT.mk aj)]
theorem dO.loops (F:Nat) (fX:Int->Int->Hp->OA) (aj:Int->Int->Sl->Int->Int->Hp->OA):LO (bh (dO.cs F fX aj)) aW (dO.lh F fX aj) F Tryz.f96:=
 (ae.rt (ae.rt (ae.lt (ae.rt (ae.block (ae.la (λn tm H r h=>by obtain ⟨dR,jx,iq,gL,oQ,mL,hks,e,h⟩:=dO.lh29_inv (show dO.lh29 F fX aj [] n tm H=some r from h);obtain _ | k29:=n;cases h;exact ⟨_,rfl,by rw [<- eb e];exact Eq.trans (by kernel_rfl) h⟩) λk29=>ae.no))))))
theorem dO.eqX (F:Nat) (fX:Int->Int->Hp->OA) (aj:Int->Int->Sl->Int->Int->Hp->OA) (aa:Int) (H:Hp):EX (bh (dO.cs F fX aj)) aW (dO.lh F fX aj) F Tryz.f96 [(.int .i64 aa)] H=dO.twX F fX aj aa H:=by kernel_rfl
theorem dO.k (F:Nat):Ok Tryz.prog 96 (dO.mk (dO.tw F)):=by
 intro args H v H' h
 unfold dO.mk at h
 split at h
 ·exact okT (TB:=aW) Tryz.func96 (bg (gY.k F) (bg (bT.k F) ca)) (dO.loops F (gY.tw F) (bT.tw F)) ((dO.eqX F (gY.tw F) (bT.tw F) _ H).trans h) (by kernel_rfl)
 ·cases h
def jR.twX (F:Nat) (aa:Sl) (H:Hp):OA:=(bif (aa.a.isNone) then (some ((.sl (⟨none,0,.ex 0⟩:Sl)),H)) else ((Hp.new H []).bind λH2=>(Sl.row H2 aa 1).bind λxs4=>(Hp.app H2 1 8 (⟨some (H.length,0),0,.ex 0⟩:Sl) aa.n xs4).bind λa3=>some ((.sl a3.1),a3.2)))
def jR.tw (F:Nat) (aa:Sl) (H:Hp):OA:=jR.twX F aa H
def jR.mk (g:Sl->Hp->OA) (args:List AV) (H:Hp):OA:=match args with
 | [(.sl aa)]=>g aa H
 | _=>none
theorem jR.eqX (F:Nat) (aa:Sl) (H:Hp):EX (bh []) aW lh0 F Tryz.f114 [(.sl aa)] H=jR.twX F aa H:=by kernel_rfl
theorem jR.k (F:Nat):Ok Tryz.prog 114 (jR.mk (jR.tw F)):=by
 intro args H v H' h
 unfold jR.mk at h
 split at h
 ·exact okT (TB:=aW) Tryz.func114 ca ae.no ((jR.eqX F _ H).trans h) (by kernel_rfl)
 ·cases h
def je.twX (F:Nat) (yD:Sl->Hp->OA) (aa:Int) (ac:Int) (aI:Sl) (H:Hp):OA:=(Hp.new H [(.int .i64 aa),(.int .i64 ac),(.sl aI)]).bind λH4=>(Hp.new H4 [.int .i64 0,.int .i64 0,.sl ⟨none,0,.ex 0⟩]).bind λH5=>(Hp.ldSl H5 H.length 2).bind λs6=>(yD s6 H5).bind λr7=>((r7.1).asSl).bind λs8=>(Hp.st r7.2 H.length 2 (.sl s8)).bind λH9=>(Hp.ldI H9 .i64 H.length 0).bind λn10=>(Hp.ldI H9 .i64 H.length (0+1)).bind λn11=>(Hp.ldSl H9 H.length (0+2)).bind λs12=>(Hp.st H9 H4.length 0 (.int .i64 n10)).bind λH13=>(Hp.st H13 H4.length (0+1) (.int .i64 n11)).bind λH14=>(Hp.st H14 H4.length (0+1+1) (.sl s12)).bind λH15=>(Hp.ldI H15 .i64 H4.length 0).bind λn16=>(Hp.ldI H15 .i64 H4.length (0+1)).bind λn17=>(Hp.ldSl H15 H4.length (0+2)).bind λs18=>some ((.agg [(.int .i64 n16),(.int .i64 n17),(.sl s18)]),H15)
def je.tw (F:Nat) (aa:Int) (ac:Int) (aI:Sl) (H:Hp):OA:=je.twX F (jR.tw F) aa ac aI H
def je.mk (g:Int->Int->Sl->Hp->OA) (args:List AV) (H:Hp):OA:=match args with
 | [(.agg [(.int .i64 aa),(.int .i64 ac),(.sl aI)])]=>g aa ac aI H
 | _=>none
def je.cs (F:Nat) (yD:Sl->Hp->OA):Cs:=[(114,jR.mk yD)]
theorem je.eqX (F:Nat) (yD:Sl->Hp->OA) (aa:Int) (ac:Int) (aI:Sl) (H:Hp):EX (bh (je.cs F yD)) aW lh0 F Tryz.f97 [(.agg [(.int .i64 aa),(.int .i64 ac),(.sl aI)])] H=je.twX F yD aa ac aI H:=by kernel_rfl
theorem je.k (F:Nat):Ok Tryz.prog 97 (je.mk (je.tw F)):=by
 intro args H v H' h
 unfold je.mk at h
 split at h
 ·exact okT (TB:=aW) Tryz.func97 (bg (jR.k F) ca) ae.no ((je.eqX F (jR.tw F) _ _ _ H).trans h) (by kernel_rfl)
 ·cases h
def kG.twX (F:Nat) (sD:Int->Hp->OA) (yE:Int->Int->Sl->Hp->OA) (aa:Int) (ac:Int) (aI:Sl) (H:Hp):OA:=(Hp.new H [(.int .i64 aa),(.int .i64 ac),(.sl aI)]).bind λH4=>(Hp.ldI H4 .i64 H.length 0).bind λn5=>(sD n5 H4).bind λr6=>((r6.1).asAgg 3).bind λl7=>(l7[0]?).bind λv8=>((v8).asI .i64).bind λn9=>(l7[1]?).bind λv10=>((v10).asI .i64).bind λn11=>(l7[2]?).bind λv12=>((v12).asSl).bind λs13=>(if bp H4 r6.2 then ((Hp.ldI r6.2 .i64 H.length 0).bind λn14=>(sD n14 r6.2).bind λr15=>((r15.1).asAgg 3).bind λl16=>(l16[0]?).bind λv17=>((v17).asI .i64).bind λn18=>(l16[1]?).bind λv19=>((v19).asI .i64).bind λn20=>(l16[2]?).bind λv21=>((v21).asSl).bind λs22=>(if bp r6.2 r15.2 then ((Hp.ldI r15.2 .i64 H.length 0).bind λn23=>(Hp.ldI r15.2 .i64 H.length (0+1)).bind λn24=>(Hp.ldSl r15.2 H.length (0+2)).bind λs25=>(yE n23 n24 s25 r15.2).bind λr26=>((r26.1).asAgg 3).bind λl27=>(l27[0]?).bind λv28=>((v28).asI .i64).bind λn29=>(l27[1]?).bind λv30=>((v30).asI .i64).bind λn31=>(l27[2]?).bind λv32=>((v32).asSl).bind λs33=>(if bp r15.2 r26.2 then ((Hp.ldI r26.2 .i64 H.length 1).bind λn34=>(sD n34 r26.2).bind λr35=>((r35.1).asAgg 3).bind λl36=>(l36[0]?).bind λv37=>((v37).asI .i64).bind λn38=>(l36[1]?).bind λv39=>((v39).asI .i64).bind λn40=>(l36[2]?).bind λv41=>((v41).asSl).bind λs42=>(if bp r26.2 r35.2 then ((Hp.ldI r35.2 .i64 H.length 1).bind λn43=>(sD n43 r35.2).bind λr44=>((r44.1).asAgg 3).bind λl45=>(l45[0]?).bind λv46=>((v46).asI .i64).bind λn47=>(l45[1]?).bind λv48=>((v48).asI .i64).bind λn49=>(l45[2]?).bind λv50=>((v50).asSl).bind λs51=>(Hp.new r44.2 [(.int .i64 n9),(.int .i64 n11),(.sl s13),(.int .i64 n18),(.int .i64 n20),(.sl s22),(.int .i64 n29),(.int .i64 n31),(.sl s33),(.int .i64 n38),(.int .i64 n40),(.sl s42),(.int .i64 n47),(.int .i64 n49),(.sl s51),(.bool false)]).bind λH52=>some ((.ptr r44.2.length 0),H52)) else none)) else none)) else none)) else none)
def kG.tw (F:Nat) (aa:Int) (ac:Int) (aI:Sl) (H:Hp):OA:=kG.twX F (dO.tw F) (je.tw F) aa ac aI H
def kG.pn:Nat->List Nat:=eU [(1,[13])]
def kG.tb:Nat->List (List Nat):=eU [(1,[[],[0],[0,1],[],[3],[0,1,2,3,4],[],[0,1,2,3,4,5,6],[],[8],[0,1,2,3,4,5,6,7,8,9],[],[11],[0,1,2,3,4,5,6,7,8,9,10,11,12],[0,1,2,3,4,5,6,7,8,9,10,11,12,13],[0,1,2,3,4,5,6,7,8,9,10,11,12,13,14],[0,1,2,3,4,5,6,7,8,9,10,11,12,13,14,15],[0,1,2,3,4,5,6,7,8,9,10,11,12,13,14,15,16]])]
def kG.mk (g:Int->Int->Sl->Hp->OA) (args:List AV) (H:Hp):OA:=match args with
 | [(.agg [(.int .i64 aa),(.int .i64 ac),(.sl aI)])]=>g aa ac aI H
 | _=>none
def kG.cs (F:Nat) (sD:Int->Hp->OA) (yE:Int->Int->Sl->Hp->OA):Cs:=[(96,dO.mk sD),(97,je.mk yE)]
theorem kG.eqX (F:Nat) (sD:Int->Hp->OA) (yE:Int->Int->Sl->Hp->OA) (aa:Int) (ac:Int) (aI:Sl) (H:Hp):EX (bh (kG.cs F sD yE)) kG.pn lh0 F Tryz.f75 [(.agg [(.int .i64 aa),(.int .i64 ac),(.sl aI)])] H=kG.twX F sD yE aa ac aI H:=by kernel_rfl
theorem kG.k (F:Nat):Ok Tryz.prog 75 (kG.mk (kG.tw F)):=by
 intro args H v H' h
 unfold kG.mk at h
 split at h
 ·exact okT (TB:=kG.tb) Tryz.func75 (bg (dO.k F) (bg (je.k F) ca)) ae.no ((kG.eqX F (dO.tw F) (je.tw F) _ _ _ H).trans h) (by kernel_rfl)
 ·cases h
def ev.twX (F:Nat) (aa:Int) (H:Hp):OA:=(bif (decide (aa<0)) then (some ((.int .i64 (IntKind.i64.wrap (0 - aa))),H)) else (some ((.int .i64 aa),H)))
def ev.tw (F:Nat) (aa:Int) (H:Hp):OA:=ev.twX F aa H
def ev.mk (g:Int->Hp->OA) (args:List AV) (H:Hp):OA:=match args with
 | [(.int .i64 aa)]=>g aa H
 | _=>none
theorem ev.eqX (F:Nat) (aa:Int) (H:Hp):EX (bh []) aW lh0 F Tryz.f55 [(.int .i64 aa)] H=ev.twX F aa H:=by kernel_rfl
theorem ev.k (F:Nat):Ok Tryz.prog 55 (ev.mk (ev.tw F)):=by
 intro args H v H' h
 unfold ev.mk at h
 split at h
 ·exact okT (TB:=aW) Tryz.func55 ca ae.no ((ev.eqX F _ H).trans h) (by kernel_rfl)
 ·cases h
def bc.j5 (F:Nat) (aj:Int->Int->Sl->Int->Int->Hp->OA) (cU:Int->Hp->OA) (yF:Int) (yG:Int) (yH:Bool) (H134:Hp):OA:=some ((.tup [(.int .i64 yF),(.int .i64 yG),(.bool yH)]),H134)
def bc.j7 (F:Nat) (aj:Int->Int->Sl->Int->Int->Hp->OA) (cU:Int->Hp->OA) (C29_:Int->Int->Int->Bool->Nat->Nat->Int->Hp->OA) (yI:Int) (yJ:Int) (yK:Int) (yL:Bool) (Di:Nat) (Zv:Nat) (yM:Int) (H205:Hp):OA:=C29_ yI yJ yK yL Di Zv (IntKind.i64.wrap (yM+1)) H205
def bc.j8 (F:Nat) (aj:Int->Int->Sl->Int->Int->Hp->OA) (cU:Int->Hp->OA) (C29_:Int->Int->Int->Bool->Nat->Nat->Int->Hp->OA) (yN:Int) (yO:Int) (yP:Int) (yQ:Bool) (Dj:Nat) (Zw:Nat) (yR:Int) (H192:Hp):OA:=bc.j7 F aj cU C29_ yN yO yP yQ Dj Zw yR H192
def bc.j9 (F:Nat) (aj:Int->Int->Sl->Int->Int->Hp->OA) (cU:Int->Hp->OA) (C469_:Int->Int->Int->Bool->Nat->Nat->Int->Int->Hp->OA) (yS:Int) (yT:Int) (yU:Int) (yV:Bool) (Dk:Nat) (Zx:Nat) (yW:Int) (yX:Int) (H237:Hp):OA:=C469_ yS yT yU yV Dk Zx yW (IntKind.i64.wrap (yX+1)) H237
def bc.l469 (F:Nat) (aj:Int->Int->Sl->Int->Int->Hp->OA) (cU:Int->Hp->OA) (C29_:Int->Int->Int->Bool->Nat->Nat->Int->Hp->OA):Nat->Int->Int->Int->Bool->Nat->Nat->Int->Int->Hp->OA
 | 0,_,_,_,_,_,_,_,_,_=>none
 | sm+1,lH,mM,mN,mO,kZ,nv,jB,jC,H147=>(Hp.ldI H147 .i64 kZ (nv+1)).bind λn206=>(bif (decide (jC<n206)) then ((Hp.ldI H147 .i64 kZ nv).bind λn207=>(Hp.ldI H147 .i64 kZ (nv+1)).bind λn208=>(Hp.ldSl H147 kZ (nv+2)).bind λs209=>(aj n207 n208 s209 jB jC H147).bind λr210=>((r210.1).asP).bind λp211=>(Hp.ldI r210.2 .i64 p211.1 p211.2).bind λn212=>(cU n212 r210.2).bind λr213=>((r213.1).asI .i64).bind λn214=>(bif (n214 != 0) then ((bif (!mO) then (bc.l469 F aj cU C29_ sm lH jB jC true kZ nv jB (IntKind.i64.wrap (jC+1)) r213.2) else ((Hp.ldI r213.2 .i64 kZ nv).bind λn215=>(Hp.ldI r213.2 .i64 kZ (nv+1)).bind λn216=>(Hp.ldSl r213.2 kZ (nv+2)).bind λs217=>(aj n215 n216 s217 mM mN r213.2).bind λr218=>((r218.1).asP).bind λp219=>(Hp.ldI r218.2 .i64 p219.1 p219.2).bind λn220=>(cU n220 r218.2).bind λr221=>((r221.1).asI .i64).bind λn222=>(bif (decide (n214<n222)) then (bc.j9 F aj cU (bc.l469 F aj cU C29_ sm) lH jB jC true kZ nv jB jC r221.2) else (bc.j9 F aj cU (bc.l469 F aj cU C29_ sm) lH mM mN mO kZ nv jB jC r221.2))))) else (bc.l469 F aj cU C29_ sm lH mM mN mO kZ nv jB (IntKind.i64.wrap (jC+1)) r213.2))) else (bc.j8 F aj cU C29_ lH mM mN mO kZ nv jB H147))
termination_by structural n=>n
def bc.l29 (F:Nat) (aj:Int->Int->Sl->Int->Int->Hp->OA) (cU:Int->Hp->OA) :Nat->Int->Int->Int->Bool->Nat->Nat->Int->Hp->OA
 | 0,_,_,_,_,_,_,_,_=>none
 | fj+1,d_,fm,eX,oR,qw,tU,oS,H20=>(Hp.ldI H20 .i64 qw tU).bind λn135=>(bif (decide (oS<n135)) then (bc.l469 F aj cU (bc.l29 F aj cU fj) F d_ fm eX oR qw tU oS d_ H20) else (bc.j5 F aj cU fm eX oR H20))
termination_by structural n=>n
def bc.twX (F:Nat) (aj:Int->Int->Sl->Int->Int->Hp->OA) (cU:Int->Hp->OA) (aa:Nat) (ac:Nat) (af:Int) (H:Hp):OA:=(Hp.ldI H .i64 aa (ac+6)).bind λn4=>(Hp.ldI H .i64 aa ((ac+6)+1)).bind λn5=>(Hp.ldSl H aa ((ac+6)+2)).bind λs6=>(Hp.new H [.int .i64 0,.int .i64 0,.sl ⟨none,0,.ex 0⟩]).bind λH7=>(Hp.st H7 H.length 0 (.int .i64 n4)).bind λH8=>(Hp.st H8 H.length (0+1) (.int .i64 n5)).bind λH9=>(Hp.st H9 H.length (0+1+1) (.sl s6)).bind λH10=>bc.l29 F aj cU F af 0 0 false H.length 0 af H10
def bc.tw (F:Nat) (aa:Nat) (ac:Nat) (af:Int) (H:Hp):OA:=bc.twX F (bT.tw F) (ev.tw F) aa ac af H
def bc.lh29 (F:Nat) (aj:Int->Int->Sl->Int->Int->Hp->OA) (cU:Int->Hp->OA) (ks:List Nat) (n:Nat) (tm:Tm) (H:Hp):OA:=match ks,tm 1,tm 4,tm 5,tm 6,tm 7,tm 8 with
 | [],(.int .i64 d_),(.int .i64 fm),(.int .i64 eX),(.bool oR),(.ptr qw tU),(.int .i64 oS)=>bc.l29 F aj cU n d_ fm eX oR qw tU oS H
 | _,_,_,_,_,_,_=>none
theorem bc.lh29_inv {F:Nat} {aj:Int->Int->Sl->Int->Int->Hp->OA} {cU:Int->Hp->OA} {ks:List Nat} {n:Nat} {tm:Tm} {H:Hp} {r:AV×Hp} (h:bc.lh29 F aj cU ks n tm H=some r):∃ d_ fm eX oR qw tU oS,ks=[]/\dZ tm [(1,(.int .i64 d_)),(4,(.int .i64 fm)),(5,(.int .i64 eX)),(6,(.bool oR)),(7,(.ptr qw tU)),(8,(.int .i64 oS))]/\bc.l29 F aj cU n d_ fm eX oR qw tU oS H=some r:=by
 unfold bc.lh29 at h
 split at h
 ·exact ⟨_,_,_,_,_,_,_,rfl,⟨‹_›,‹_›,‹_›,‹_›,‹_›,‹_›,trivial⟩,h⟩
 ·cases h
def bc.lh469 (F:Nat) (aj:Int->Int->Sl->Int->Int->Hp->OA) (cU:Int->Hp->OA) (ks:List Nat) (n:Nat) (tm:Tm) (H:Hp):OA:=match ks,tm 1,tm 4,tm 5,tm 6,tm 7,tm 8,tm 9 with
 | [fj],(.int .i64 lH),(.int .i64 mM),(.int .i64 mN),(.bool mO),(.ptr kZ nv),(.int .i64 jB),(.int .i64 jC)=>bc.l469 F aj cU (bc.l29 F aj cU fj) n lH mM mN mO kZ nv jB jC H
 | _,_,_,_,_,_,_,_=>none
theorem bc.lh469_inv {F:Nat} {aj:Int->Int->Sl->Int->Int->Hp->OA} {cU:Int->Hp->OA} {ks:List Nat} {n:Nat} {tm:Tm} {H:Hp} {r:AV×Hp} (h:bc.lh469 F aj cU ks n tm H=some r):∃ fj lH mM mN mO kZ nv jB jC,ks=[fj]/\dZ tm [(1,(.int .i64 lH)),(4,(.int .i64 mM)),(5,(.int .i64 mN)),(6,(.bool mO)),(7,(.ptr kZ nv)),(8,(.int .i64 jB)),(9,(.int .i64 jC))]/\bc.l469 F aj cU (bc.l29 F aj cU fj) n lH mM mN mO kZ nv jB jC H=some r:=by
 unfold bc.lh469 at h
 split at h
 ·exact ⟨_,_,_,_,_,_,_,_,_,rfl,⟨‹_›,‹_›,‹_›,‹_›,‹_›,‹_›,‹_›,trivial⟩,h⟩
 ·cases h
def bc.lh (F:Nat) (aj:Int->Int->Sl->Int->Int->Hp->OA) (cU:Int->Hp->OA) (p:Nat) (ks:List Nat) (n:Nat) (tm:Tm) (H:Hp):OA:=bif p.beq 469 then bc.lh469 F aj cU ks n tm H else (bif p.beq 29 then bc.lh29 F aj cU ks n tm H else (none))
def bc.mk (g:Nat->Nat->Int->Hp->OA) (args:List AV) (H:Hp):OA:=match args with
 | [(.ptr aa ac),(.int .i64 af)]=>g aa ac af H
 | _=>none
def bc.cs (F:Nat) (aj:Int->Int->Sl->Int->Int->Hp->OA) (cU:Int->Hp->OA):Cs:=[(53,bT.mk aj),(55,ev.mk cU)]
theorem bc.loops (F:Nat) (aj:Int->Int->Sl->Int->Int->Hp->OA) (cU:Int->Hp->OA):LO (bh (bc.cs F aj cU)) aW (bc.lh F aj cU) F Tryz.f115:=
 (ae.rt (ae.rt (ae.lt (ae.rt (ae.block (ae.la (λn tm H r h=>by obtain ⟨d_,fm,eX,oR,qw,tU,oS,hks,e,h⟩:=bc.lh29_inv (show bc.lh29 F aj cU [] n tm H=some r from h);obtain _ | k29:=n;cases h;exact ⟨_,rfl,by rw [<- eb e];exact Eq.trans (by kernel_rfl) h⟩) λk29=>(ae.rt (ae.lt (ae.block (ae.rt (ae.block (ae.la (λn tm H r h=>by obtain ⟨fj,lH,mM,mN,mO,kZ,nv,jB,jC,hks,e,h⟩:=bc.lh469_inv (show bc.lh469 F aj cU [k29] n tm H=some r from h);cases hks;obtain _ | k469:=n;cases h;exact ⟨_,rfl,by rw [<- eb e];exact Eq.trans (by kernel_rfl) h⟩) λk469=>ae.no))))))))))))
theorem bc.eqX (F:Nat) (aj:Int->Int->Sl->Int->Int->Hp->OA) (cU:Int->Hp->OA) (aa:Nat) (ac:Nat) (af:Int) (H:Hp):EX (bh (bc.cs F aj cU)) aW (bc.lh F aj cU) F Tryz.f115 [(.ptr aa ac),(.int .i64 af)] H=bc.twX F aj cU aa ac af H:=by kernel_rfl
theorem bc.k (F:Nat):Ok Tryz.prog 115 (bc.mk (bc.tw F)):=by
 intro args H v H' h
 unfold bc.mk at h
 split at h
 ·exact okT (TB:=aW) Tryz.func115 (bg (bT.k F) (bg (ev.k F) ca)) (bc.loops F (bT.tw F) (ev.tw F)) ((bc.eqX F (bT.tw F) (ev.tw F) _ _ _ H).trans h) (by kernel_rfl)
 ·cases h
def dw.l7 (F:Nat) (aj:Int->Int->Sl->Int->Int->Hp->OA) :Nat->Int->Int->Nat->Nat->Int->Int->Hp->OA
 | 0,_,_,_,_,_,_,_=>none
 | nm+1,iK,iL,cJ,jD,iM,gK,H17=>(bif (decide (gK<iM)) then ((Hp.ldI H17 .i64 cJ jD).bind λn32=>(Hp.ldI H17 .i64 cJ (jD+1)).bind λn33=>(Hp.ldSl H17 cJ (jD+2)).bind λs34=>(aj n32 n33 s34 iK gK H17).bind λr35=>((r35.1).asP).bind λp36=>(if bp H17 r35.2 then ((Hp.ldI r35.2 .i64 cJ jD).bind λn37=>(Hp.ldI r35.2 .i64 cJ (jD+1)).bind λn38=>(Hp.ldSl r35.2 cJ (jD+2)).bind λs39=>(aj n37 n38 s39 iL gK r35.2).bind λr40=>((r40.1).asP).bind λp41=>(Hp.ldI r40.2 .i64 p41.1 p41.2).bind λn42=>(Hp.ldI r40.2 .i64 p36.1 p36.2).bind λn43=>(Hp.st r40.2 p36.1 p36.2 (.int .i64 n42)).bind λH44=>(Hp.st H44 p41.1 p41.2 (.int .i64 n43)).bind λH45=>dw.l7 F aj nm iK iL cJ jD iM (IntKind.i64.wrap (gK+1)) H45) else none)) else (some ((.tup []),H17)))
termination_by structural n=>n
def dw.twX (F:Nat) (aj:Int->Int->Sl->Int->Int->Hp->OA) (aa:Int) (ac:Int) (aI:Sl) (aw:Int) (bS:Int) (H:Hp):OA:=(Hp.new H [(.int .i64 aa),(.int .i64 ac),(.sl aI)]).bind λH6=>(Hp.ldI H6 .i64 H.length 1).bind λn7=>dw.l7 F aj F aw bS H.length 0 n7 0 H6
def dw.tw (F:Nat) (aa:Int) (ac:Int) (aI:Sl) (aw:Int) (bS:Int) (H:Hp):OA:=dw.twX F (bT.tw F) aa ac aI aw bS H
def dw.lh7 (F:Nat) (aj:Int->Int->Sl->Int->Int->Hp->OA) (ks:List Nat) (n:Nat) (tm:Tm) (H:Hp):OA:=match ks,tm 1,tm 2,tm 3,tm 10,tm 11 with
 | [],(.int .i64 iK),(.int .i64 iL),(.ptr cJ jD),(.int .i64 iM),(.int .i64 gK)=>dw.l7 F aj n iK iL cJ jD iM gK H
 | _,_,_,_,_,_=>none
theorem dw.lh7_inv {F:Nat} {aj:Int->Int->Sl->Int->Int->Hp->OA} {ks:List Nat} {n:Nat} {tm:Tm} {H:Hp} {r:AV×Hp} (h:dw.lh7 F aj ks n tm H=some r):∃ iK iL cJ jD iM gK,ks=[]/\dZ tm [(1,(.int .i64 iK)),(2,(.int .i64 iL)),(3,(.ptr cJ jD)),(10,(.int .i64 iM)),(11,(.int .i64 gK))]/\dw.l7 F aj n iK iL cJ jD iM gK H=some r:=by
 unfold dw.lh7 at h
 split at h
 ·exact ⟨_,_,_,_,_,_,rfl,⟨‹_›,‹_›,‹_›,‹_›,‹_›,trivial⟩,h⟩
 ·cases h
def dw.lh (F:Nat) (aj:Int->Int->Sl->Int->Int->Hp->OA) (p:Nat) (ks:List Nat) (n:Nat) (tm:Tm) (H:Hp):OA:=bif p.beq 7 then dw.lh7 F aj ks n tm H else (none)
def dw.pn:Nat->List Nat:=eU [(4,[7]),(5,[9,11])]
def dw.tb:Nat->List (List Nat):=eU [(4,[[],[],[],[0,1,2],[],[],[],[0,1,2,3,4,5,6],[0,1,2,3,4,5,6,7],[0,1,2,3,4,5,6,7,8]]),(5,[[],[],[],[2],[2,3],[],[5],[5,6],[0,2,3,4,5,6,7],[0,2,3,4,5,6,7,8],[0,1,2,3,4,5,6,7,8,9],[0,1,2,3,4,5,6,7,8,9,10]])]
def dw.mk (g:Int->Int->Sl->Int->Int->Hp->OA) (args:List AV) (H:Hp):OA:=match args with
 | [(.agg [(.int .i64 aa),(.int .i64 ac),(.sl aI)]),(.int .i64 aw),(.int .i64 bS)]=>g aa ac aI aw bS H
 | _=>none
def dw.cs (F:Nat) (aj:Int->Int->Sl->Int->Int->Hp->OA):Cs:=[(53,bT.mk aj)]
theorem dw.loops (F:Nat) (aj:Int->Int->Sl->Int->Int->Hp->OA):LO (bh (dw.cs F aj)) dw.pn (dw.lh F aj) F Tryz.f116:=
 (ae.rt (ae.rt (ae.block (ae.la (λn tm H r h=>by obtain ⟨iK,iL,cJ,jD,iM,gK,hks,e,h⟩:=dw.lh7_inv (show dw.lh7 F aj [] n tm H=some r from h);obtain _ | k7:=n;cases h;exact ⟨_,rfl,by rw [<- eb e];exact Eq.trans (by kernel_rfl) h⟩) λk7=>ae.no))))
theorem dw.eqX (F:Nat) (aj:Int->Int->Sl->Int->Int->Hp->OA) (aa:Int) (ac:Int) (aI:Sl) (aw:Int) (bS:Int) (H:Hp):EX (bh (dw.cs F aj)) dw.pn (dw.lh F aj) F Tryz.f116 [(.agg [(.int .i64 aa),(.int .i64 ac),(.sl aI)]),(.int .i64 aw),(.int .i64 bS)] H=dw.twX F aj aa ac aI aw bS H:=by kernel_rfl
theorem dw.k (F:Nat):Ok Tryz.prog 116 (dw.mk (dw.tw F)):=by
 intro args H v H' h
 unfold dw.mk at h
 split at h
 ·exact okT (TB:=dw.tb) Tryz.func116 (bg (bT.k F) ca) (dw.loops F (bT.tw F)) ((dw.eqX F (bT.tw F) _ _ _ _ _ H).trans h) (by kernel_rfl)
 ·cases h
def dx.l7 (F:Nat) (aj:Int->Int->Sl->Int->Int->Hp->OA) :Nat->Int->Int->Nat->Nat->Int->Int->Hp->OA
 | 0,_,_,_,_,_,_,_=>none
 | nm+1,iK,iL,cJ,jD,iM,gK,H17=>(bif (decide (gK<iM)) then ((Hp.ldI H17 .i64 cJ jD).bind λn32=>(Hp.ldI H17 .i64 cJ (jD+1)).bind λn33=>(Hp.ldSl H17 cJ (jD+2)).bind λs34=>(aj n32 n33 s34 gK iK H17).bind λr35=>((r35.1).asP).bind λp36=>(if bp H17 r35.2 then ((Hp.ldI r35.2 .i64 cJ jD).bind λn37=>(Hp.ldI r35.2 .i64 cJ (jD+1)).bind λn38=>(Hp.ldSl r35.2 cJ (jD+2)).bind λs39=>(aj n37 n38 s39 gK iL r35.2).bind λr40=>((r40.1).asP).bind λp41=>(Hp.ldI r40.2 .i64 p41.1 p41.2).bind λn42=>(Hp.ldI r40.2 .i64 p36.1 p36.2).bind λn43=>(Hp.st r40.2 p36.1 p36.2 (.int .i64 n42)).bind λH44=>(Hp.st H44 p41.1 p41.2 (.int .i64 n43)).bind λH45=>dx.l7 F aj nm iK iL cJ jD iM (IntKind.i64.wrap (gK+1)) H45) else none)) else (some ((.tup []),H17)))
termination_by structural n=>n
def dx.twX (F:Nat) (aj:Int->Int->Sl->Int->Int->Hp->OA) (aa:Int) (ac:Int) (aI:Sl) (aw:Int) (bS:Int) (H:Hp):OA:=(Hp.new H [(.int .i64 aa),(.int .i64 ac),(.sl aI)]).bind λH6=>(Hp.ldI H6 .i64 H.length 0).bind λn7=>dx.l7 F aj F aw bS H.length 0 n7 0 H6
def dx.tw (F:Nat) (aa:Int) (ac:Int) (aI:Sl) (aw:Int) (bS:Int) (H:Hp):OA:=dx.twX F (bT.tw F) aa ac aI aw bS H
def dx.lh7 (F:Nat) (aj:Int->Int->Sl->Int->Int->Hp->OA) (ks:List Nat) (n:Nat) (tm:Tm) (H:Hp):OA:=match ks,tm 1,tm 2,tm 3,tm 10,tm 11 with
 | [],(.int .i64 iK),(.int .i64 iL),(.ptr cJ jD),(.int .i64 iM),(.int .i64 gK)=>dx.l7 F aj n iK iL cJ jD iM gK H
 | _,_,_,_,_,_=>none
theorem dx.lh7_inv {F:Nat} {aj:Int->Int->Sl->Int->Int->Hp->OA} {ks:List Nat} {n:Nat} {tm:Tm} {H:Hp} {r:AV×Hp} (h:dx.lh7 F aj ks n tm H=some r):∃ iK iL cJ jD iM gK,ks=[]/\dZ tm [(1,(.int .i64 iK)),(2,(.int .i64 iL)),(3,(.ptr cJ jD)),(10,(.int .i64 iM)),(11,(.int .i64 gK))]/\dx.l7 F aj n iK iL cJ jD iM gK H=some r:=by
 unfold dx.lh7 at h
 split at h
 ·exact ⟨_,_,_,_,_,_,rfl,⟨‹_›,‹_›,‹_›,‹_›,‹_›,trivial⟩,h⟩
 ·cases h
def dx.lh (F:Nat) (aj:Int->Int->Sl->Int->Int->Hp->OA) (p:Nat) (ks:List Nat) (n:Nat) (tm:Tm) (H:Hp):OA:=bif p.beq 7 then dx.lh7 F aj ks n tm H else (none)
def dx.pn:Nat->List Nat:=eU [(4,[7]),(5,[9,11])]
def dx.tb:Nat->List (List Nat):=eU [(4,[[],[],[],[0,1,2],[],[],[],[0,1,2,3,4,5,6],[0,1,2,3,4,5,6,7],[0,1,2,3,4,5,6,7,8]]),(5,[[],[],[],[2],[2,3],[],[5],[5,6],[0,2,3,4,5,6,7],[0,2,3,4,5,6,7,8],[0,1,2,3,4,5,6,7,8,9],[0,1,2,3,4,5,6,7,8,9,10]])]
def dx.mk (g:Int->Int->Sl->Int->Int->Hp->OA) (args:List AV) (H:Hp):OA:=match args with
 | [(.agg [(.int .i64 aa),(.int .i64 ac),(.sl aI)]),(.int .i64 aw),(.int .i64 bS)]=>g aa ac aI aw bS H
 | _=>none
def dx.cs (F:Nat) (aj:Int->Int->Sl->Int->Int->Hp->OA):Cs:=[(53,bT.mk aj)]
theorem dx.loops (F:Nat) (aj:Int->Int->Sl->Int->Int->Hp->OA):LO (bh (dx.cs F aj)) dx.pn (dx.lh F aj) F Tryz.f117:=
 (ae.rt (ae.rt (ae.block (ae.la (λn tm H r h=>by obtain ⟨iK,iL,cJ,jD,iM,gK,hks,e,h⟩:=dx.lh7_inv (show dx.lh7 F aj [] n tm H=some r from h);obtain _ | k7:=n;cases h;exact ⟨_,rfl,by rw [<- eb e];exact Eq.trans (by kernel_rfl) h⟩) λk7=>ae.no))))
theorem dx.eqX (F:Nat) (aj:Int->Int->Sl->Int->Int->Hp->OA) (aa:Int) (ac:Int) (aI:Sl) (aw:Int) (bS:Int) (H:Hp):EX (bh (dx.cs F aj)) dx.pn (dx.lh F aj) F Tryz.f117 [(.agg [(.int .i64 aa),(.int .i64 ac),(.sl aI)]),(.int .i64 aw),(.int .i64 bS)] H=dx.twX F aj aa ac aI aw bS H:=by kernel_rfl
theorem dx.k (F:Nat):Ok Tryz.prog 117 (dx.mk (dx.tw F)):=by
 intro args H v H' h
 unfold dx.mk at h
 split at h
 ·exact okT (TB:=dx.tb) Tryz.func117 (bg (bT.k F) ca) (dx.loops F (bT.tw F)) ((dx.eqX F (bT.tw F) _ _ _ _ _ H).trans h) (by kernel_rfl)
 ·cases h
def fe.twX (F:Nat) (aa:Int) (ac:Int) (aI:Sl) (aw:Int) (H:Hp):OA:=(Hp.new H [(.int .i64 aa),(.int .i64 ac),(.sl aI)]).bind λH5=>(Hp.ldSl H5 H.length 2).bind λs6=>(Hp.ldI H5 .i64 H.length 1).bind λn7=>(Hp.ldI H5 .i64 H.length 1).bind λn8=>(Sl.cut s6 1 (IntKind.i64.wrap (aw * n7)) (IntKind.i64.wrap ((IntKind.i64.wrap (aw+1)) * n8))).bind λs9=>some ((.sl s9),H5)
def fe.tw (F:Nat) (aa:Int) (ac:Int) (aI:Sl) (aw:Int) (H:Hp):OA:=fe.twX F aa ac aI aw H
def fe.mk (g:Int->Int->Sl->Int->Hp->OA) (args:List AV) (H:Hp):OA:=match args with
 | [(.agg [(.int .i64 aa),(.int .i64 ac),(.sl aI)]),(.int .i64 aw)]=>g aa ac aI aw H
 | _=>none
theorem fe.eqX (F:Nat) (aa:Int) (ac:Int) (aI:Sl) (aw:Int) (H:Hp):EX (bh []) aW lh0 F Tryz.f118 [(.agg [(.int .i64 aa),(.int .i64 ac),(.sl aI)]),(.int .i64 aw)] H=fe.twX F aa ac aI aw H:=by kernel_rfl
theorem fe.k (F:Nat):Ok Tryz.prog 118 (fe.mk (fe.tw F)):=by
 intro args H v H' h
 unfold fe.mk at h
 split at h
 ·exact okT (TB:=aW) Tryz.func118 ca ae.no ((fe.eqX F _ _ _ _ H).trans h) (by kernel_rfl)
 ·cases h
def bK.l32747 (F:Nat) (fl:Nat->Nat->Int->Hp->OA) (ff:Int->Int->Sl->Int->Int->Hp->OA) (fg:Int->Int->Sl->Int->Int->Hp->OA) (aj:Int->Int->Sl->Int->Int->Hp->OA) (cD:Int->Int->Sl->Int->Hp->OA) :Nat->Nat->Nat->Int->Int->Int->Hp->OA
 | 0,_,_,_,_,_,_=>none
 | Zy+1,pX,pY,nS,oT,mP,H159=>(bif (decide (mP<oT)) then ((Hp.ldI H159 .i64 pX (pY+3)).bind λn172=>(Hp.ldI H159 .i64 pX ((pY+3)+1)).bind λn173=>(Hp.ldSl H159 pX ((pY+3)+2)).bind λs174=>(aj n172 n173 s174 mP nS H159).bind λr175=>((r175.1).asP).bind λp176=>(if bp H159 r175.2 then ((Hp.ldI r175.2 .i64 pX (pY+3)).bind λn177=>(Hp.ldI r175.2 .i64 pX ((pY+3)+1)).bind λn178=>(Hp.ldSl r175.2 pX ((pY+3)+2)).bind λs179=>(aj n177 n178 s179 mP nS r175.2).bind λr180=>((r180.1).asP).bind λp181=>(Hp.ldI r180.2 .i64 p181.1 p181.2).bind λn182=>(Hp.st r180.2 p176.1 p176.2 (.int .i64 (IntKind.i64.wrap (0 - n182)))).bind λH183=>bK.l32747 F fl ff fg aj cD Zy pX pY nS oT (IntKind.i64.wrap (mP+1)) H183) else none)) else (some ((.bool true),H159)))
termination_by structural n=>n
def bK.j3 (F:Nat) (fl:Nat->Nat->Int->Hp->OA) (ff:Int->Int->Sl->Int->Int->Hp->OA) (fg:Int->Int->Sl->Int->Int->Hp->OA) (aj:Int->Int->Sl->Int->Int->Hp->OA) (cD:Int->Int->Sl->Int->Hp->OA) (PO:Nat) (PP:Nat) (yY:Int) (H142:Hp):OA:=(Hp.ldI H142 .i64 PO (PP+3)).bind λn143=>bK.l32747 F fl ff fg aj cD F PO PP yY n143 0 H142
def bK.j4 (F:Nat) (fl:Nat->Nat->Int->Hp->OA) (ff:Int->Int->Sl->Int->Int->Hp->OA) (fg:Int->Int->Sl->Int->Int->Hp->OA) (aj:Int->Int->Sl->Int->Int->Hp->OA) (cD:Int->Int->Sl->Int->Hp->OA) (C32745_:Nat->Nat->Int->Sl->Int->Int->Hp->OA) (Zz:Nat) (ZA:Nat) (ZB:Int) (ZC:Sl) (ZD:Int) (ZE:Int) (H242:Hp):OA:=C32745_ Zz ZA ZB ZC ZD (IntKind.i64.wrap (ZE+1)) H242
def bK.j5 (F:Nat) (fl:Nat->Nat->Int->Hp->OA) (ff:Int->Int->Sl->Int->Int->Hp->OA) (fg:Int->Int->Sl->Int->Int->Hp->OA) (aj:Int->Int->Sl->Int->Int->Hp->OA) (cD:Int->Int->Sl->Int->Hp->OA) (C32745_:Nat->Nat->Int->Sl->Int->Int->Hp->OA) (ZF:Nat) (ZG:Nat) (ZH:Int) (ZI:Sl) (ZJ:Int) (ZK:Int) (H224:Hp):OA:=bK.j4 F fl ff fg aj cD C32745_ ZF ZG ZH ZI ZJ ZK H224
def bK.l2095707 (F:Nat) (fl:Nat->Nat->Int->Hp->OA) (ff:Int->Int->Sl->Int->Int->Hp->OA) (fg:Int->Int->Sl->Int->Int->Hp->OA) (aj:Int->Int->Sl->Int->Int->Hp->OA) (cD:Int->Int->Sl->Int->Hp->OA) (C32745_:Nat->Nat->Int->Sl->Int->Int->Hp->OA):Nat->Nat->Nat->Int->Sl->Int->Int->Sl->Int->Int->Hp->OA
 | 0,_,_,_,_,_,_,_,_,_,_=>none
 | ZL+1,tV,tW,tX,tY,tZ,t_,sE,ua,rK,H202=>(bif (decide (rK<ua)) then ((Sl.idx sE rK 1).bind λp243=>(Hp.ldI H202 .i64 p243.1 p243.2).bind λn244=>(Sl.idx sE rK 1).bind λp245=>(Hp.st H202 p245.1 p245.2 (.int .i64 (IntKind.i64.wrap (0 - n244)))).bind λH246=>bK.l2095707 F fl ff fg aj cD C32745_ ZL tV tW tX tY tZ t_ sE ua (IntKind.i64.wrap (rK+1)) H246) else (bK.j5 F fl ff fg aj cD C32745_ tV tW tX tY tZ t_ H202))
termination_by structural n=>n
def bK.l32745 (F:Nat) (fl:Nat->Nat->Int->Hp->OA) (ff:Int->Int->Sl->Int->Int->Hp->OA) (fg:Int->Int->Sl->Int->Int->Hp->OA) (aj:Int->Int->Sl->Int->Int->Hp->OA) (cD:Int->Int->Sl->Int->Hp->OA) :Nat->Nat->Nat->Int->Sl->Int->Int->Hp->OA
 | 0,_,_,_,_,_,_,_=>none
 | vl+1,mQ,mR,iy,ub,uc,sF,H65=>(bif (decide (sF<uc)) then ((Sl.idx ub sF 1).bind λp184=>(Hp.ldSl H65 p184.1 p184.2).bind λs185=>bK.l2095707 F fl ff fg aj cD (bK.l32745 F fl ff fg aj cD vl) F mQ mR iy ub uc sF s185 (s185.n:Int) 0 H65) else (bK.j3 F fl ff fg aj cD mQ mR iy H65))
termination_by structural n=>n
def bK.twX (F:Nat) (fl:Nat->Nat->Int->Hp->OA) (ff:Int->Int->Sl->Int->Int->Hp->OA) (fg:Int->Int->Sl->Int->Int->Hp->OA) (aj:Int->Int->Sl->Int->Int->Hp->OA) (cD:Int->Int->Sl->Int->Hp->OA) (aa:Nat) (ac:Nat) (af:Int) (H:Hp):OA:=(fl aa ac af H).bind λr4=>((r4.1).asTup 3).bind λl5=>(l5[0]?).bind λv6=>((v6).asI .i64).bind λn7=>(l5[1]?).bind λv8=>((v8).asI .i64).bind λn9=>(l5[2]?).bind λv10=>((v10).asB).bind λb11=>(bif (!b11) then (some ((.bool false),r4.2)) else ((Hp.ldI r4.2 .i64 aa (ac+6)).bind λn12=>(Hp.ldI r4.2 .i64 aa ((ac+6)+1)).bind λn13=>(Hp.ldSl r4.2 aa ((ac+6)+2)).bind λs14=>(ff n12 n13 s14 n7 af r4.2).bind λr15=>(Hp.ldI r15.2 .i64 aa ac).bind λn16=>(Hp.ldI r15.2 .i64 aa (ac+1)).bind λn17=>(Hp.ldSl r15.2 aa (ac+2)).bind λs18=>(ff n16 n17 s18 n7 af r15.2).bind λr19=>(Hp.ldI r19.2 .i64 aa (ac+3)).bind λn20=>(Hp.ldI r19.2 .i64 aa ((ac+3)+1)).bind λn21=>(Hp.ldSl r19.2 aa ((ac+3)+2)).bind λs22=>(fg n20 n21 s22 n7 af r19.2).bind λr23=>(Hp.ldI r23.2 .i64 aa (ac+6)).bind λn24=>(Hp.ldI r23.2 .i64 aa ((ac+6)+1)).bind λn25=>(Hp.ldSl r23.2 aa ((ac+6)+2)).bind λs26=>(fg n24 n25 s26 n9 af r23.2).bind λr27=>(Hp.ldI r27.2 .i64 aa (ac+9)).bind λn28=>(Hp.ldI r27.2 .i64 aa ((ac+9)+1)).bind λn29=>(Hp.ldSl r27.2 aa ((ac+9)+2)).bind λs30=>(fg n28 n29 s30 n9 af r27.2).bind λr31=>(Hp.ldI r31.2 .i64 aa (ac+12)).bind λn32=>(Hp.ldI r31.2 .i64 aa ((ac+12)+1)).bind λn33=>(Hp.ldSl r31.2 aa ((ac+12)+2)).bind λs34=>(ff n32 n33 s34 n9 af r31.2).bind λr35=>(Hp.ldI r35.2 .i64 aa (ac+6)).bind λn36=>(Hp.ldI r35.2 .i64 aa ((ac+6)+1)).bind λn37=>(Hp.ldSl r35.2 aa ((ac+6)+2)).bind λs38=>(aj n36 n37 s38 af af r35.2).bind λr39=>((r39.1).asP).bind λp40=>(Hp.ldI r39.2 .i64 p40.1 p40.2).bind λn41=>(bif (decide (n41<0)) then ((Hp.ldI r39.2 .i64 aa (ac+6)).bind λn42=>(Hp.ldI r39.2 .i64 aa ((ac+6)+1)).bind λn43=>(Hp.ldSl r39.2 aa ((ac+6)+2)).bind λs44=>(cD n42 n43 s44 af r39.2).bind λr45=>((r45.1).asSl).bind λs46=>(if bp r39.2 r45.2 then ((Hp.ldI r45.2 .i64 aa ac).bind λn47=>(Hp.ldI r45.2 .i64 aa (ac+1)).bind λn48=>(Hp.ldSl r45.2 aa (ac+2)).bind λs49=>(cD n47 n48 s49 af r45.2).bind λr50=>((r50.1).asSl).bind λs51=>(Hp.new r50.2 [(.sl s46),(.sl s51)]).bind λH52=>bK.l32745 F fl ff fg aj cD F aa ac af (⟨some (r50.2.length,0),2,.ex 2⟩:Sl) ((⟨some (r50.2.length,0),2,.ex 2⟩:Sl).n:Int) 0 H52) else none)) else (some ((.bool true),r39.2)))))
def bK.tw (F:Nat) (aa:Nat) (ac:Nat) (af:Int) (H:Hp):OA:=bK.twX F (bc.tw F) (dw.tw F) (dx.tw F) (bT.tw F) (fe.tw F) aa ac af H
def bK.lh32745 (F:Nat) (fl:Nat->Nat->Int->Hp->OA) (ff:Int->Int->Sl->Int->Int->Hp->OA) (fg:Int->Int->Sl->Int->Int->Hp->OA) (aj:Int->Int->Sl->Int->Int->Hp->OA) (cD:Int->Int->Sl->Int->Hp->OA) (ks:List Nat) (n:Nat) (tm:Tm) (H:Hp):OA:=match ks,tm 0,tm 1,tm 94,tm 95,tm 96 with
 | [],(.ptr mQ mR),(.int .i64 iy),(.sl ub),(.int .i64 uc),(.int .i64 sF)=>bK.l32745 F fl ff fg aj cD n mQ mR iy ub uc sF H
 | _,_,_,_,_,_=>none
theorem bK.lh32745_inv {F:Nat} {fl:Nat->Nat->Int->Hp->OA} {ff:Int->Int->Sl->Int->Int->Hp->OA} {fg:Int->Int->Sl->Int->Int->Hp->OA} {aj:Int->Int->Sl->Int->Int->Hp->OA} {cD:Int->Int->Sl->Int->Hp->OA} {ks:List Nat} {n:Nat} {tm:Tm} {H:Hp} {r:AV×Hp} (h:bK.lh32745 F fl ff fg aj cD ks n tm H=some r):∃ mQ mR iy ub uc sF,ks=[]/\dZ tm [(0,(.ptr mQ mR)),(1,(.int .i64 iy)),(94,(.sl ub)),(95,(.int .i64 uc)),(96,(.int .i64 sF))]/\bK.l32745 F fl ff fg aj cD n mQ mR iy ub uc sF H=some r:=by
 unfold bK.lh32745 at h
 split at h
 ·exact ⟨_,_,_,_,_,_,rfl,⟨‹_›,‹_›,‹_›,‹_›,‹_›,trivial⟩,h⟩
 ·cases h
def bK.lh32747 (F:Nat) (fl:Nat->Nat->Int->Hp->OA) (ff:Int->Int->Sl->Int->Int->Hp->OA) (fg:Int->Int->Sl->Int->Int->Hp->OA) (aj:Int->Int->Sl->Int->Int->Hp->OA) (cD:Int->Int->Sl->Int->Hp->OA) (ks:List Nat) (n:Nat) (tm:Tm) (H:Hp):OA:=match ks,tm 0,tm 1,tm 120,tm 121 with
 | [],(.ptr pX pY),(.int .i64 nS),(.int .i64 oT),(.int .i64 mP)=>bK.l32747 F fl ff fg aj cD n pX pY nS oT mP H
 | _,_,_,_,_=>none
theorem bK.lh32747_inv {F:Nat} {fl:Nat->Nat->Int->Hp->OA} {ff:Int->Int->Sl->Int->Int->Hp->OA} {fg:Int->Int->Sl->Int->Int->Hp->OA} {aj:Int->Int->Sl->Int->Int->Hp->OA} {cD:Int->Int->Sl->Int->Hp->OA} {ks:List Nat} {n:Nat} {tm:Tm} {H:Hp} {r:AV×Hp} (h:bK.lh32747 F fl ff fg aj cD ks n tm H=some r):∃ pX pY nS oT mP,ks=[]/\dZ tm [(0,(.ptr pX pY)),(1,(.int .i64 nS)),(120,(.int .i64 oT)),(121,(.int .i64 mP))]/\bK.l32747 F fl ff fg aj cD n pX pY nS oT mP H=some r:=by
 unfold bK.lh32747 at h
 split at h
 ·exact ⟨_,_,_,_,_,rfl,⟨‹_›,‹_›,‹_›,‹_›,trivial⟩,h⟩
 ·cases h
def bK.lh2095707 (F:Nat) (fl:Nat->Nat->Int->Hp->OA) (ff:Int->Int->Sl->Int->Int->Hp->OA) (fg:Int->Int->Sl->Int->Int->Hp->OA) (aj:Int->Int->Sl->Int->Int->Hp->OA) (cD:Int->Int->Sl->Int->Hp->OA) (ks:List Nat) (n:Nat) (tm:Tm) (H:Hp):OA:=match ks,tm 0,tm 1,tm 9,tm 94,tm 95,tm 96,tm 101,tm 102 with
 | [vl],(.ptr tV tW),(.int .i64 tX),(.sl sE),(.sl tY),(.int .i64 tZ),(.int .i64 t_),(.int .i64 ua),(.int .i64 rK)=>bK.l2095707 F fl ff fg aj cD (bK.l32745 F fl ff fg aj cD vl) n tV tW tX tY tZ t_ sE ua rK H
 | _,_,_,_,_,_,_,_,_=>none
theorem bK.lh2095707_inv {F:Nat} {fl:Nat->Nat->Int->Hp->OA} {ff:Int->Int->Sl->Int->Int->Hp->OA} {fg:Int->Int->Sl->Int->Int->Hp->OA} {aj:Int->Int->Sl->Int->Int->Hp->OA} {cD:Int->Int->Sl->Int->Hp->OA} {ks:List Nat} {n:Nat} {tm:Tm} {H:Hp} {r:AV×Hp} (h:bK.lh2095707 F fl ff fg aj cD ks n tm H=some r):∃ vl tV tW tX sE tY tZ t_ ua rK,ks=[vl]/\dZ tm [(0,(.ptr tV tW)),(1,(.int .i64 tX)),(9,(.sl sE)),(94,(.sl tY)),(95,(.int .i64 tZ)),(96,(.int .i64 t_)),(101,(.int .i64 ua)),(102,(.int .i64 rK))]/\bK.l2095707 F fl ff fg aj cD (bK.l32745 F fl ff fg aj cD vl) n tV tW tX tY tZ t_ sE ua rK H=some r:=by
 unfold bK.lh2095707 at h
 split at h
 ·exact ⟨_,_,_,_,_,_,_,_,_,_,rfl,⟨‹_›,‹_›,‹_›,‹_›,‹_›,‹_›,‹_›,‹_›,trivial⟩,h⟩
 ·cases h
def bK.lh (F:Nat) (fl:Nat->Nat->Int->Hp->OA) (ff:Int->Int->Sl->Int->Int->Hp->OA) (fg:Int->Int->Sl->Int->Int->Hp->OA) (aj:Int->Int->Sl->Int->Int->Hp->OA) (cD:Int->Int->Sl->Int->Hp->OA) (p:Nat) (ks:List Nat) (n:Nat) (tm:Tm) (H:Hp):OA:=bif p.beq 2095707 then bK.lh2095707 F fl ff fg aj cD ks n tm H else (bif p.beq 32747 then bK.lh32747 F fl ff fg aj cD ks n tm H else (bif p.beq 32745 then bK.lh32745 F fl ff fg aj cD ks n tm H else (none)))
def bK.pn:Nat->List Nat:=eU [(11,[13]),(23,[15,20])]
def bK.tb:Nat->List (List Nat):=eU [(11,[[],[0],[0,1],[0,1,2],[0,1,2,3],[],[0,1,2,3,4,5],[],[7],[7,8],[7,8,9],[7,8,9,10],[],[0,1,2,3,4,5,6,7,8,9,10,11,12],[0,1,2,3,4,5,6,7,8,9,10,11,12,13],[0,1,2,3,4,5,6,7,8,9,10,11,12,13,14],[]]),(23,[[],[0],[0,1],[0,1,2],[0,1,2,3],[],[],[0,1,2,3,4,5,6],[],[8],[8,9],[8,9,10],[8,9,10,11],[],[],[0,1,2,3,4,5,6,7,8,9,10,11,12,13,14],[0,1,2,3,4,5,6,7,8,9,10,11,12,13,14,15],[0,1,2,3,4,5,6,7,8,9,10,11,12,13,14,15,16],[0,1,2,3,4,5,6,7,8,9,10,11,12,13,14,15,16,17],[0,1,2,3,4,5,6,7,8,9,10,11,12,13,14,15,16,17,18],[0,1,2,3,4,5,6,7,8,9,10,11,12,13,14,15,16,17,18,19]])]
def bK.mk (g:Nat->Nat->Int->Hp->OA) (args:List AV) (H:Hp):OA:=match args with
 | [(.ptr aa ac),(.int .i64 af)]=>g aa ac af H
 | _=>none
def bK.cs (F:Nat) (fl:Nat->Nat->Int->Hp->OA) (ff:Int->Int->Sl->Int->Int->Hp->OA) (fg:Int->Int->Sl->Int->Int->Hp->OA) (aj:Int->Int->Sl->Int->Int->Hp->OA) (cD:Int->Int->Sl->Int->Hp->OA):Cs:=[(115,bc.mk fl),(116,dw.mk ff),(117,dx.mk fg),(53,bT.mk aj),(118,fe.mk cD)]
theorem bK.loops (F:Nat) (fl:Nat->Nat->Int->Hp->OA) (ff:Int->Int->Sl->Int->Int->Hp->OA) (fg:Int->Int->Sl->Int->Int->Hp->OA) (aj:Int->Int->Sl->Int->Int->Hp->OA) (cD:Int->Int->Sl->Int->Hp->OA):LO (bh (bK.cs F fl ff fg aj cD)) bK.pn (bK.lh F fl ff fg aj cD) F Tryz.f98:=
 (ae.rt (ae.rt (ae.rt (ae.rt (ae.rt (ae.rt (ae.rt (ae.rt (ae.rt (ae.lt (ae.rt (ae.cond (ae.seq (ae.rt (ae.block (ae.la (λn tm H r h=>by obtain ⟨mQ,mR,iy,ub,uc,sF,hks,e,h⟩:=bK.lh32745_inv (show bK.lh32745 F fl ff fg aj cD [] n tm H=some r from h);obtain _ | k32745:=n;cases h;exact ⟨_,rfl,by rw [<- eb e];exact Eq.trans (by kernel_rfl) h⟩) λk32745=>(ae.rt (ae.rt (ae.lt (ae.block (ae.rt (ae.rt (ae.block (ae.la (λn tm H r h=>by obtain ⟨vl,tV,tW,tX,sE,tY,tZ,t_,ua,rK,hks,e,h⟩:=bK.lh2095707_inv (show bK.lh2095707 F fl ff fg aj cD [k32745] n tm H=some r from h);cases hks;obtain _ | k2095707:=n;cases h;exact ⟨_,rfl,by rw [<- eb e];exact Eq.trans (by kernel_rfl) h⟩) λk2095707=>ae.no))))))))))) (ae.rt (ae.block (ae.la (λn tm H r h=>by obtain ⟨pX,pY,nS,oT,mP,hks,e,h⟩:=bK.lh32747_inv (show bK.lh32747 F fl ff fg aj cD [] n tm H=some r from h);obtain _ | k32747:=n;cases h;exact ⟨_,rfl,by rw [<- eb e];exact Eq.trans (by kernel_rfl) h⟩) λk32747=>ae.no)))) ae.no))))))))))))
theorem bK.eqX (F:Nat) (fl:Nat->Nat->Int->Hp->OA) (ff:Int->Int->Sl->Int->Int->Hp->OA) (fg:Int->Int->Sl->Int->Int->Hp->OA) (aj:Int->Int->Sl->Int->Int->Hp->OA) (cD:Int->Int->Sl->Int->Hp->OA) (aa:Nat) (ac:Nat) (af:Int) (H:Hp):EX (bh (bK.cs F fl ff fg aj cD)) bK.pn (bK.lh F fl ff fg aj cD) F Tryz.f98 [(.ptr aa ac),(.int .i64 af)] H=bK.twX F fl ff fg aj cD aa ac af H:=by kernel_rfl
theorem bK.k (F:Nat):Ok Tryz.prog 98 (bK.mk (bK.tw F)):=by
 intro args H v H' h
 unfold bK.mk at h
 split at h
 ·exact okT (TB:=bK.tb) Tryz.func98 (bg (bc.k F) (bg (dw.k F) (bg (dx.k F) (bg (bT.k F) (bg (fe.k F) ca))))) (bK.loops F (bc.tw F) (dw.tw F) (dx.tw F) (bT.tw F) (fe.tw F)) ((bK.eqX F (bc.tw F) (dw.tw F) (dx.tw F) (bT.tw F) (fe.tw F) _ _ _ H).trans h) (by kernel_rfl)
 ·cases h
def ib.twX (F:Nat) (aa:Int) (ai:Int) (H:Hp):OA:=(if ai=0 then none else ((if ai=0 then none else ((bif (decide ((Int.tmod aa ai)<0)) then (some ((.int .i64 (IntKind.i64.wrap ((IntKind.i64.wrap (Int.tdiv aa ai)) - 1))),H)) else (some ((.int .i64 (IntKind.i64.wrap (Int.tdiv aa ai))),H)))))))
def ib.tw (F:Nat) (aa:Int) (ai:Int) (H:Hp):OA:=ib.twX F aa ai H
def ib.mk (g:Int->Int->Hp->OA) (args:List AV) (H:Hp):OA:=match args with
 | [(.int .i64 aa),(.int .i64 ai)]=>g aa ai H
 | _=>none
theorem ib.eqX (F:Nat) (aa:Int) (ai:Int) (H:Hp):EX (bh []) aW lh0 F Tryz.f119 [(.int .i64 aa),(.int .i64 ai)] H=ib.twX F aa ai H:=by kernel_rfl
theorem ib.k (F:Nat):Ok Tryz.prog 119 (ib.mk (ib.tw F)):=by
 intro args H v H' h
 unfold ib.mk at h
 split at h
 ·exact okT (TB:=aW) Tryz.func119 ca ae.no ((ib.eqX F _ _ H).trans h) (by kernel_rfl)
 ·cases h
def fN.twX (F:Nat) (cU:Int->Hp->OA) (aa:Int) (ai:Int) (cV:Int) (H:Hp):OA:=(bif (aa != 0) then ((cU ai H).bind λr4=>((r4.1).asI .i64).bind λn5=>(cU aa r4.2).bind λr6=>((r6.1).asI .i64).bind λn7=>(if n7=0 then none else ((bif (decide (n5>(IntKind.i64.wrap (Int.tdiv cV n7)))) then (some ((.tup [(.int .i64 0),(.bool false)]),r6.2)) else (some ((.tup [(.int .i64 (IntKind.i64.wrap (aa * ai))),(.bool true)]),r6.2)))))) else (some ((.tup [(.int .i64 (IntKind.i64.wrap (aa * ai))),(.bool true)]),H)))
def fN.tw (F:Nat) (aa:Int) (ai:Int) (cV:Int) (H:Hp):OA:=fN.twX F (ev.tw F) aa ai cV H
def fN.mk (g:Int->Int->Int->Hp->OA) (args:List AV) (H:Hp):OA:=match args with
 | [(.int .i64 aa),(.int .i64 ai),(.int .i64 cV)]=>g aa ai cV H
 | _=>none
def fN.cs (F:Nat) (cU:Int->Hp->OA):Cs:=[(55,ev.mk cU)]
theorem fN.eqX (F:Nat) (cU:Int->Hp->OA) (aa:Int) (ai:Int) (cV:Int) (H:Hp):EX (bh (fN.cs F cU)) aW lh0 F Tryz.f29 [(.int .i64 aa),(.int .i64 ai),(.int .i64 cV)] H=fN.twX F cU aa ai cV H:=by kernel_rfl
theorem fN.k (F:Nat):Ok Tryz.prog 29 (fN.mk (fN.tw F)):=by
 intro args H v H' h
 unfold fN.mk at h
 split at h
 ·exact okT (TB:=aW) Tryz.func29 (bg (ev.k F) ca) ae.no ((fN.eqX F (ev.tw F) _ _ _ H).trans h) (by kernel_rfl)
 ·cases h
def gZ.twX (F:Nat) (iz:Int->Int->Int->Hp->OA) (cU:Int->Hp->OA) (aa:Nat) (ac:Nat) (af:Nat) (aw:Nat) (bS:Int) (ol:Int) (H:Hp):OA:=(iz bS ol 2000000000000 H).bind λr7=>((r7.1).asTup 2).bind λl8=>(l8[0]?).bind λv9=>((v9).asI .i64).bind λn10=>(l8[1]?).bind λv11=>((v11).asB).bind λb12=>(Hp.ldI r7.2 .i64 af aw).bind λn13=>(Hp.st r7.2 af aw (.int .i64 (IntKind.i64.wrap (n13+n10)))).bind λH14=>(bif (!b12) then ((Hp.st H14 aa (ac+15) (.bool true)).bind λH15=>(Hp.st H15 af aw (.int .i64 0)).bind λH16=>some ((.tup []),H16)) else ((Hp.ldI H14 .i64 af aw).bind λn17=>(cU n17 H14).bind λr18=>((r18.1).asI .i64).bind λn19=>(bif (decide (n19>1000000000000)) then ((Hp.st r18.2 aa (ac+15) (.bool true)).bind λH20=>(Hp.st H20 af aw (.int .i64 0)).bind λH21=>some ((.tup []),H21)) else (some ((.tup []),r18.2)))))
def gZ.tw (F:Nat) (aa:Nat) (ac:Nat) (af:Nat) (aw:Nat) (bS:Int) (ol:Int) (H:Hp):OA:=gZ.twX F (fN.tw F) (ev.tw F) aa ac af aw bS ol H
def gZ.mk (g:Nat->Nat->Nat->Nat->Int->Int->Hp->OA) (args:List AV) (H:Hp):OA:=match args with
 | [(.ptr aa ac),(.ptr af aw),(.int .i64 bS),(.int .i64 ol)]=>g aa ac af aw bS ol H
 | _=>none
def gZ.cs (F:Nat) (iz:Int->Int->Int->Hp->OA) (cU:Int->Hp->OA):Cs:=[(29,fN.mk iz),(55,ev.mk cU)]
theorem gZ.eqX (F:Nat) (iz:Int->Int->Int->Hp->OA) (cU:Int->Hp->OA) (aa:Nat) (ac:Nat) (af:Nat) (aw:Nat) (bS:Int) (ol:Int) (H:Hp):EX (bh (gZ.cs F iz cU)) aW lh0 F Tryz.f129 [(.ptr aa ac),(.ptr af aw),(.int .i64 bS),(.int .i64 ol)] H=gZ.twX F iz cU aa ac af aw bS ol H:=by kernel_rfl
theorem gZ.k (F:Nat):Ok Tryz.prog 129 (gZ.mk (gZ.tw F)):=by
 intro args H v H' h
 unfold gZ.mk at h
 split at h
 ·exact okT (TB:=aW) Tryz.func129 (bg (fN.k F) (bg (ev.k F) ca)) ae.no ((gZ.eqX F (fN.tw F) (ev.tw F) _ _ _ _ _ _ H).trans h) (by kernel_rfl)
 ·cases h
def du.l7 (F:Nat) (aj:Int->Int->Sl->Int->Int->Hp->OA) (fY:Nat->Nat->Nat->Nat->Int->Int->Hp->OA) :Nat->Nat->Nat->Int->Int->Int->Nat->Nat->Int->Int->Hp->OA
 | 0,_,_,_,_,_,_,_,_,_,_=>none
 | nm+1,fi,iY,dR,fO,eY,dq,jE,ic,fZ,H23=>(bif (decide (fZ<ic)) then ((Hp.ldI H23 .i64 dq jE).bind λn36=>(Hp.ldI H23 .i64 dq (jE+1)).bind λn37=>(Hp.ldSl H23 dq (jE+2)).bind λs38=>(aj n36 n37 s38 dR fZ H23).bind λr39=>((r39.1).asP).bind λp40=>(if bp H23 r39.2 then ((Hp.ldI r39.2 .i64 dq jE).bind λn41=>(Hp.ldI r39.2 .i64 dq (jE+1)).bind λn42=>(Hp.ldSl r39.2 dq (jE+2)).bind λs43=>(aj n41 n42 s43 fO fZ r39.2).bind λr44=>((r44.1).asP).bind λp45=>(Hp.ldI r44.2 .i64 p45.1 p45.2).bind λn46=>(fY fi iY p40.1 p40.2 n46 eY r44.2).bind λr47=>du.l7 F aj fY nm fi iY dR fO eY dq jE ic (IntKind.i64.wrap (fZ+1)) r47.2) else none)) else (some ((.tup []),H23)))
termination_by structural n=>n
def du.twX (F:Nat) (aj:Int->Int->Sl->Int->Int->Hp->OA) (fY:Nat->Nat->Nat->Nat->Int->Int->Hp->OA) (aa:Nat) (ac:Nat) (af:Int) (aw:Int) (dS:Sl) (cP:Int) (ef:Int) (dU:Int) (H:Hp):OA:=(Hp.new H [(.int .i64 af),(.int .i64 aw),(.sl dS)]).bind λH9=>(Hp.ldI H9 .i64 H.length 1).bind λn10=>du.l7 F aj fY F aa ac cP ef dU H.length 0 n10 0 H9
def du.tw (F:Nat) (aa:Nat) (ac:Nat) (af:Int) (aw:Int) (dS:Sl) (cP:Int) (ef:Int) (dU:Int) (H:Hp):OA:=du.twX F (bT.tw F) (gZ.tw F) aa ac af aw dS cP ef dU H
def du.lh7 (F:Nat) (aj:Int->Int->Sl->Int->Int->Hp->OA) (fY:Nat->Nat->Nat->Nat->Int->Int->Hp->OA) (ks:List Nat) (n:Nat) (tm:Tm) (H:Hp):OA:=match ks,tm 0,tm 2,tm 3,tm 4,tm 6,tm 12,tm 13 with
 | [],(.ptr fi iY),(.int .i64 dR),(.int .i64 fO),(.int .i64 eY),(.ptr dq jE),(.int .i64 ic),(.int .i64 fZ)=>du.l7 F aj fY n fi iY dR fO eY dq jE ic fZ H
 | _,_,_,_,_,_,_,_=>none
theorem du.lh7_inv {F:Nat} {aj:Int->Int->Sl->Int->Int->Hp->OA} {fY:Nat->Nat->Nat->Nat->Int->Int->Hp->OA} {ks:List Nat} {n:Nat} {tm:Tm} {H:Hp} {r:AV×Hp} (h:du.lh7 F aj fY ks n tm H=some r):∃ fi iY dR fO eY dq jE ic fZ,ks=[]/\dZ tm [(0,(.ptr fi iY)),(2,(.int .i64 dR)),(3,(.int .i64 fO)),(4,(.int .i64 eY)),(6,(.ptr dq jE)),(12,(.int .i64 ic)),(13,(.int .i64 fZ))]/\du.l7 F aj fY n fi iY dR fO eY dq jE ic fZ H=some r:=by
 unfold du.lh7 at h
 split at h
 ·exact ⟨_,_,_,_,_,_,_,_,_,rfl,⟨‹_›,‹_›,‹_›,‹_›,‹_›,‹_›,‹_›,trivial⟩,h⟩
 ·cases h
def du.lh (F:Nat) (aj:Int->Int->Sl->Int->Int->Hp->OA) (fY:Nat->Nat->Nat->Nat->Int->Int->Hp->OA) (p:Nat) (ks:List Nat) (n:Nat) (tm:Tm) (H:Hp):OA:=bif p.beq 7 then du.lh7 F aj fY ks n tm H else (none)
def du.pn:Nat->List Nat:=eU [(4,[8,12])]
def du.tb:Nat->List (List Nat):=eU [(4,[[],[],[],[],[1,2,3],[],[],[],[1,2,3,4,5,6,7],[1,2,3,4,5,6,7,8],[1,2,3,4,5,6,7,8,9],[],[0,1,2,3,4,5,6,7,8,9,10,11]])]
def du.mk (g:Nat->Nat->Int->Int->Sl->Int->Int->Int->Hp->OA) (args:List AV) (H:Hp):OA:=match args with
 | [(.ptr aa ac),(.agg [(.int .i64 af),(.int .i64 aw),(.sl dS)]),(.int .i64 cP),(.int .i64 ef),(.int .i64 dU)]=>g aa ac af aw dS cP ef dU H
 | _=>none
def du.cs (F:Nat) (aj:Int->Int->Sl->Int->Int->Hp->OA) (fY:Nat->Nat->Nat->Nat->Int->Int->Hp->OA):Cs:=[(53,bT.mk aj),(129,gZ.mk fY)]
theorem du.loops (F:Nat) (aj:Int->Int->Sl->Int->Int->Hp->OA) (fY:Nat->Nat->Nat->Nat->Int->Int->Hp->OA):LO (bh (du.cs F aj fY)) du.pn (du.lh F aj fY) F Tryz.f123:=
 (ae.rt (ae.rt (ae.block (ae.la (λn tm H r h=>by obtain ⟨fi,iY,dR,fO,eY,dq,jE,ic,fZ,hks,e,h⟩:=du.lh7_inv (show du.lh7 F aj fY [] n tm H=some r from h);obtain _ | k7:=n;cases h;exact ⟨_,rfl,by rw [<- eb e];exact Eq.trans (by kernel_rfl) h⟩) λk7=>ae.no))))
theorem du.eqX (F:Nat) (aj:Int->Int->Sl->Int->Int->Hp->OA) (fY:Nat->Nat->Nat->Nat->Int->Int->Hp->OA) (aa:Nat) (ac:Nat) (af:Int) (aw:Int) (dS:Sl) (cP:Int) (ef:Int) (dU:Int) (H:Hp):EX (bh (du.cs F aj fY)) du.pn (du.lh F aj fY) F Tryz.f123 [(.ptr aa ac),(.agg [(.int .i64 af),(.int .i64 aw),(.sl dS)]),(.int .i64 cP),(.int .i64 ef),(.int .i64 dU)] H=du.twX F aj fY aa ac af aw dS cP ef dU H:=by kernel_rfl
theorem du.k (F:Nat):Ok Tryz.prog 123 (du.mk (du.tw F)):=by
 intro args H v H' h
 unfold du.mk at h
 split at h
 ·exact okT (TB:=du.tb) Tryz.func123 (bg (bT.k F) (bg (gZ.k F) ca)) (du.loops F (bT.tw F) (gZ.tw F)) ((du.eqX F (bT.tw F) (gZ.tw F) _ _ _ _ _ _ _ _ H).trans h) (by kernel_rfl)
 ·cases h
def dv.l7 (F:Nat) (aj:Int->Int->Sl->Int->Int->Hp->OA) (fY:Nat->Nat->Nat->Nat->Int->Int->Hp->OA) :Nat->Nat->Nat->Int->Int->Int->Nat->Nat->Int->Int->Hp->OA
 | 0,_,_,_,_,_,_,_,_,_,_=>none
 | nm+1,fi,iY,dR,fO,eY,dq,jE,ic,fZ,H23=>(bif (decide (fZ<ic)) then ((Hp.ldI H23 .i64 dq jE).bind λn36=>(Hp.ldI H23 .i64 dq (jE+1)).bind λn37=>(Hp.ldSl H23 dq (jE+2)).bind λs38=>(aj n36 n37 s38 fZ dR H23).bind λr39=>((r39.1).asP).bind λp40=>(if bp H23 r39.2 then ((Hp.ldI r39.2 .i64 dq jE).bind λn41=>(Hp.ldI r39.2 .i64 dq (jE+1)).bind λn42=>(Hp.ldSl r39.2 dq (jE+2)).bind λs43=>(aj n41 n42 s43 fZ fO r39.2).bind λr44=>((r44.1).asP).bind λp45=>(Hp.ldI r44.2 .i64 p45.1 p45.2).bind λn46=>(fY fi iY p40.1 p40.2 n46 eY r44.2).bind λr47=>dv.l7 F aj fY nm fi iY dR fO eY dq jE ic (IntKind.i64.wrap (fZ+1)) r47.2) else none)) else (some ((.tup []),H23)))
termination_by structural n=>n
def dv.twX (F:Nat) (aj:Int->Int->Sl->Int->Int->Hp->OA) (fY:Nat->Nat->Nat->Nat->Int->Int->Hp->OA) (aa:Nat) (ac:Nat) (af:Int) (aw:Int) (dS:Sl) (cP:Int) (ef:Int) (dU:Int) (H:Hp):OA:=(Hp.new H [(.int .i64 af),(.int .i64 aw),(.sl dS)]).bind λH9=>(Hp.ldI H9 .i64 H.length 0).bind λn10=>dv.l7 F aj fY F aa ac cP ef dU H.length 0 n10 0 H9
def dv.tw (F:Nat) (aa:Nat) (ac:Nat) (af:Int) (aw:Int) (dS:Sl) (cP:Int) (ef:Int) (dU:Int) (H:Hp):OA:=dv.twX F (bT.tw F) (gZ.tw F) aa ac af aw dS cP ef dU H
def dv.lh7 (F:Nat) (aj:Int->Int->Sl->Int->Int->Hp->OA) (fY:Nat->Nat->Nat->Nat->Int->Int->Hp->OA) (ks:List Nat) (n:Nat) (tm:Tm) (H:Hp):OA:=match ks,tm 0,tm 2,tm 3,tm 4,tm 6,tm 12,tm 13 with
 | [],(.ptr fi iY),(.int .i64 dR),(.int .i64 fO),(.int .i64 eY),(.ptr dq jE),(.int .i64 ic),(.int .i64 fZ)=>dv.l7 F aj fY n fi iY dR fO eY dq jE ic fZ H
 | _,_,_,_,_,_,_,_=>none
theorem dv.lh7_inv {F:Nat} {aj:Int->Int->Sl->Int->Int->Hp->OA} {fY:Nat->Nat->Nat->Nat->Int->Int->Hp->OA} {ks:List Nat} {n:Nat} {tm:Tm} {H:Hp} {r:AV×Hp} (h:dv.lh7 F aj fY ks n tm H=some r):∃ fi iY dR fO eY dq jE ic fZ,ks=[]/\dZ tm [(0,(.ptr fi iY)),(2,(.int .i64 dR)),(3,(.int .i64 fO)),(4,(.int .i64 eY)),(6,(.ptr dq jE)),(12,(.int .i64 ic)),(13,(.int .i64 fZ))]/\dv.l7 F aj fY n fi iY dR fO eY dq jE ic fZ H=some r:=by
 unfold dv.lh7 at h
 split at h
 ·exact ⟨_,_,_,_,_,_,_,_,_,rfl,⟨‹_›,‹_›,‹_›,‹_›,‹_›,‹_›,‹_›,trivial⟩,h⟩
 ·cases h
def dv.lh (F:Nat) (aj:Int->Int->Sl->Int->Int->Hp->OA) (fY:Nat->Nat->Nat->Nat->Int->Int->Hp->OA) (p:Nat) (ks:List Nat) (n:Nat) (tm:Tm) (H:Hp):OA:=bif p.beq 7 then dv.lh7 F aj fY ks n tm H else (none)
def dv.pn:Nat->List Nat:=eU [(4,[8,12])]
def dv.tb:Nat->List (List Nat):=eU [(4,[[],[],[],[],[1,2,3],[],[],[],[1,2,3,4,5,6,7],[1,2,3,4,5,6,7,8],[1,2,3,4,5,6,7,8,9],[],[0,1,2,3,4,5,6,7,8,9,10,11]])]
def dv.mk (g:Nat->Nat->Int->Int->Sl->Int->Int->Int->Hp->OA) (args:List AV) (H:Hp):OA:=match args with
 | [(.ptr aa ac),(.agg [(.int .i64 af),(.int .i64 aw),(.sl dS)]),(.int .i64 cP),(.int .i64 ef),(.int .i64 dU)]=>g aa ac af aw dS cP ef dU H
 | _=>none
def dv.cs (F:Nat) (aj:Int->Int->Sl->Int->Int->Hp->OA) (fY:Nat->Nat->Nat->Nat->Int->Int->Hp->OA):Cs:=[(53,bT.mk aj),(129,gZ.mk fY)]
theorem dv.loops (F:Nat) (aj:Int->Int->Sl->Int->Int->Hp->OA) (fY:Nat->Nat->Nat->Nat->Int->Int->Hp->OA):LO (bh (dv.cs F aj fY)) dv.pn (dv.lh F aj fY) F Tryz.f124:=
 (ae.rt (ae.rt (ae.block (ae.la (λn tm H r h=>by obtain ⟨fi,iY,dR,fO,eY,dq,jE,ic,fZ,hks,e,h⟩:=dv.lh7_inv (show dv.lh7 F aj fY [] n tm H=some r from h);obtain _ | k7:=n;cases h;exact ⟨_,rfl,by rw [<- eb e];exact Eq.trans (by kernel_rfl) h⟩) λk7=>ae.no))))
theorem dv.eqX (F:Nat) (aj:Int->Int->Sl->Int->Int->Hp->OA) (fY:Nat->Nat->Nat->Nat->Int->Int->Hp->OA) (aa:Nat) (ac:Nat) (af:Int) (aw:Int) (dS:Sl) (cP:Int) (ef:Int) (dU:Int) (H:Hp):EX (bh (dv.cs F aj fY)) dv.pn (dv.lh F aj fY) F Tryz.f124 [(.ptr aa ac),(.agg [(.int .i64 af),(.int .i64 aw),(.sl dS)]),(.int .i64 cP),(.int .i64 ef),(.int .i64 dU)] H=dv.twX F aj fY aa ac af aw dS cP ef dU H:=by kernel_rfl
theorem dv.k (F:Nat):Ok Tryz.prog 124 (dv.mk (dv.tw F)):=by
 intro args H v H' h
 unfold dv.mk at h
 split at h
 ·exact okT (TB:=dv.tb) Tryz.func124 (bg (bT.k F) (bg (gZ.k F) ca)) (dv.loops F (bT.tw F) (gZ.tw F)) ((dv.eqX F (bT.tw F) (gZ.tw F) _ _ _ _ _ _ _ _ H).trans h) (by kernel_rfl)
 ·cases h
def fw.twX (F:Nat) (pw:Nat->Nat->Int->Int->Sl->Int->Int->Int->Hp->OA) (pz:Nat->Nat->Int->Int->Sl->Int->Int->Int->Hp->OA) (aa:Nat) (ac:Nat) (af:Int) (cf:Int) (dH:Int) (H:Hp):OA:=(Hp.ldI H .i64 aa (ac+6)).bind λn6=>(Hp.ldI H .i64 aa ((ac+6)+1)).bind λn7=>(Hp.ldSl H aa ((ac+6)+2)).bind λs8=>(pw aa ac n6 n7 s8 af cf dH H).bind λr9=>(Hp.ldI r9.2 .i64 aa ac).bind λn10=>(Hp.ldI r9.2 .i64 aa (ac+1)).bind λn11=>(Hp.ldSl r9.2 aa (ac+2)).bind λs12=>(pw aa ac n10 n11 s12 af cf dH r9.2).bind λr13=>(Hp.ldI r13.2 .i64 aa (ac+3)).bind λn14=>(Hp.ldI r13.2 .i64 aa ((ac+3)+1)).bind λn15=>(Hp.ldSl r13.2 aa ((ac+3)+2)).bind λs16=>(pz aa ac n14 n15 s16 cf af (IntKind.i64.wrap (0 - dH)) r13.2).bind λr17=>some ((.tup []),r17.2)
def fw.tw (F:Nat) (aa:Nat) (ac:Nat) (af:Int) (cf:Int) (dH:Int) (H:Hp):OA:=fw.twX F (du.tw F) (dv.tw F) aa ac af cf dH H
def fw.mk (g:Nat->Nat->Int->Int->Int->Hp->OA) (args:List AV) (H:Hp):OA:=match args with
 | [(.ptr aa ac),(.int .i64 af),(.int .i64 cf),(.int .i64 dH)]=>g aa ac af cf dH H
 | _=>none
def fw.cs (F:Nat) (pw:Nat->Nat->Int->Int->Sl->Int->Int->Int->Hp->OA) (pz:Nat->Nat->Int->Int->Sl->Int->Int->Int->Hp->OA):Cs:=[(123,du.mk pw),(124,dv.mk pz)]
theorem fw.eqX (F:Nat) (pw:Nat->Nat->Int->Int->Sl->Int->Int->Int->Hp->OA) (pz:Nat->Nat->Int->Int->Sl->Int->Int->Int->Hp->OA) (aa:Nat) (ac:Nat) (af:Int) (cf:Int) (dH:Int) (H:Hp):EX (bh (fw.cs F pw pz)) aW lh0 F Tryz.f102 [(.ptr aa ac),(.int .i64 af),(.int .i64 cf),(.int .i64 dH)] H=fw.twX F pw pz aa ac af cf dH H:=by kernel_rfl
end
end Go.Proofs.YtppbogklbhfboaaGreat.AE
