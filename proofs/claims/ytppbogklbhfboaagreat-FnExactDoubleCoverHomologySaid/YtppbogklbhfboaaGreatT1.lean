import Derived.Test.YtppbogklbhfboaaGreatTab1
import Derived.Test.YtppbogklbhfboaaGreatE2
set_option linter.unusedVariables false
set_option linter.unusedSimpArgs false
namespace Go.Proofs.YtppbogklbhfboaaGreat.AE
open Go Go.AE Go.Proofs Go.RowKit Go.Maps IntKind
variable (F:Nat)
set_option linter.unusedVariables false
set_option maxHeartbeats 4000000
set_option maxRecDepth 100000
noncomputable section
def lp.twX (F:Nat) (aa:Sl) (au:Int) (H:Hp):OA:=(bif (decide ((wrap .i64 (au - (aa.n:Int)))<0)) then (some ((.int .i64 (-1)),H)) else (some ((.int .i64 (wrap .i64 (au - (aa.n:Int)))),H)))
def lp.tw:=lp.twX F
def mk0 (g:am8) (args:anb) (H:Hp):OA:=match args with
 | [(.sl aa),(.int .i64 au)]=>g aa au H
 | _=>none
theorem mk0_E (g:am8) (aa:Sl) (au:Int) (H:Hp):mk0 g [(.sl aa),(.int .i64 au)] H=g aa au H:=rfl
theorem lp.k:Ok Tryz.prog 16 (mk0 (lp.tw F)):=by
 intro args H v H' h
 unfold mk0 at h
 split at h
 ·exact ok0 Tryz.func16 (Eq.trans (by kernel_rfl) h) (by kernel_rfl) (by kernel_rfl)
 ·cases h
def jl.twX (F:Nat) (xI:am8) (aa:Sl) (ac:Int) (ah:Int) (H:Hp):OA:=(Hp.new H [(.sl aa),(.int .i64 ac)]).bind λH4=>(Hp.ldSl H4 H.length 0).bind λs5=>(xI s5 ah H4).bind λr6=>((r6.1).asI .i64).bind λn7=>(bif (decide (n7<0)) then (some ((.int .i64 (-1)),r6.2)) else (some ((.int .i64 n7),r6.2)))
def jl.tw:=jl.twX F (lp.tw F)
def mk1 (g:ani) (args:anb) (H:Hp):OA:=match args with
 | [(.agg [(.sl aa),(.int .i64 ac)]),(.int .i64 ah)]=>g aa ac ah H
 | _=>none
theorem mk1_E (g:ani) (aa:Sl) (ac:Int) (ah:Int) (H:Hp):mk1 g [(.agg [(.sl aa),(.int .i64 ac)]),(.int .i64 ah)] H=g aa ac ah H:=rfl
def jl.cs (F:Nat) (xI:am8):Cs:=[(16,mk0 xI)]
theorem jl.eqX (xI:am8) (aa:Sl) (ac:Int) (ah:Int) (H:Hp):EX (bl (jl.cs F xI)) bf lh0 F Tryz.f5 [(.agg [(.sl aa),(.int .i64 ac)]),(.int .i64 ah)] H=jl.twX F xI aa ac ah H:=by kernel_rfl
theorem jl.k:Ok Tryz.prog 5 (mk1 (jl.tw F)):=by
 intro args H v H' h
 unfold mk1 at h
 split at h
 ·exact okT (TB:=bf) Tryz.func5 (aR (lp.k F) cD) ae.no ((jl.eqX F (lp.tw F) _ _ _ H).trans h) (by kernel_rfl)
 ·cases h
def kU.twX (F:Nat) (aa:Int) (ac:Int) (aZ:Int) (eN:Int) (ev:Int) (H:Hp):OA:=(Hp.new H [(.int .i64 aa),(.int .i64 ac),(.int .i64 aZ),(.int .i64 eN),(.int .i64 ev)]).bind λH6=>(Hp.new H6 [.int .i64 0,.int .i64 0,.int .i64 0,.int .i64 0,.int .i64 0]).bind λH7=>(Hp.new H7 [.int .i64 0,.int .i64 0,.int .i64 0,.int .i64 0,.int .i64 0]).bind λH8=>(Hp.ldI H8 .i64 H.length 0).bind λn9=>(Hp.st H8 H7.length 0 (.int .i64 n9)).bind λH10=>(Hp.ldI H10 .i64 H.length 1).bind λn11=>(Hp.st H10 H7.length 1 (.int .i64 n11)).bind λH12=>(Hp.ldI H12 .i64 H.length 2).bind λn13=>(Hp.st H12 H7.length 2 (.int .i64 n13)).bind λH14=>(Hp.ldI H14 .i64 H.length 3).bind λn15=>(Hp.st H14 H7.length 3 (.int .i64 n15)).bind λH16=>(Hp.ldI H16 .i64 H.length 4).bind λn17=>(Hp.st H16 H7.length 4 (.int .i64 n17)).bind λH18=>(Hp.ldI H18 .i64 H7.length 0).bind λn19=>(Hp.ldI H18 .i64 H7.length (0+1)).bind λn20=>(Hp.ldI H18 .i64 H7.length (0+2)).bind λn21=>(Hp.ldI H18 .i64 H7.length (0+3)).bind λn22=>(Hp.ldI H18 .i64 H7.length (0+4)).bind λn23=>(Hp.st H18 H6.length 0 (.int .i64 n19)).bind λH24=>(Hp.st H24 H6.length (0+1) (.int .i64 n20)).bind λH25=>(Hp.st H25 H6.length (0+1+1) (.int .i64 n21)).bind λH26=>(Hp.st H26 H6.length (0+1+1+1) (.int .i64 n22)).bind λH27=>(Hp.st H27 H6.length (0+1+1+1+1) (.int .i64 n23)).bind λH28=>(Hp.ldI H28 .i64 H6.length 0).bind λn29=>(Hp.ldI H28 .i64 H6.length (0+1)).bind λn30=>(Hp.ldI H28 .i64 H6.length (0+2)).bind λn31=>(Hp.ldI H28 .i64 H6.length (0+3)).bind λn32=>(Hp.ldI H28 .i64 H6.length (0+4)).bind λn33=>some ((.agg [(.int .i64 n29),(.int .i64 n30),(.int .i64 n31),(.int .i64 n32),(.int .i64 n33)]),H28)
def kU.tw:=kU.twX F
def mk2 (g:anl) (args:anb) (H:Hp):OA:=match args with
 | [(.agg [(.int .i64 aa),(.int .i64 ac),(.int .i64 aZ),(.int .i64 eN),(.int .i64 ev)])]=>g aa ac aZ eN ev H
 | _=>none
theorem mk2_E (g:anl) (aa:Int) (ac:Int) (aZ:Int) (eN:Int) (ev:Int) (H:Hp):mk2 g [(.agg [(.int .i64 aa),(.int .i64 ac),(.int .i64 aZ),(.int .i64 eN),(.int .i64 ev)])] H=g aa ac aZ eN ev H:=rfl
theorem kU.k:Ok Tryz.prog 47 (mk2 (kU.tw F)):=by
 intro args H v H' h
 unfold mk2 at h
 split at h
 ·exact ok0 Tryz.func47 (Eq.trans (by kernel_rfl) h) (by kernel_rfl) (by kernel_rfl)
 ·cases h
def eW.l29 (F:Nat) (mE:anl) :Nat->Sl->Sl->Int->Hp->OA
 | 0,_,_,_,_=>none
 | fG+1,eb,qv,hO,H7=>(bif (decide (hO<(eb.n:Int))) then ((Sl.idx eb hO 5).bind λp32=>(Hp.ldI H7 .i64 p32.1 p32.2).bind λn33=>(Hp.ldI H7 .i64 p32.1 (p32.2+1)).bind λn34=>(Hp.ldI H7 .i64 p32.1 (p32.2+2)).bind λn35=>(Hp.ldI H7 .i64 p32.1 (p32.2+3)).bind λn36=>(Hp.ldI H7 .i64 p32.1 (p32.2+4)).bind λn37=>(mE n33 n34 n35 n36 n37 H7).bind λr38=>((r38.1).asAgg 5).bind λl39=>(l39[0]?).bind λv40=>((v40).asI .i64).bind λn41=>(l39[1]?).bind λv42=>((v42).asI .i64).bind λn43=>(l39[2]?).bind λv44=>((v44).asI .i64).bind λn45=>(l39[3]?).bind λv46=>((v46).asI .i64).bind λn47=>(l39[4]?).bind λv48=>((v48).asI .i64).bind λn49=>(Sl.idx qv hO 5).bind λp50=>(Hp.st r38.2 p50.1 p50.2 (.int .i64 n41)).bind λH51=>(Hp.st H51 p50.1 (p50.2+1) (.int .i64 n43)).bind λH52=>(Hp.st H52 p50.1 (p50.2+1+1) (.int .i64 n45)).bind λH53=>(Hp.st H53 p50.1 (p50.2+1+1+1) (.int .i64 n47)).bind λH54=>(Hp.st H54 p50.1 (p50.2+1+1+1+1) (.int .i64 n49)).bind λH55=>eW.l29 F mE fG eb qv (wrap .i64 (hO+1)) H55) else (some ((.sl qv),H7)))
def eW.twX (mE:anl) (aa:Sl) (H:Hp):OA:=(Hp.mk H [.int .i64 0,.int .i64 0,.int .i64 0,.int .i64 0,.int .i64 0] 40 (aa.n:Int) (aa.n:Int)).bind λm2=>eW.l29 F mE F aa m2.1 0 m2.2
def eW.tw:=eW.twX F (kU.tw F)
def eW.lh29 (mE:anl) (ks:am6) (n:Nat) (tm:Tm) (H:Hp):OA:=match ks,tm 0,tm 3,tm 4 with
 | [],(.sl eb),(.sl qv),(.int .i64 hO)=>eW.l29 F mE n eb qv hO H
 | _,_,_,_=>none
def eW.lh (mE:anl) (p:Nat) (ks:am6) (n:Nat) (tm:Tm) (H:Hp):OA:=bif p.beq 29 then eW.lh29 F mE ks n tm H else (none)
def mk3 (g:am7) (args:anb) (H:Hp):OA:=match args with
 | [(.sl aa)]=>g aa H
 | _=>none
theorem mk3_E (g:am7) (aa:Sl) (H:Hp):mk3 g [(.sl aa)] H=g aa H:=rfl
def eW.cs (F:Nat) (mE:anl):Cs:=[(47,mk2 mE)]
theorem eW.loops (mE:anl):LO (bl (eW.cs F mE)) bf (eW.lh F mE) F Tryz.f23:=
 (ae.rt (ae.rt (ae.lt (ae.rt (ae.block (ae.la (λn tm H r h=>by change eW.lh29 F mE [] n tm H=_ at h;unfold eW.lh29 at h;split at h;have e:c_ tm [(0,_),(3,_),(4,_)]:=⟨‹_›,‹_›,‹_›,trivial⟩;obtain _ | k29:=n;cases h;exact ⟨_,rfl,by rw [<- db e];exact Eq.trans (by kernel_rfl) h⟩;cases h) λk29=>ae.no))))))
theorem eW.eqX (mE:anl) (aa:Sl) (H:Hp):EX (bl (eW.cs F mE)) bf (eW.lh F mE) F Tryz.f23 [(.sl aa)] H=eW.twX F mE aa H:=by kernel_rfl
theorem eW.k:Ok Tryz.prog 23 (mk3 (eW.tw F)):=by
 intro args H v H' h
 unfold mk3 at h
 split at h
 ·exact okT (TB:=bf) Tryz.func23 (aR (kU.k F) cD) (eW.loops F (kU.tw F)) ((eW.eqX F (kU.tw F) _ H).trans h) (by kernel_rfl)
 ·cases h
def im.twX (F:Nat) (xJ:am7) (aa:Sl) (ac:Int) (H:Hp):OA:=(Hp.new H [(.sl aa),(.int .i64 ac)]).bind λH3=>(Hp.new H3 [.sl ⟨none,0,.ex 0⟩,.int .i64 0]).bind λH4=>(Hp.new H4 [.sl ⟨none,0,.ex 0⟩,.int .i64 0]).bind λH5=>(Hp.ldSl H5 H.length 0).bind λs6=>(xJ s6 H5).bind λr7=>((r7.1).asSl).bind λs8=>(Hp.st r7.2 H4.length 0 (.sl s8)).bind λH9=>(Hp.ldI H9 .i64 H.length 1).bind λn10=>(Hp.st H9 H4.length 1 (.int .i64 n10)).bind λH11=>(Hp.ldSl H11 H4.length 0).bind λs12=>(Hp.ldI H11 .i64 H4.length (0+1)).bind λn13=>(Hp.st H11 H3.length 0 (.sl s12)).bind λH14=>(Hp.st H14 H3.length (0+1) (.int .i64 n13)).bind λH15=>(Hp.ldSl H15 H3.length 0).bind λs16=>(Hp.ldI H15 .i64 H3.length (0+1)).bind λn17=>some ((.agg [(.sl s16),(.int .i64 n17)]),H15)
def im.tw:=im.twX F (eW.tw F)
def mk4 (g:am8) (args:anb) (H:Hp):OA:=match args with
 | [(.agg [(.sl aa),(.int .i64 ac)])]=>g aa ac H
 | _=>none
theorem mk4_E (g:am8) (aa:Sl) (ac:Int) (H:Hp):mk4 g [(.agg [(.sl aa),(.int .i64 ac)])] H=g aa ac H:=rfl
def im.cs (F:Nat) (xJ:am7):Cs:=[(23,mk3 xJ)]
theorem im.eqX (xJ:am7) (aa:Sl) (ac:Int) (H:Hp):EX (bl (im.cs F xJ)) bf lh0 F Tryz.f7 [(.agg [(.sl aa),(.int .i64 ac)])] H=im.twX F xJ aa ac H:=by kernel_rfl
theorem im.k:Ok Tryz.prog 7 (mk4 (im.tw F)):=by
 intro args H v H' h
 unfold mk4 at h
 split at h
 ·exact okT (TB:=bf) Tryz.func7 (aR (eW.k F) cD) ae.no ((im.eqX F (eW.tw F) _ _ H).trans h) (by kernel_rfl)
 ·cases h
def fX.twX (F:Nat) (aa:Int) (au:Int) (eA:Int) (H:Hp):OA:=(bif (decide (aa>=au)) then (some ((.bool (decide (aa<=eA))),H)) else (some ((.bool false),H)))
def fX.tw:=fX.twX F
def mk5 (g:ang) (args:anb) (H:Hp):OA:=match args with
 | [(.int .i64 aa),(.int .i64 au),(.int .i64 eA)]=>g aa au eA H
 | _=>none
theorem mk5_E (g:ang) (aa:Int) (au:Int) (eA:Int) (H:Hp):mk5 g [(.int .i64 aa),(.int .i64 au),(.int .i64 eA)] H=g aa au eA H:=rfl
theorem fX.k:Ok Tryz.prog 18 (mk5 (fX.tw F)):=by
 intro args H v H' h
 unfold mk5 at h
 split at h
 ·exact ok0 Tryz.func18 (Eq.trans (by kernel_rfl) h) (by kernel_rfl) (by kernel_rfl)
 ·cases h
def gz.twX (F:Nat) (aa:Int) (ac:Int) (aZ:Int) (eN:Int) (ev:Int) (fE:Int) (H:Hp):OA:=(Hp.new H [(.int .i64 aa),(.int .i64 ac),(.int .i64 aZ),(.int .i64 eN),(.int .i64 ev)]).bind λH7=>(Hp.ldI H7 .i64 H.length 0).bind λn8=>(Hp.ldI H7 .i64 H.length 1).bind λn9=>(Hp.ldI H7 .i64 H.length 2).bind λn10=>(Hp.ldI H7 .i64 H.length 3).bind λn11=>(Hp.new H7 [(.int .i64 n8),(.int .i64 n9),(.int .i64 n10),(.int .i64 n11)]).bind λH12=>(Sl.idx (⟨some (H7.length,0),4,.ex 4⟩:Sl) fE 1).bind λp13=>(Hp.ldI H12 .i64 p13.1 p13.2).bind λn14=>some ((.int .i64 n14),H12)
def gz.tw:=gz.twX F
def mk6 (g:ane) (args:anb) (H:Hp):OA:=match args with
 | [(.agg [(.int .i64 aa),(.int .i64 ac),(.int .i64 aZ),(.int .i64 eN),(.int .i64 ev)]),(.int .i64 fE)]=>g aa ac aZ eN ev fE H
 | _=>none
theorem mk6_E (g:ane) (aa:Int) (ac:Int) (aZ:Int) (eN:Int) (ev:Int) (fE:Int) (H:Hp):mk6 g [(.agg [(.int .i64 aa),(.int .i64 ac),(.int .i64 aZ),(.int .i64 eN),(.int .i64 ev)]),(.int .i64 fE)] H=g aa ac aZ eN ev fE H:=rfl
theorem gz.k:Ok Tryz.prog 63 (mk6 (gz.tw F)):=by
 intro args H v H' h
 unfold mk6 at h
 split at h
 ·exact ok0 Tryz.func63 (Eq.trans (by kernel_rfl) h) (by kernel_rfl) (by kernel_rfl)
 ·cases h
def gA.twX (F:Nat) (aa:Int) (ac:Int) (aZ:Int) (eN:Int) (ev:Int) (fE:Int) (H:Hp):OA:=(Hp.new H [(.int .i64 aa),(.int .i64 ac),(.int .i64 aZ),(.int .i64 eN),(.int .i64 ev)]).bind λH7=>(bif (fE==0) then (some ((.bool true),H7)) else ((bif (fE==3) then ((Hp.ldI H7 .i64 H.length 4).bind λn8=>(bif (n8==1) then (some ((.bool true),H7)) else ((bif (fE==1) then ((Hp.ldI H7 .i64 H.length 4).bind λn9=>some ((.bool (n9==(-1))),H7)) else (some ((.bool false),H7)))))) else ((bif (fE==1) then ((Hp.ldI H7 .i64 H.length 4).bind λn10=>some ((.bool (n10==(-1))),H7)) else (some ((.bool false),H7)))))))
def gA.tw:=gA.twX F
theorem gA.k:Ok Tryz.prog 64 (mk6 (gA.tw F)):=by
 intro args H v H' h
 unfold mk6 at h
 split at h
 ·exact ok0 Tryz.func64 (Eq.trans (by kernel_rfl) h) (by kernel_rfl) (by kernel_rfl)
 ·cases h
def cg.l3927 (F:Nat) (dN:ane) (eM:ang) (dO:ane) (C61_:aom):Nat->Nat->Nat->Int->Sl->Sl->Int->Nat->Nat->Int->Hp->OA
 | 0,_,_,_,_,_,_,_,_,_,_=>none
 | Uf+1,sy,Cg,nD,vm,vn,mF,mG,oN,mZ,H126=>(bif (decide (mZ<4)) then ((Hp.ldI H126 .i64 mG oN).bind λn151=>(Hp.ldI H126 .i64 mG (oN+1)).bind λn152=>(Hp.ldI H126 .i64 mG (oN+2)).bind λn153=>(Hp.ldI H126 .i64 mG (oN+3)).bind λn154=>(Hp.ldI H126 .i64 mG (oN+4)).bind λn155=>(dN n151 n152 n153 n154 n155 mZ H126).bind λr156=>((r156.1).asI .i64).bind λn157=>(eM n157 0 (wrap .i64 (nD - 1)) r156.2).bind λr158=>((r158.1).asB).bind λb159=>(bif (!b159) then (some ((.bool false),r158.2)) else ((Hp.ldI r158.2 .i64 mG oN).bind λn160=>(Hp.ldI r158.2 .i64 mG (oN+1)).bind λn161=>(Hp.ldI r158.2 .i64 mG (oN+2)).bind λn162=>(Hp.ldI r158.2 .i64 mG (oN+3)).bind λn163=>(Hp.ldI r158.2 .i64 mG (oN+4)).bind λn164=>(dO n160 n161 n162 n163 n164 mZ r158.2).bind λr165=>((r165.1).asB).bind λb166=>(bif b166 then ((Sl.idx vm n157 1).bind λp167=>(Hp.ldB r165.2 p167.1 p167.2).bind λb168=>(bif b168 then (some ((.bool false),r165.2)) else ((Sl.idx vm n157 1).bind λp169=>(Hp.st r165.2 p169.1 p169.2 (.bool true)).bind λH170=>cg.l3927 F dN eM dO C61_ Uf sy Cg nD vm vn mF mG oN (wrap .i64 (mZ+1)) H170))) else ((Sl.idx vn n157 1).bind λp171=>(Hp.ldB r165.2 p171.1 p171.2).bind λb172=>(bif b172 then (some ((.bool false),r165.2)) else ((Sl.idx vn n157 1).bind λp173=>(Hp.st r165.2 p173.1 p173.2 (.bool true)).bind λH174=>cg.l3927 F dN eM dO C61_ Uf sy Cg nD vm vn mF mG oN (wrap .i64 (mZ+1)) H174))))))) else (C61_ sy Cg nD vm vn (wrap .i64 (mF+1)) H126))
termination_by structural n=>n
def cg.l61 (F:Nat) (dN:ane) (eM:ang) (dO:ane) :Nat->Nat->Nat->Int->Sl->Sl->Int->Hp->OA
 | 0,_,_,_,_,_,_,_=>none
 | fB+1,lL,gm,eR,qw,kL,nE,H16=>(Hp.ldSl H16 lL gm).bind λs96=>(bif (decide (nE<(s96.n:Int))) then ((Hp.ldSl H16 lL gm).bind λs97=>(Sl.idx s97 nE 5).bind λp98=>(Hp.ldI H16 .i64 p98.1 p98.2).bind λn99=>(Hp.ldI H16 .i64 p98.1 (p98.2+1)).bind λn100=>(Hp.ldI H16 .i64 p98.1 (p98.2+2)).bind λn101=>(Hp.ldI H16 .i64 p98.1 (p98.2+3)).bind λn102=>(Hp.ldI H16 .i64 p98.1 (p98.2+4)).bind λn103=>(Hp.new H16 [.int .i64 0,.int .i64 0,.int .i64 0,.int .i64 0,.int .i64 0]).bind λH104=>(Hp.st H104 H16.length 0 (.int .i64 n99)).bind λH105=>(Hp.st H105 H16.length (0+1) (.int .i64 n100)).bind λH106=>(Hp.st H106 H16.length (0+1+1) (.int .i64 n101)).bind λH107=>(Hp.st H107 H16.length (0+1+1+1) (.int .i64 n102)).bind λH108=>(Hp.st H108 H16.length (0+1+1+1+1) (.int .i64 n103)).bind λH109=>(Hp.ldI H109 .i64 H16.length 4).bind λn110=>(bif (n110 != 1) then ((Hp.ldI H109 .i64 H16.length 4).bind λn111=>(bif (n111 != (-1)) then (some ((.bool false),H109)) else (cg.l3927 F dN eM dO (cg.l61 F dN eM dO fB) F lL gm eR qw kL nE H16.length 0 0 H109))) else (cg.l3927 F dN eM dO (cg.l61 F dN eM dO fB) F lL gm eR qw kL nE H16.length 0 0 H109))) else (some ((.bool true),H16)))
termination_by structural n=>n
def cg.twX (dN:ane) (eM:ang) (dO:ane) (aa:Sl) (ac:Int) (H:Hp):OA:=(Hp.new H [(.sl aa),(.int .i64 ac)]).bind λH3=>(Hp.ldSl H3 H.length 0).bind λs4=>(Hp.mk H3 [.bool false] 1 (wrap .i64 (2 * (s4.n:Int))) (wrap .i64 (2 * (s4.n:Int)))).bind λm5=>(Hp.mk m5.2 [.bool false] 1 (wrap .i64 (2 * (s4.n:Int))) (wrap .i64 (2 * (s4.n:Int)))).bind λm6=>cg.l61 F dN eM dO F H.length 0 (wrap .i64 (2 * (s4.n:Int))) m5.1 m6.1 0 m6.2
def cg.tw:=cg.twX F (gz.tw F) (fX.tw F) (gA.tw F)
def cg.lh61 (dN:ane) (eM:ang) (dO:ane) (ks:am6) (n:Nat) (tm:Tm) (H:Hp):OA:=match ks,tm 1,tm 3,tm 4,tm 5,tm 6 with
 | [],(.ptr lL gm),(.int .i64 eR),(.sl qw),(.sl kL),(.int .i64 nE)=>cg.l61 F dN eM dO n lL gm eR qw kL nE H
 | _,_,_,_,_,_=>none
def cg.lh3927 (dN:ane) (eM:ang) (dO:ane) (ks:am6) (n:Nat) (tm:Tm) (H:Hp):OA:=match ks,tm 1,tm 3,tm 4,tm 5,tm 6,tm 7,tm 8 with
 | [fB],(.ptr sy Cg),(.int .i64 nD),(.sl vm),(.sl vn),(.int .i64 mF),(.ptr mG oN),(.int .i64 mZ)=>cg.l3927 F dN eM dO (cg.l61 F dN eM dO fB) n sy Cg nD vm vn mF mG oN mZ H
 | _,_,_,_,_,_,_,_=>none
def cg.lh (dN:ane) (eM:ang) (dO:ane) (p:Nat) (ks:am6) (n:Nat) (tm:Tm) (H:Hp):OA:=bif p.beq 3927 then cg.lh3927 F dN eM dO ks n tm H else (bif p.beq 61 then cg.lh61 F dN eM dO ks n tm H else (none))
def cg.tb:Nat->List (List Nat):=dM [(2,[[],[0],[],[2],[0,1],[0,1,2,3,4]])]
def cg.cs (F:Nat) (dN:ane) (eM:ang) (dO:ane):Cs:=[(63,mk6 dN),(18,mk5 eM),(64,mk6 dO)]
theorem cg.loops (dN:ane) (eM:ang) (dO:ane):LO (bl (cg.cs F dN eM dO)) bf (cg.lh F dN eM dO) F Tryz.f41:=
 (ae.rt (ae.rt (ae.rt (ae.lt (ae.rt (ae.block (ae.la (λn tm H r h=>by change cg.lh61 F dN eM dO [] n tm H=_ at h;unfold cg.lh61 at h;split at h;have e:c_ tm [(1,_),(3,_),(4,_),(5,_),(6,_)]:=⟨‹_›,‹_›,‹_›,‹_›,‹_›,trivial⟩;obtain _ | k61:=n;cases h;exact ⟨_,rfl,by rw [<- db e];exact Eq.trans (by kernel_rfl) h⟩;cases h) λk61=>(ae.rt (ae.lt (ae.block (ae.rt (ae.rt (ae.rt (ae.block (ae.la (λn tm H r h=>by change cg.lh3927 F dN eM dO [k61] n tm H=_ at h;unfold cg.lh3927 at h;split at h;have e:c_ tm [(1,_),(3,_),(4,_),(5,_),(6,_),(7,_),(8,_)]:=⟨‹_›,‹_›,‹_›,‹_›,‹_›,‹_›,‹_›,trivial⟩;cases (show [k61]=_ from ‹_›);obtain _ | k3927:=n;cases h;exact ⟨_,rfl,by rw [<- db e];exact Eq.trans (by kernel_rfl) h⟩;cases h) λk3927=>ae.no)))))))))))))))
theorem cg.eqX (dN:ane) (eM:ang) (dO:ane) (aa:Sl) (ac:Int) (H:Hp):EX (bl (cg.cs F dN eM dO)) bf (cg.lh F dN eM dO) F Tryz.f41 [(.agg [(.sl aa),(.int .i64 ac)])] H=cg.twX F dN eM dO aa ac H:=by kernel_rfl
theorem cg.k:Ok Tryz.prog 41 (mk4 (cg.tw F)):=by
 intro args H v H' h
 unfold mk4 at h
 split at h
 ·exact okT (TB:=cg.tb) Tryz.func41 (aR (gz.k F) (aR (fX.k F) (aR (gA.k F) cD))) (cg.loops F (gz.tw F) (fX.tw F) (gA.tw F)) ((cg.eqX F (gz.tw F) (fX.tw F) (gA.tw F) _ _ H).trans h) (by kernel_rfl)
 ·cases h
def bE.j3 (F:Nat) (dN:ane) (dO:ane) (C13_:anQ) (pg:Int) (xK:Bool) (oO:Nat) (xL:Nat) (xM:Int) (H147:Hp):OA:=C13_ pg xK oO xL (wrap .i64 (xM+1)) H147
def bE.j4 (dN:ane) (dO:ane) (C13_:anQ) (xN:Int) (xO:Bool) (EN:Nat) (acR:Nat) (xP:Int) (H134:Hp):OA:=bE.j3 F dN dO C13_ xN xO EN acR xP H134
def bE.l213 (F:Nat) (dN:ane) (dO:ane) (C13_:anQ):Nat->Int->Bool->Nat->Nat->Int->Int->Hp->OA
 | 0,_,_,_,_,_,_,_=>none
 | EO+1,nF,nG,qx,vo,lM,lN,H103=>(bif (decide (lN<4)) then ((Hp.ldSl H103 qx vo).bind λs148=>(Sl.idx s148 lM 5).bind λp149=>(Hp.ldI H103 .i64 p149.1 p149.2).bind λn150=>(Hp.ldI H103 .i64 p149.1 (p149.2+1)).bind λn151=>(Hp.ldI H103 .i64 p149.1 (p149.2+2)).bind λn152=>(Hp.ldI H103 .i64 p149.1 (p149.2+3)).bind λn153=>(Hp.ldI H103 .i64 p149.1 (p149.2+4)).bind λn154=>(dN n150 n151 n152 n153 n154 lN H103).bind λr155=>((r155.1).asI .i64).bind λn156=>(bif (n156==nF) then ((Hp.ldSl r155.2 qx vo).bind λs157=>(Sl.idx s157 lM 5).bind λp158=>(Hp.ldI r155.2 .i64 p158.1 p158.2).bind λn159=>(Hp.ldI r155.2 .i64 p158.1 (p158.2+1)).bind λn160=>(Hp.ldI r155.2 .i64 p158.1 (p158.2+2)).bind λn161=>(Hp.ldI r155.2 .i64 p158.1 (p158.2+3)).bind λn162=>(Hp.ldI r155.2 .i64 p158.1 (p158.2+4)).bind λn163=>(dO n159 n160 n161 n162 n163 lN r155.2).bind λr164=>((r164.1).asB).bind λb165=>(bif (b165==nG) then (some ((.tup [(.int .i64 lM),(.int .i64 lN)]),r164.2)) else (bE.l213 F dN dO C13_ EO nF nG qx vo lM (wrap .i64 (lN+1)) r164.2))) else (bE.l213 F dN dO C13_ EO nF nG qx vo lM (wrap .i64 (lN+1)) r155.2))) else (bE.j4 F dN dO C13_ nF nG qx vo lM H103))
termination_by structural n=>n
def bE.l13 (F:Nat) (dN:ane) (dO:ane) :Nat->Int->Bool->Nat->Nat->Int->Hp->OA
 | 0,_,_,_,_,_,_=>none
 | jc+1,fL,sB,ph,mH,qy,H15=>(Hp.ldSl H15 ph mH).bind λs91=>(bif (decide (qy<(s91.n:Int))) then (bE.l213 F dN dO (bE.l13 F dN dO jc) F fL sB ph mH qy 0 H15) else (some ((.tup [(.int .i64 (-1)),(.int .i64 (-1))]),H15)))
termination_by structural n=>n
def bE.twX (dN:ane) (dO:ane) (aa:Sl) (ac:Int) (ah:Int) (cH:Bool) (H:Hp):OA:=(Hp.new H [(.sl aa),(.int .i64 ac)]).bind λH5=>bE.l13 F dN dO F ah cH H.length 0 0 H5
def bE.tw:=bE.twX F (gz.tw F) (gA.tw F)
def bE.lh13 (dN:ane) (dO:ane) (ks:am6) (n:Nat) (tm:Tm) (H:Hp):OA:=match ks,tm 1,tm 2,tm 3,tm 8 with
 | [],(.int .i64 fL),(.bool sB),(.ptr ph mH),(.int .i64 qy)=>bE.l13 F dN dO n fL sB ph mH qy H
 | _,_,_,_,_=>none
def bE.lh213 (dN:ane) (dO:ane) (ks:am6) (n:Nat) (tm:Tm) (H:Hp):OA:=match ks,tm 1,tm 2,tm 3,tm 8,tm 9 with
 | [jc],(.int .i64 nF),(.bool nG),(.ptr qx vo),(.int .i64 lM),(.int .i64 lN)=>bE.l213 F dN dO (bE.l13 F dN dO jc) n nF nG qx vo lM lN H
 | _,_,_,_,_,_=>none
def bE.lh (dN:ane) (dO:ane) (p:Nat) (ks:am6) (n:Nat) (tm:Tm) (H:Hp):OA:=bif p.beq 213 then bE.lh213 F dN dO ks n tm H else (bif p.beq 13 then bE.lh13 F dN dO ks n tm H else (none))
def mk7 (g:anq) (args:anb) (H:Hp):OA:=match args with
 | [(.agg [(.sl aa),(.int .i64 ac)]),(.int .i64 ah),(.bool cH)]=>g aa ac ah cH H
 | _=>none
theorem mk7_E (g:anq) (aa:Sl) (ac:Int) (ah:Int) (cH:Bool) (H:Hp):mk7 g [(.agg [(.sl aa),(.int .i64 ac)]),(.int .i64 ah),(.bool cH)] H=g aa ac ah cH H:=rfl
def bE.cs (F:Nat) (dN:ane) (dO:ane):Cs:=[(63,mk6 dN),(64,mk6 dO)]
theorem bE.loops (dN:ane) (dO:ane):LO (bl (bE.cs F dN dO)) bf (bE.lh F dN dO) F Tryz.f82:=
 (ae.rt (ae.lt (ae.rt (ae.block (ae.la (λn tm H r h=>by change bE.lh13 F dN dO [] n tm H=_ at h;unfold bE.lh13 at h;split at h;have e:c_ tm [(1,_),(2,_),(3,_),(8,_)]:=⟨‹_›,‹_›,‹_›,‹_›,trivial⟩;obtain _ | k13:=n;cases h;exact ⟨_,rfl,by rw [<- db e];exact Eq.trans (by kernel_rfl) h⟩;cases h) λk13=>(ae.rt (ae.lt (ae.block (ae.rt (ae.block (ae.la (λn tm H r h=>by change bE.lh213 F dN dO [k13] n tm H=_ at h;unfold bE.lh213 at h;split at h;have e:c_ tm [(1,_),(2,_),(3,_),(8,_),(9,_)]:=⟨‹_›,‹_›,‹_›,‹_›,‹_›,trivial⟩;cases (show [k13]=_ from ‹_›);obtain _ | k213:=n;cases h;exact ⟨_,rfl,by rw [<- db e];exact Eq.trans (by kernel_rfl) h⟩;cases h) λk213=>ae.no)))))))))))
theorem bE.eqX (dN:ane) (dO:ane) (aa:Sl) (ac:Int) (ah:Int) (cH:Bool) (H:Hp):EX (bl (bE.cs F dN dO)) bf (bE.lh F dN dO) F Tryz.f82 [(.agg [(.sl aa),(.int .i64 ac)]),(.int .i64 ah),(.bool cH)] H=bE.twX F dN dO aa ac ah cH H:=by kernel_rfl
theorem bE.k:Ok Tryz.prog 82 (mk7 (bE.tw F)):=by
 intro args H v H' h
 unfold mk7 at h
 split at h
 ·exact okT (TB:=bf) Tryz.func82 (aR (gz.k F) (aR (gA.k F) cD)) (bE.loops F (gz.tw F) (gA.tw F)) ((bE.eqX F (gz.tw F) (gA.tw F) _ _ _ _ H).trans h) (by kernel_rfl)
 ·cases h
def gO.twX (F:Nat) (dN:ane) (dO:ane) (fd:anq) (aa:Sl) (ac:Int) (ah:Int) (H:Hp):OA:=(Hp.new H [(.sl aa),(.int .i64 ac)]).bind λH4=>(Hp.ldSl H4 H.length 0).bind λs5=>(Sl.idx s5 (wrap .i64 (Int.tdiv ah 4)) 5).bind λp6=>(Hp.ldI H4 .i64 p6.1 p6.2).bind λn7=>(Hp.ldI H4 .i64 p6.1 (p6.2+1)).bind λn8=>(Hp.ldI H4 .i64 p6.1 (p6.2+2)).bind λn9=>(Hp.ldI H4 .i64 p6.1 (p6.2+3)).bind λn10=>(Hp.ldI H4 .i64 p6.1 (p6.2+4)).bind λn11=>(Hp.new H4 [.int .i64 0,.int .i64 0,.int .i64 0,.int .i64 0,.int .i64 0]).bind λH12=>(Hp.st H12 H4.length 0 (.int .i64 n7)).bind λH13=>(Hp.st H13 H4.length (0+1) (.int .i64 n8)).bind λH14=>(Hp.st H14 H4.length (0+1+1) (.int .i64 n9)).bind λH15=>(Hp.st H15 H4.length (0+1+1+1) (.int .i64 n10)).bind λH16=>(Hp.st H16 H4.length (0+1+1+1+1) (.int .i64 n11)).bind λH17=>(Hp.ldSl H17 H.length 0).bind λs18=>(Hp.ldI H17 .i64 H.length (0+1)).bind λn19=>(Hp.ldI H17 .i64 H4.length 0).bind λn20=>(Hp.ldI H17 .i64 H4.length (0+1)).bind λn21=>(Hp.ldI H17 .i64 H4.length (0+2)).bind λn22=>(Hp.ldI H17 .i64 H4.length (0+3)).bind λn23=>(Hp.ldI H17 .i64 H4.length (0+4)).bind λn24=>(dN n20 n21 n22 n23 n24 (Int.tmod (wrap .i64 ((Int.tmod ah 4)+1)) 4) H17).bind λr25=>((r25.1).asI .i64).bind λn26=>(if bo H17 r25.2 then ((Hp.ldI r25.2 .i64 H4.length 0).bind λn27=>(Hp.ldI r25.2 .i64 H4.length (0+1)).bind λn28=>(Hp.ldI r25.2 .i64 H4.length (0+2)).bind λn29=>(Hp.ldI r25.2 .i64 H4.length (0+3)).bind λn30=>(Hp.ldI r25.2 .i64 H4.length (0+4)).bind λn31=>(dO n27 n28 n29 n30 n31 (Int.tmod (wrap .i64 ((Int.tmod ah 4)+1)) 4) r25.2).bind λr32=>((r32.1).asB).bind λb33=>(if bo r25.2 r32.2 then ((fd s18 n19 n26 (!b33) r32.2).bind λr34=>((r34.1).asTup 2).bind λl35=>(l35[0]?).bind λv36=>((v36).asI .i64).bind λn37=>(l35[1]?).bind λv38=>((v38).asI .i64).bind λn39=>some ((.int .i64 (wrap .i64 ((wrap .i64 (4 * n37))+n39))),r34.2)) else none)) else none)
def gO.tw:=gO.twX F (gz.tw F) (gA.tw F) (bE.tw F)
def gO.pn:Nat->List Nat:=dM [(3,[8])]
def gO.tb:Nat->List (List Nat):=dM [(3,[[],[],[],[1,2],[],[],[1,2,3,4,5],[1,2,3,4,5,6],[0,1,2,3,4,5,6,7],[0,1,2,3,4,5,6,7,8],[0,1,2,3,4,5,6,7,8,9],[0,1,2,3,4,5,6,7,8,9],[0,1,2,3,4,5,6,7,8,9,10],[0,1,2,3,4,5,6,7,8,9,10,11,12]])]
def gO.cs (F:Nat) (dN:ane) (dO:ane) (fd:anq):Cs:=[(63,mk6 dN),(64,mk6 dO),(82,mk7 fd)]
theorem gO.eqX (dN:ane) (dO:ane) (fd:anq) (aa:Sl) (ac:Int) (ah:Int) (H:Hp):EX (bl (gO.cs F dN dO fd)) gO.pn lh0 F Tryz.f65 [(.agg [(.sl aa),(.int .i64 ac)]),(.int .i64 ah)] H=gO.twX F dN dO fd aa ac ah H:=by kernel_rfl
theorem gO.k:Ok Tryz.prog 65 (mk1 (gO.tw F)):=by
 intro args H v H' h
 unfold mk1 at h
 split at h
 ·exact okT (TB:=gO.tb) Tryz.func65 (aR (gz.k F) (aR (gA.k F) (aR (bE.k F) cD))) ae.no ((gO.eqX F (gz.tw F) (gA.tw F) (bE.tw F) _ _ _ H).trans h) (by kernel_rfl)
 ·cases h
def bI.j4 (F:Nat) (hQ:ani) (C61_:anC) (EP:Nat) (acS:Nat) (acT:Sl) (acU:Sl) (lO:Int) (H108:Hp):OA:=C61_ EP acS acT acU (wrap .i64 (lO+1)) H108
def bI.j5 (F:Nat) (hQ:ani) (C61_:anC) (EQ:Nat) (acV:Nat) (acW:Sl) (acX:Sl) (xQ:Int) (H164:Hp):OA:=C61_ EQ acV acW acX (wrap .i64 (xQ+1)) H164
def bI.j6 (hQ:ani) (C61_:anC) (ER:Nat) (pg:Nat) (oO:Sl) (xR:Sl) (xS:Int) (tL:Sl) (H147:Hp):OA:=(Hp.new H147 [(.sl tL)]).bind λH148=>(Sl.row H148 (⟨some (H147.length,0),1,.ex 1⟩:Sl) 1).bind λxs150=>(Hp.app H148 1 24 oO (⟨some (H147.length,0),1,.ex 1⟩:Sl).n xs150).bind λa149=>bI.j5 F hQ C61_ ER pg a149.1 xR xS a149.2
def bI.l7853 (F:Nat) (hQ:ani) (C61_:anC):Nat->Nat->Nat->Sl->Sl->Int->Sl->Int->Hp->OA
 | 0,_,_,_,_,_,_,_,_=>none
 | acY+1,rR,xT,ES,xU,qz,mF,m_,H122=>(Sl.idx xU m_ 1).bind λp165=>(Hp.ldB H122 p165.1 p165.2).bind λb166=>(bif (!b166) then ((Sl.idx xU m_ 1).bind λp167=>(Hp.st H122 p167.1 p167.2 (.bool true)).bind λH168=>(Hp.new H168 [(.int .i64 m_)]).bind λH169=>(Sl.row H169 (⟨some (H168.length,0),1,.ex 1⟩:Sl) 1).bind λxs171=>(Hp.app H169 1 8 mF (⟨some (H168.length,0),1,.ex 1⟩:Sl).n xs171).bind λa170=>(Hp.ldSl a170.2 rR xT).bind λs172=>(Hp.ldI a170.2 .i64 rR (xT+1)).bind λn173=>(hQ s172 n173 m_ a170.2).bind λr174=>((r174.1).asI .i64).bind λn175=>bI.l7853 F hQ C61_ acY rR xT ES xU qz a170.1 n175 r174.2) else (bI.j6 F hQ C61_ rR xT ES xU qz mF H122))
termination_by structural n=>n
def bI.l61 (F:Nat) (hQ:ani) :Nat->Nat->Nat->Sl->Sl->Int->Hp->OA
 | 0,_,_,_,_,_,_=>none
 | fB+1,lL,gm,eR,qw,kL,H15=>(bif (decide (kL<(qw.n:Int))) then ((Sl.idx qw kL 1).bind λp96=>(Hp.ldB H15 p96.1 p96.2).bind λb97=>(bif b97 then (bI.j4 F hQ (bI.l61 F hQ fB) lL gm eR qw kL H15) else ((Hp.new H15 []).bind λH109=>bI.l7853 F hQ (bI.l61 F hQ fB) F lL gm eR qw kL (⟨some (H15.length,0),0,.ex 0⟩:Sl) kL H109))) else (some ((.sl eR),H15)))
termination_by structural n=>n
def bI.twX (hQ:ani) (aa:Sl) (ac:Int) (H:Hp):OA:=(Hp.new H [(.sl aa),(.int .i64 ac)]).bind λH3=>(Hp.new H3 []).bind λH4=>(Hp.ldSl H4 H.length 0).bind λs5=>(Hp.mk H4 [.bool false] 1 (wrap .i64 (4 * (s5.n:Int))) (wrap .i64 (4 * (s5.n:Int)))).bind λm6=>bI.l61 F hQ F H.length 0 (⟨some (H3.length,0),0,.ex 0⟩:Sl) m6.1 0 m6.2
def bI.tw:=bI.twX F (gO.tw F)
def bI.lh61 (hQ:ani) (ks:am6) (n:Nat) (tm:Tm) (H:Hp):OA:=match ks,tm 1,tm 3,tm 4,tm 5 with
 | [],(.ptr lL gm),(.sl eR),(.sl qw),(.int .i64 kL)=>bI.l61 F hQ n lL gm eR qw kL H
 | _,_,_,_,_=>none
def bI.lh7853 (hQ:ani) (ks:am6) (n:Nat) (tm:Tm) (H:Hp):OA:=match ks,tm 1,tm 3,tm 4,tm 5,tm 6,tm 7 with
 | [fB],(.ptr rR xT),(.sl ES),(.sl xU),(.int .i64 qz),(.sl mF),(.int .i64 m_)=>bI.l7853 F hQ (bI.l61 F hQ fB) n rR xT ES xU qz mF m_ H
 | _,_,_,_,_,_,_=>none
def bI.lh (hQ:ani) (p:Nat) (ks:am6) (n:Nat) (tm:Tm) (H:Hp):OA:=bif p.beq 7853 then bI.lh7853 F hQ ks n tm H else (bif p.beq 61 then bI.lh61 F hQ ks n tm H else (none))
def bI.cs (F:Nat) (hQ:ani):Cs:=[(65,mk1 hQ)]
theorem bI.loops (hQ:ani):LO (bl (bI.cs F hQ)) bf (bI.lh F hQ) F Tryz.f42:=
 (ae.rt (ae.rt (ae.rt (ae.lt (ae.rt (ae.block (ae.la (λn tm H r h=>by change bI.lh61 F hQ [] n tm H=_ at h;unfold bI.lh61 at h;split at h;have e:c_ tm [(1,_),(3,_),(4,_),(5,_)]:=⟨‹_›,‹_›,‹_›,‹_›,trivial⟩;obtain _ | k61:=n;cases h;exact ⟨_,rfl,by rw [<- db e];exact Eq.trans (by kernel_rfl) h⟩;cases h) λk61=>(ae.rt (ae.lt (ae.block (ae.rt (ae.rt (ae.lt (ae.rt (ae.block (ae.la (λn tm H r h=>by change bI.lh7853 F hQ [k61] n tm H=_ at h;unfold bI.lh7853 at h;split at h;have e:c_ tm [(1,_),(3,_),(4,_),(5,_),(6,_),(7,_)]:=⟨‹_›,‹_›,‹_›,‹_›,‹_›,‹_›,trivial⟩;cases (show [k61]=_ from ‹_›);obtain _ | k7853:=n;cases h;exact ⟨_,rfl,by rw [<- db e];exact Eq.trans (by kernel_rfl) h⟩;cases h) λk7853=>ae.no))))))))))))))))
theorem bI.eqX (hQ:ani) (aa:Sl) (ac:Int) (H:Hp):EX (bl (bI.cs F hQ)) bf (bI.lh F hQ) F Tryz.f42 [(.agg [(.sl aa),(.int .i64 ac)])] H=bI.twX F hQ aa ac H:=by kernel_rfl
theorem bI.k:Ok Tryz.prog 42 (mk4 (bI.tw F)):=by
 intro args H v H' h
 unfold mk4 at h
 split at h
 ·exact okT (TB:=bf) Tryz.func42 (aR (gO.k F) cD) (bI.loops F (gO.tw F)) ((bI.eqX F (gO.tw F) _ _ H).trans h) (by kernel_rfl)
 ·cases h
def a_.j6 (F:Nat) (fd:anq) (C61_:ant) (ET:Nat) (acZ:Nat) (ac0:Sl) (xV:Int) (H243:Hp):OA:=C61_ ET acZ ac0 (wrap .i64 (xV+1)) H243
def a_.j7 (fd:anq) (C61_:ant) (EU:Nat) (ac1:Nat) (xW:Sl) (tM:Int) (H226:Hp):OA:=a_.j6 F fd C61_ EU ac1 xW tM H226
def a_.j8 (F:Nat) (fd:anq) (C7855_:an2) (EV:Nat) (ac2:Nat) (ac3:Sl) (xX:Int) (xY:Int) (xZ:Int) (x_:Int) (H265:Hp):OA:=C7855_ EV ac2 ac3 xX xY xZ (wrap .i64 (x_+1)) H265
def a_.l7855 (F:Nat) (fd:anq) (C61_:ant):Nat->Nat->Nat->Sl->Int->Int->Int->Int->Hp->OA
 | 0,_,_,_,_,_,_,_,_=>none
 | Ug+1,sC,Ch,tO,pi,lP,lQ,na,H187=>(bif (decide (na<(tO.n:Int))) then ((Sl.idx tO na 1).bind λp244=>(Hp.ldI H187 .i64 p244.1 p244.2).bind λn245=>(bif (n245==(if lQ>lP then lQ else lP)) then ((Sl.idx tO na 1).bind λp246=>(Hp.st H187 p246.1 p246.2 (.int .i64 (if lQ<lP then lQ else lP))).bind λH247=>a_.j8 F fd (a_.l7855 F fd C61_ Ug) sC Ch tO pi lP lQ na H247) else (a_.j8 F fd (a_.l7855 F fd C61_ Ug) sC Ch tO pi lP lQ na H187))) else (a_.j7 F fd C61_ sC Ch tO pi H187))
termination_by structural n=>n
def a_.l61 (F:Nat) (fd:anq) :Nat->Nat->Nat->Sl->Int->Hp->OA
 | 0,_,_,_,_,_=>none
 | fB+1,kV,pj,ya,hU,H35=>(Hp.ldSl H35 kV pj).bind λs151=>(bif (decide (hU<(wrap .i64 (2 * (s151.n:Int))))) then ((Hp.ldSl H35 kV pj).bind λs152=>(Hp.ldI H35 .i64 kV (pj+1)).bind λn153=>(fd s152 n153 hU true H35).bind λr154=>((r154.1).asTup 2).bind λl155=>(l155[0]?).bind λv156=>((v156).asI .i64).bind λn157=>(l155[1]?).bind λv158=>((v158).asI .i64).bind λn159=>(Hp.ldSl r154.2 kV pj).bind λs160=>(Hp.ldI r154.2 .i64 kV (pj+1)).bind λn161=>(fd s160 n161 hU false r154.2).bind λr162=>((r162.1).asTup 2).bind λl163=>(l163[0]?).bind λv164=>((v164).asI .i64).bind λn165=>(l163[1]?).bind λv166=>((v166).asI .i64).bind λn167=>(Sl.idx ya n157 1).bind λp168=>(Hp.ldI r162.2 .i64 p168.1 p168.2).bind λn169=>(Sl.idx ya n165 1).bind λp170=>(Hp.ldI r162.2 .i64 p170.1 p170.2).bind λn171=>a_.l7855 F fd (a_.l61 F fd fB) F kV pj ya hU n169 n171 0 r162.2) else (some ((.sl ya),H35)))
termination_by structural n=>n
def a_.j9 (fd:anq) (EW:Nat) (yb:Nat) (ac4:Sl) (H25:Hp):OA:=a_.l61 F fd F EW yb ac4 0 H25
def a_.l29 (F:Nat) (fd:anq) :Nat->Nat->Nat->Sl->Int->Hp->OA
 | 0,_,_,_,_,_=>none
 | fG+1,lR,fL,ph,lq,H12=>(Hp.ldSl H12 lR fL).bind λs266=>(bif (decide (lq<(s266.n:Int))) then ((Hp.new H12 [(.int .i64 lq)]).bind λH267=>(Sl.row H267 (⟨some (H12.length,0),1,.ex 1⟩:Sl) 1).bind λxs269=>(Hp.app H267 1 8 ph (⟨some (H12.length,0),1,.ex 1⟩:Sl).n xs269).bind λa268=>a_.l29 F fd fG lR fL a268.1 (wrap .i64 (lq+1)) a268.2) else (a_.j9 F fd lR fL ph H12))
termination_by structural n=>n
def a_.twX (fd:anq) (aa:Sl) (ac:Int) (H:Hp):OA:=(Hp.new H [(.sl aa),(.int .i64 ac)]).bind λH3=>(Hp.new H3 []).bind λH4=>a_.l29 F fd F H.length 0 (⟨some (H3.length,0),0,.ex 0⟩:Sl) 0 H4
def a_.tw:=a_.twX F (bE.tw F)
def a_.lh29 (fd:anq) (ks:am6) (n:Nat) (tm:Tm) (H:Hp):OA:=match ks,tm 1,tm 3,tm 4 with
 | [],(.ptr lR fL),(.sl ph),(.int .i64 lq)=>a_.l29 F fd n lR fL ph lq H
 | _,_,_,_=>none
def a_.lh61 (fd:anq) (ks:am6) (n:Nat) (tm:Tm) (H:Hp):OA:=match ks,tm 1,tm 3,tm 5 with
 | [],(.ptr kV pj),(.sl ya),(.int .i64 hU)=>a_.l61 F fd n kV pj ya hU H
 | _,_,_,_=>none
def a_.lh7855 (fd:anq) (ks:am6) (n:Nat) (tm:Tm) (H:Hp):OA:=match ks,tm 1,tm 3,tm 5,tm 10,tm 11,tm 12 with
 | [fB],(.ptr sC Ch),(.sl tO),(.int .i64 pi),(.int .i64 lP),(.int .i64 lQ),(.int .i64 na)=>a_.l7855 F fd (a_.l61 F fd fB) n sC Ch tO pi lP lQ na H
 | _,_,_,_,_,_,_=>none
def a_.lh (fd:anq) (p:Nat) (ks:am6) (n:Nat) (tm:Tm) (H:Hp):OA:=bif p.beq 7855 then a_.lh7855 F fd ks n tm H else (bif p.beq 61 then a_.lh61 F fd ks n tm H else (bif p.beq 29 then a_.lh29 F fd ks n tm H else (none)))
def a_.tb:Nat->List (List Nat):=dM [(11,[[],[],[0,1],[0,1,2],[],[],[4,5],[4,5,6],[0,1,2,3],[0,1,2,3,4,5,6,7,8]])]
def a_.cs (F:Nat) (fd:anq):Cs:=[(82,mk7 fd)]
theorem a_.loops (fd:anq):LO (bl (a_.cs F fd)) bf (a_.lh F fd) F Tryz.f66:=
 (ae.rt (ae.rt (ae.seq (ae.rt (ae.block (ae.la (λn tm H r h=>by change a_.lh29 F fd [] n tm H=_ at h;unfold a_.lh29 at h;split at h;have e:c_ tm [(1,_),(3,_),(4,_)]:=⟨‹_›,‹_›,‹_›,trivial⟩;obtain _ | k29:=n;cases h;exact ⟨_,rfl,by rw [<- db e];exact Eq.trans (by kernel_rfl) h⟩;cases h) λk29=>ae.no))) (ae.lt (ae.rt (ae.block (ae.la (λn tm H r h=>by change a_.lh61 F fd [] n tm H=_ at h;unfold a_.lh61 at h;split at h;have e:c_ tm [(1,_),(3,_),(5,_)]:=⟨‹_›,‹_›,‹_›,trivial⟩;obtain _ | k61:=n;cases h;exact ⟨_,rfl,by rw [<- db e];exact Eq.trans (by kernel_rfl) h⟩;cases h) λk61=>(ae.rt (ae.lt (ae.block (ae.rt (ae.rt (ae.rt (ae.rt (ae.block (ae.la (λn tm H r h=>by change a_.lh7855 F fd [k61] n tm H=_ at h;unfold a_.lh7855 at h;split at h;have e:c_ tm [(1,_),(3,_),(5,_),(10,_),(11,_),(12,_)]:=⟨‹_›,‹_›,‹_›,‹_›,‹_›,‹_›,trivial⟩;cases (show [k61]=_ from ‹_›);obtain _ | k7855:=n;cases h;exact ⟨_,rfl,by rw [<- db e];exact Eq.trans (by kernel_rfl) h⟩;cases h) λk7855=>ae.no))))))))))))))))
theorem a_.eqX (fd:anq) (aa:Sl) (ac:Int) (H:Hp):EX (bl (a_.cs F fd)) bf (a_.lh F fd) F Tryz.f66 [(.agg [(.sl aa),(.int .i64 ac)])] H=a_.twX F fd aa ac H:=by kernel_rfl
theorem a_.k:Ok Tryz.prog 66 (mk4 (a_.tw F)):=by
 intro args H v H' h
 unfold mk4 at h
 split at h
 ·exact okT (TB:=a_.tb) Tryz.func66 (aR (bE.k F) cD) (a_.loops F (bE.tw F)) ((a_.eqX F (bE.tw F) _ _ H).trans h) (by kernel_rfl)
 ·cases h
def dv.j2 (F:Nat) (kM:am8) (C61_:anB) (yc:Int) (ac5:Sl) (yd:Int) (H42:Hp):OA:=C61_ yc ac5 (wrap .i64 (yd+1)) H42
def dv.l61 (F:Nat) (kM:am8) :Nat->Int->Sl->Int->Hp->OA
 | 0,_,_,_,_=>none
 | fB+1,dy,gK,fS,H16=>(bif (decide (fS<(gK.n:Int))) then ((Sl.idx gK fS 1).bind λp30=>(Hp.ldI H16 .i64 p30.1 p30.2).bind λn31=>(bif (n31==fS) then (dv.j2 F kM (dv.l61 F kM fB) (wrap .i64 (dy+1)) gK fS H16) else (dv.j2 F kM (dv.l61 F kM fB) dy gK fS H16))) else (some ((.int .i64 dy),H16)))
def dv.twX (kM:am8) (aa:Sl) (ac:Int) (H:Hp):OA:=(Hp.new H [(.sl aa),(.int .i64 ac)]).bind λH3=>(Hp.ldSl H3 H.length 0).bind λs4=>(Hp.ldI H3 .i64 H.length (0+1)).bind λn5=>(kM s4 n5 H3).bind λr6=>((r6.1).asSl).bind λs7=>dv.l61 F kM F 0 s7 0 r6.2
def dv.tw:=dv.twX F (a_.tw F)
def dv.lh61 (kM:am8) (ks:am6) (n:Nat) (tm:Tm) (H:Hp):OA:=match ks,tm 3,tm 4,tm 5 with
 | [],(.int .i64 dy),(.sl gK),(.int .i64 fS)=>dv.l61 F kM n dy gK fS H
 | _,_,_,_=>none
def dv.lh (kM:am8) (p:Nat) (ks:am6) (n:Nat) (tm:Tm) (H:Hp):OA:=bif p.beq 61 then dv.lh61 F kM ks n tm H else (none)
def dv.cs (F:Nat) (kM:am8):Cs:=[(66,mk4 kM)]
theorem dv.loops (kM:am8):LO (bl (dv.cs F kM)) bf (dv.lh F kM) F Tryz.f43:=
 (ae.rt (ae.rt (ae.rt (ae.lt (ae.rt (ae.block (ae.la (λn tm H r h=>by change dv.lh61 F kM [] n tm H=_ at h;unfold dv.lh61 at h;split at h;have e:c_ tm [(3,_),(4,_),(5,_)]:=⟨‹_›,‹_›,‹_›,trivial⟩;obtain _ | k61:=n;cases h;exact ⟨_,rfl,by rw [<- db e];exact Eq.trans (by kernel_rfl) h⟩;cases h) λk61=>ae.no)))))))
theorem dv.eqX (kM:am8) (aa:Sl) (ac:Int) (H:Hp):EX (bl (dv.cs F kM)) bf (dv.lh F kM) F Tryz.f43 [(.agg [(.sl aa),(.int .i64 ac)])] H=dv.twX F kM aa ac H:=by kernel_rfl
theorem dv.k:Ok Tryz.prog 43 (mk4 (dv.tw F)):=by
 intro args H v H' h
 unfold mk4 at h
 split at h
 ·exact okT (TB:=bf) Tryz.func43 (aR (a_.k F) cD) (dv.loops F (a_.tw F)) ((dv.eqX F (a_.tw F) _ _ H).trans h) (by kernel_rfl)
 ·cases h
def gL.twX (F:Nat) (eM:ang) (ye:am8) (yf:am8) (yh:am8) (aa:Sl) (ac:Int) (H:Hp):OA:=(Hp.new H [(.sl aa),(.int .i64 ac)]).bind λH3=>(Hp.ldSl H3 H.length 0).bind λs4=>(bif (decide ((s4.n:Int)>10)) then (some ((.bool false),H3)) else ((Hp.ldI H3 .i64 H.length 1).bind λn5=>(eM n5 0 8 H3).bind λr6=>((r6.1).asB).bind λb7=>(bif (!b7) then (some ((.bool false),r6.2)) else ((Hp.ldSl r6.2 H.length 0).bind λs8=>(Hp.ldI r6.2 .i64 H.length (0+1)).bind λn9=>(ye s8 n9 r6.2).bind λr10=>((r10.1).asB).bind λb11=>(bif (!b11) then (some ((.bool false),r10.2)) else ((Hp.ldSl r10.2 H.length 0).bind λs12=>(Hp.ldI r10.2 .i64 H.length (0+1)).bind λn13=>(yf s12 n13 r10.2).bind λr14=>((r14.1).asSl).bind λs15=>(if bo r10.2 r14.2 then ((Hp.ldSl r14.2 H.length 0).bind λs16=>(Hp.ldSl r14.2 H.length 0).bind λs17=>(Hp.ldI r14.2 .i64 H.length (0+1)).bind λn18=>(yh s17 n18 r14.2).bind λr19=>((r19.1).asI .i64).bind λn20=>(if bo r14.2 r19.2 then (some ((.bool ((s15.n:Int)==(wrap .i64 ((s16.n:Int)+(wrap .i64 (2 * n20)))))),r19.2)) else none)) else none)))))))
def gL.tw:=gL.twX F (fX.tw F) (cg.tw F) (bI.tw F) (dv.tw F)
def gL.tb:Nat->List (List Nat):=dM [(3,[[],[0],[0,1],[],[3],[3,4],[],[0,1,6],[0,1,6,7],[0,1,3,4,5,6,7,8],[0,1,2,3,4,5,6,7,8,9],[0,1,2,3,4,5,6,7,8,9,10]])]
def gL.cs (F:Nat) (eM:ang) (ye:am8) (yf:am8) (yh:am8):Cs:=[(18,mk5 eM),(41,mk4 ye),(42,mk4 yf),(43,mk4 yh)]
theorem gL.eqX (eM:ang) (ye:am8) (yf:am8) (yh:am8) (aa:Sl) (ac:Int) (H:Hp):EX (bl (gL.cs F eM ye yf yh)) bf lh0 F Tryz.f17 [(.agg [(.sl aa),(.int .i64 ac)])] H=gL.twX F eM ye yf yh aa ac H:=by kernel_rfl
theorem gL.k:Ok Tryz.prog 17 (mk4 (gL.tw F)):=by
 intro args H v H' h
 unfold mk4 at h
 split at h
 ·exact okT (TB:=gL.tb) Tryz.func17 (aR (fX.k F) (aR (cg.k F) (aR (bI.k F) (aR (dv.k F) cD)))) ae.no ((gL.eqX F (fX.tw F) (cg.tw F) (bI.tw F) (dv.tw F) _ _ H).trans h) (by kernel_rfl)
 ·cases h
def aH.j6 (F:Nat) (EY:Nat) (ac6:Nat) (ac7:Sl) (yi:Int) (H211:Hp):OA:=(Hp.ldI H211 .i64 EY (ac6+1)).bind λn212=>some ((.tup [(.sl ac7),(.int .i64 (wrap .i64 (yi+n212)))]),H211)
def aH.j7 (F:Nat) (C509_:an_) (EZ:Nat) (ac8:Nat) (yj:Sl) (ac9:Sl) (yk:Int) (ym:Int) (H234:Hp):OA:=C509_ EZ ac8 yj ac9 yk (wrap .i64 (ym+1)) H234
def aH.l509 (F:Nat) :Nat->Nat->Nat->Sl->Sl->Int->Int->Hp->OA
 | 0,_,_,_,_,_,_,_=>none
 | Uh+1,sD,Ci,vp,yn,nb,lT,H166=>(bif (decide (lT<(vp.n:Int))) then ((Sl.idx vp lT 1).bind λp213=>(Hp.ldI H166 .i64 p213.1 p213.2).bind λn214=>(bif (n214==lT) then ((Hp.new H166 [(.int .i64 nb)]).bind λH215=>(Sl.row H215 (⟨some (H166.length,0),1,.ex 1⟩:Sl) 1).bind λxs217=>(Hp.app H215 1 8 yn (⟨some (H166.length,0),1,.ex 1⟩:Sl).n xs217).bind λa216=>aH.j7 F (aH.l509 F Uh) sD Ci vp a216.1 (wrap .i64 (nb+1)) lT a216.2) else ((Sl.idx vp lT 1).bind λp235=>(Hp.ldI H166 .i64 p235.1 p235.2).bind λn236=>(Sl.idx yn n236 1).bind λp237=>(Hp.ldI H166 .i64 p237.1 p237.2).bind λn238=>(Hp.new H166 [(.int .i64 n238)]).bind λH239=>(Sl.row H239 (⟨some (H166.length,0),1,.ex 1⟩:Sl) 1).bind λxs241=>(Hp.app H239 1 8 yn (⟨some (H166.length,0),1,.ex 1⟩:Sl).n xs241).bind λa240=>aH.j7 F (aH.l509 F Uh) sD Ci vp a240.1 nb lT a240.2))) else (aH.j6 F sD Ci yn nb H166))
termination_by structural n=>n
def aH.j8 (E_:Nat) (ac_:Nat) (ada:Sl) (H150:Hp):OA:=(Hp.new H150 []).bind λH151=>aH.l509 F F E_ ac_ ada (⟨some (H150.length,0),0,.ex 0⟩:Sl) 0 0 H151
def aH.j10 (F:Nat) (C61_:ant) (Fa:Nat) (adb:Nat) (adc:Sl) (yo:Int) (H320:Hp):OA:=C61_ Fa adb adc (wrap .i64 (yo+1)) H320
def aH.j11 (C61_:ant) (Fb:Nat) (ade:Nat) (adf:Sl) (yp:Int) (H304:Hp):OA:=aH.j10 F C61_ Fb ade adf yp H304
def aH.j12 (F:Nat) (C1963_:an2) (Fc:Nat) (adg:Nat) (adh:Sl) (yq:Int) (yr:Int) (yt:Int) (yu:Int) (H341:Hp):OA:=C1963_ Fc adg adh yq yr yt (wrap .i64 (yu+1)) H341
def aH.l1963 (F:Nat) (C61_:ant):Nat->Nat->Nat->Sl->Int->Int->Int->Int->Hp->OA
 | 0,_,_,_,_,_,_,_,_=>none
 | Ui+1,sE,Cj,tP,pl,lU,lV,ng,H267=>(bif (decide (ng<(tP.n:Int))) then ((Sl.idx tP ng 1).bind λp321=>(Hp.ldI H267 .i64 p321.1 p321.2).bind λn322=>(bif (n322==(if lV>lU then lV else lU)) then ((Sl.idx tP ng 1).bind λp323=>(Hp.st H267 p323.1 p323.2 (.int .i64 (if lV<lU then lV else lU))).bind λH324=>aH.j12 F (aH.l1963 F C61_ Ui) sE Cj tP pl lU lV ng H324) else (aH.j12 F (aH.l1963 F C61_ Ui) sE Cj tP pl lU lV ng H267))) else (aH.j11 F C61_ sE Cj tP pl H267))
termination_by structural n=>n
def aH.l61 (F:Nat) :Nat->Nat->Nat->Sl->Int->Hp->OA
 | 0,_,_,_,_,_=>none
 | fB+1,qA,vq,yw,nH,H38=>(Hp.ldSl H38 qA vq).bind λs242=>(bif (decide (nH<(s242.n:Int))) then ((Hp.ldSl H38 qA vq).bind λs243=>(Sl.idx s243 nH 5).bind λp244=>(Hp.ldI H38 .i64 p244.1 (p244.2+1)).bind λn245=>(Sl.idx yw n245 1).bind λp246=>(Hp.ldI H38 .i64 p246.1 p246.2).bind λn247=>(Hp.ldSl H38 qA vq).bind λs248=>(Sl.idx s248 nH 5).bind λp249=>(Hp.ldI H38 .i64 p249.1 (p249.2+3)).bind λn250=>(Sl.idx yw n250 1).bind λp251=>(Hp.ldI H38 .i64 p251.1 p251.2).bind λn252=>aH.l1963 F (aH.l61 F fB) F qA vq yw nH n247 n252 0 H38) else (aH.j8 F qA vq yw H38))
termination_by structural n=>n
def aH.j13 (yb:Nat) (adi:Nat) (adj:Sl) (H27:Hp):OA:=aH.l61 F F yb adi adj 0 H27
def aH.l29 (F:Nat) :Nat->Nat->Nat->Sl->Int->Hp->OA
 | 0,_,_,_,_,_=>none
 | fG+1,lR,fL,lq,nI,H13=>(Hp.ldSl H13 lR fL).bind λs342=>(bif (decide (nI<(wrap .i64 (2 * (s342.n:Int))))) then ((Hp.new H13 [(.int .i64 nI)]).bind λH343=>(Sl.row H343 (⟨some (H13.length,0),1,.ex 1⟩:Sl) 1).bind λxs345=>(Hp.app H343 1 8 lq (⟨some (H13.length,0),1,.ex 1⟩:Sl).n xs345).bind λa344=>aH.l29 F fG lR fL a344.1 (wrap .i64 (nI+1)) a344.2) else (aH.j13 F lR fL lq H13))
termination_by structural n=>n
def aH.twX (aa:Sl) (ac:Int) (H:Hp):OA:=(Hp.new H [(.sl aa),(.int .i64 ac)]).bind λH3=>(Hp.new H3 []).bind λH4=>aH.l29 F F H.length 0 (⟨some (H3.length,0),0,.ex 0⟩:Sl) 0 H4
def aH.tw:=aH.twX F
def aH.lh29 (ks:am6) (n:Nat) (tm:Tm) (H:Hp):OA:=match ks,tm 1,tm 4,tm 5 with
 | [],(.ptr lR fL),(.sl lq),(.int .i64 nI)=>aH.l29 F n lR fL lq nI H
 | _,_,_,_=>none
def aH.lh61 (ks:am6) (n:Nat) (tm:Tm) (H:Hp):OA:=match ks,tm 1,tm 4,tm 6 with
 | [],(.ptr qA vq),(.sl yw),(.int .i64 nH)=>aH.l61 F n qA vq yw nH H
 | _,_,_,_=>none
def aH.lh509 (ks:am6) (n:Nat) (tm:Tm) (H:Hp):OA:=match ks,tm 1,tm 4,tm 10,tm 11,tm 12 with
 | [],(.ptr sD Ci),(.sl vp),(.sl yn),(.int .i64 nb),(.int .i64 lT)=>aH.l509 F n sD Ci vp yn nb lT H
 | _,_,_,_,_,_=>none
def aH.lh1963 (ks:am6) (n:Nat) (tm:Tm) (H:Hp):OA:=match ks,tm 1,tm 4,tm 6,tm 7,tm 8,tm 9 with
 | [fB],(.ptr sE Cj),(.sl tP),(.int .i64 pl),(.int .i64 lU),(.int .i64 lV),(.int .i64 ng)=>aH.l1963 F (aH.l61 F fB) n sE Cj tP pl lU lV ng H
 | _,_,_,_,_,_,_=>none
def aH.lh (p:Nat) (ks:am6) (n:Nat) (tm:Tm) (H:Hp):OA:=bif p.beq 1963 then aH.lh1963 F ks n tm H else (bif p.beq 509 then aH.lh509 F ks n tm H else (bif p.beq 61 then aH.lh61 F ks n tm H else (bif p.beq 29 then aH.lh29 F ks n tm H else (none))))
def aH.tb:Nat->List (List Nat):=dM [(9,[[],[],[1],[],[1,2,3],[1,2,3,4],[1,2,3,4,5],[0,1,2,3,4,5,6],[0,1,2,3,4,5,6,7],[],[],[10],[],[10,11,12],[10,11,12,13],[10,11,12,13,14],[9,10,11,12,13,14,15],[9,10,11,12,13,14,15,16],[0,1,2,3,4,5,6,7,8],[0,1,2,3,4,5,6,7,8,9,10,11,12,13,14,15,16,17,18]]),(24,[[],[],[],[2],[1,2,3],[0],[0,1,2,3,4,5]])]
theorem aH.loops:LO (bl []) bf (aH.lh F) F Tryz.f44:=
 (ae.rt (ae.rt (ae.seq (ae.rt (ae.block (ae.la (λn tm H r h=>by change aH.lh29 F [] n tm H=_ at h;unfold aH.lh29 at h;split at h;have e:c_ tm [(1,_),(4,_),(5,_)]:=⟨‹_›,‹_›,‹_›,trivial⟩;obtain _ | k29:=n;cases h;exact ⟨_,rfl,by rw [<- db e];exact Eq.trans (by kernel_rfl) h⟩;cases h) λk29=>ae.no))) (ae.seq (ae.rt (ae.block (ae.la (λn tm H r h=>by change aH.lh61 F [] n tm H=_ at h;unfold aH.lh61 at h;split at h;have e:c_ tm [(1,_),(4,_),(6,_)]:=⟨‹_›,‹_›,‹_›,trivial⟩;obtain _ | k61:=n;cases h;exact ⟨_,rfl,by rw [<- db e];exact Eq.trans (by kernel_rfl) h⟩;cases h) λk61=>(ae.rt (ae.lt (ae.block (ae.rt (ae.rt (ae.block (ae.la (λn tm H r h=>by change aH.lh1963 F [k61] n tm H=_ at h;unfold aH.lh1963 at h;split at h;have e:c_ tm [(1,_),(4,_),(6,_),(7,_),(8,_),(9,_)]:=⟨‹_›,‹_›,‹_›,‹_›,‹_›,‹_›,trivial⟩;cases (show [k61]=_ from ‹_›);obtain _ | k1963:=n;cases h;exact ⟨_,rfl,by rw [<- db e];exact Eq.trans (by kernel_rfl) h⟩;cases h) λk1963=>ae.no)))))))))) (ae.rt (ae.rt (ae.lt (ae.rt (ae.block (ae.la (λn tm H r h=>by change aH.lh509 F [] n tm H=_ at h;unfold aH.lh509 at h;split at h;have e:c_ tm [(1,_),(4,_),(10,_),(11,_),(12,_)]:=⟨‹_›,‹_›,‹_›,‹_›,‹_›,trivial⟩;obtain _ | k509:=n;cases h;exact ⟨_,rfl,by rw [<- db e];exact Eq.trans (by kernel_rfl) h⟩;cases h) λk509=>ae.no))))))))))
theorem aH.k:Ok Tryz.prog 44 (mk4 (aH.tw F)):=by
 intro args H v H' h
 unfold mk4 at h
 split at h
 ·exact okT (PN:=bf) (LH:=(aH.lh F)) (F:=F) (TB:=aH.tb) Tryz.func44 cD (aH.loops F) (Eq.trans (by kernel_rfl) h) (by kernel_rfl)
 ·cases h
def fM.twX (F:Nat) (aa:Int) (au:Int) (H:Hp):OA:=(Hp.new H [.int .i64 0,.int .i64 0,.sl ⟨none,0,.ex 0⟩]).bind λH3=>(Hp.mk H3 [.int .i64 0] 8 (wrap .i64 (aa * au)) (wrap .i64 (aa * au))).bind λm4=>(Hp.st m4.2 H.length 0 (.int .i64 aa)).bind λH5=>(Hp.st H5 H.length (0+1) (.int .i64 au)).bind λH6=>(Hp.st H6 H.length (0+1+1) (.sl m4.1)).bind λH7=>(Hp.ldI H7 .i64 H.length 0).bind λn8=>(Hp.ldI H7 .i64 H.length (0+1)).bind λn9=>(Hp.ldSl H7 H.length (0+2)).bind λs10=>some ((.agg [(.int .i64 n8),(.int .i64 n9),(.sl s10)]),H7)
def fM.tw:=fM.twX F
def mk8 (g:ana) (args:anb) (H:Hp):OA:=match args with
 | [(.int .i64 aa),(.int .i64 au)]=>g aa au H
 | _=>none
theorem mk8_E (g:ana) (aa:Int) (au:Int) (H:Hp):mk8 g [(.int .i64 aa),(.int .i64 au)] H=g aa au H:=rfl
theorem fM.k:Ok Tryz.prog 31 (mk8 (fM.tw F)):=by
 intro args H v H' h
 unfold mk8 at h
 split at h
 ·exact ok0 Tryz.func31 (Eq.trans (by kernel_rfl) h) (by kernel_rfl) (by kernel_rfl)
 ·cases h
def dP.l61 (F:Nat) (mI:am8) (dx:ana) :Nat->Nat->Nat->Nat->Nat->Sl->Int->Nat->Nat->Int->Hp->OA
 | 0,_,_,_,_,_,_,_,_,_,_=>none
 | fB+1,kV,pj,pm,sF,yx,kW,hU,po,jL,H37=>(Hp.ldI H37 .i64 hU po).bind λn88=>(bif (decide (jL<n88)) then ((Hp.ldSl H37 kV pj).bind λs89=>(Sl.idx s89 jL 5).bind λp90=>(Hp.ldI H37 .i64 p90.1 p90.2).bind λn91=>(Hp.ldI H37 .i64 p90.1 (p90.2+1)).bind λn92=>(Hp.ldI H37 .i64 p90.1 (p90.2+2)).bind λn93=>(Hp.ldI H37 .i64 p90.1 (p90.2+3)).bind λn94=>(Hp.ldI H37 .i64 p90.1 (p90.2+4)).bind λn95=>(Hp.new H37 [.int .i64 0,.int .i64 0,.int .i64 0,.int .i64 0,.int .i64 0]).bind λH96=>(Hp.st H96 H37.length 0 (.int .i64 n91)).bind λH97=>(Hp.st H97 H37.length (0+1) (.int .i64 n92)).bind λH98=>(Hp.st H98 H37.length (0+1+1) (.int .i64 n93)).bind λH99=>(Hp.st H99 H37.length (0+1+1+1) (.int .i64 n94)).bind λH100=>(Hp.st H100 H37.length (0+1+1+1+1) (.int .i64 n95)).bind λH101=>(Hp.ldI H101 .i64 H37.length 0).bind λn102=>(Sl.idx yx n102 1).bind λp103=>(Hp.ldI H101 .i64 p103.1 p103.2).bind λn104=>(Hp.ldI H101 .i64 H37.length 2).bind λn105=>(Sl.idx yx n105 1).bind λp106=>(Hp.ldI H101 .i64 p106.1 p106.2).bind λn107=>(Hp.ldI H101 .i64 H37.length 1).bind λn108=>(Sl.idx yx n108 1).bind λp109=>(Hp.ldI H101 .i64 p109.1 p109.2).bind λn110=>(Hp.ldSl H101 hU (po+2)).bind λs111=>(Hp.ldSl H101 hU (po+2)).bind λs112=>(Sl.idx s112 (wrap .i64 ((wrap .i64 (jL * kW))+n104)) 1).bind λp113=>(Hp.ldI H101 .i64 p113.1 p113.2).bind λn114=>(Sl.idx s111 (wrap .i64 ((wrap .i64 (jL * kW))+n104)) 1).bind λp115=>(Hp.st H101 p115.1 p115.2 (.int .i64 (wrap .i64 (n114 - 1)))).bind λH116=>(Hp.ldSl H116 hU (po+2)).bind λs117=>(Hp.ldSl H116 hU (po+2)).bind λs118=>(Sl.idx s118 (wrap .i64 ((wrap .i64 (jL * kW))+n107)) 1).bind λp119=>(Hp.ldI H116 .i64 p119.1 p119.2).bind λn120=>(Sl.idx s117 (wrap .i64 ((wrap .i64 (jL * kW))+n107)) 1).bind λp121=>(Hp.st H116 p121.1 p121.2 (.int .i64 (wrap .i64 (n120 - 1)))).bind λH122=>(Hp.ldSl H122 hU (po+2)).bind λs123=>(Hp.ldSl H122 hU (po+2)).bind λs124=>(Sl.idx s124 (wrap .i64 ((wrap .i64 (jL * kW))+n110)) 1).bind λp125=>(Hp.ldI H122 .i64 p125.1 p125.2).bind λn126=>(Sl.idx s123 (wrap .i64 ((wrap .i64 (jL * kW))+n110)) 1).bind λp127=>(Hp.st H122 p127.1 p127.2 (.int .i64 (wrap .i64 (n126+2)))).bind λH128=>dP.l61 F mI dx fB kV pj pm sF yx kW hU po (wrap .i64 (jL+1)) H128) else ((Hp.ldI H37 .i64 hU po).bind λn129=>(Hp.ldI H37 .i64 hU (po+1)).bind λn130=>(Hp.ldSl H37 hU (po+2)).bind λs131=>(Hp.st H37 pm sF (.int .i64 n129)).bind λH132=>(Hp.st H132 pm (sF+1) (.int .i64 n130)).bind λH133=>(Hp.st H133 pm (sF+1+1) (.sl s131)).bind λH134=>(Hp.ldI H134 .i64 pm sF).bind λn135=>(Hp.ldI H134 .i64 pm (sF+1)).bind λn136=>(Hp.ldSl H134 pm (sF+2)).bind λs137=>some ((.agg [(.int .i64 n135),(.int .i64 n136),(.sl s137)]),H134)))
termination_by structural n=>n
def dP.twX (mI:am8) (dx:ana) (aa:Sl) (ac:Int) (H:Hp):OA:=(Hp.new H [(.sl aa),(.int .i64 ac)]).bind λH3=>(Hp.new H3 [.int .i64 0,.int .i64 0,.sl ⟨none,0,.ex 0⟩]).bind λH4=>(Hp.ldSl H4 H.length 0).bind λs5=>(Hp.ldI H4 .i64 H.length (0+1)).bind λn6=>(mI s5 n6 H4).bind λr7=>((r7.1).asTup 2).bind λl8=>(l8[0]?).bind λv9=>((v9).asSl).bind λs10=>(l8[1]?).bind λv11=>((v11).asI .i64).bind λn12=>(Hp.ldSl r7.2 H.length 0).bind λs13=>(dx (s13.n:Int) n12 r7.2).bind λr14=>((r14.1).asAgg 3).bind λl15=>(l15[0]?).bind λv16=>((v16).asI .i64).bind λn17=>(l15[1]?).bind λv18=>((v18).asI .i64).bind λn19=>(l15[2]?).bind λv20=>((v20).asSl).bind λs21=>(Hp.new r14.2 [.int .i64 0,.int .i64 0,.sl ⟨none,0,.ex 0⟩]).bind λH22=>(Hp.st H22 r14.2.length 0 (.int .i64 n17)).bind λH23=>(Hp.st H23 r14.2.length (0+1) (.int .i64 n19)).bind λH24=>(Hp.st H24 r14.2.length (0+1+1) (.sl s21)).bind λH25=>dP.l61 F mI dx F H.length 0 H3.length 0 s10 n12 r14.2.length 0 0 H25
def dP.tw:=dP.twX F (aH.tw F) (fM.tw F)
def dP.lh61 (mI:am8) (dx:ana) (ks:am6) (n:Nat) (tm:Tm) (H:Hp):OA:=match ks,tm 1,tm 2,tm 3,tm 4,tm 5,tm 6 with
 | [],(.ptr kV pj),(.ptr pm sF),(.sl yx),(.int .i64 kW),(.ptr hU po),(.int .i64 jL)=>dP.l61 F mI dx n kV pj pm sF yx kW hU po jL H
 | _,_,_,_,_,_,_=>none
def dP.lh (mI:am8) (dx:ana) (p:Nat) (ks:am6) (n:Nat) (tm:Tm) (H:Hp):OA:=bif p.beq 61 then dP.lh61 F mI dx ks n tm H else (none)
def dP.pn:Nat->List Nat:=dM [(8,[10]),(9,[10]),(10,[10])]
def dP.tb:Nat->List (List Nat):=dM [(7,[[],[],[0,1],[],[],[4],[3,4,5],[3,4,5,6],[0,1,2,3,4,5,6,7],[],[],[9,10],[],[],[13],[12,13,14],[12,13,14,15],[9,10,11,12,13,14,15,16],[],[],[18,19],[],[],[22],[21,22,23],[21,22,23,24],[18,19,20,21,22,23,24,25],[0,1,2,3,4,5,6,7,8],[0,1,2,3,4,5,6,7,8,9,10,11,12,13,14,15,16,17,27],[0,1,2,3,4,5,6,7,8,9,10,11,12,13,14,15,16,17,18,19,20,21,22,23,24,25,26,27,28]]),(8,[[],[0],[],[],[3],[],[3,4,5],[3,4,5,6],[3,4,5,6,7],[0,1,2,3,4,5,6,7,8],[0,1,2,3,4,5,6,7,8,9]]),(9,[[],[0],[],[],[3],[],[3,4,5],[3,4,5,6],[3,4,5,6,7],[0,1,2,3,4,5,6,7,8],[0,1,2,3,4,5,6,7,8,9]]),(10,[[],[0],[],[],[3],[],[3,4,5],[3,4,5,6],[3,4,5,6,7],[0,1,2,3,4,5,6,7,8],[0,1,2,3,4,5,6,7,8,9]])]
def dP.cs (F:Nat) (mI:am8) (dx:ana):Cs:=[(44,mk4 mI),(31,mk8 dx)]
theorem dP.loops (mI:am8) (dx:ana):LO (bl (dP.cs F mI dx)) dP.pn (dP.lh F mI dx) F Tryz.f19:=
 (ae.rt (ae.rt (ae.rt (ae.lt (ae.rt (ae.block (ae.la (λn tm H r h=>by change dP.lh61 F mI dx [] n tm H=_ at h;unfold dP.lh61 at h;split at h;have e:c_ tm [(1,_),(2,_),(3,_),(4,_),(5,_),(6,_)]:=⟨‹_›,‹_›,‹_›,‹_›,‹_›,‹_›,trivial⟩;obtain _ | k61:=n;cases h;exact ⟨_,rfl,by rw [<- db e];exact Eq.trans (by kernel_rfl) h⟩;cases h) λk61=>ae.no)))))))
theorem dP.eqX (mI:am8) (dx:ana) (aa:Sl) (ac:Int) (H:Hp):EX (bl (dP.cs F mI dx)) dP.pn (dP.lh F mI dx) F Tryz.f19 [(.agg [(.sl aa),(.int .i64 ac)])] H=dP.twX F mI dx aa ac H:=by kernel_rfl
theorem dP.k:Ok Tryz.prog 19 (mk4 (dP.tw F)):=by
 intro args H v H' h
 unfold mk4 at h
 split at h
 ·exact okT (TB:=dP.tb) Tryz.func19 (aR (aH.k F) (aR (fM.k F) cD)) (dP.loops F (aH.tw F) (fM.tw F)) ((dP.eqX F (aH.tw F) (fM.tw F) _ _ H).trans h) (by kernel_rfl)
 ·cases h
def bB.twX (F:Nat) (aa:Int) (ac:Int) (aZ:Sl) (aF:Int) (ch:Int) (H:Hp):OA:=(Hp.new H [(.int .i64 aa),(.int .i64 ac),(.sl aZ)]).bind λH6=>(Hp.ldSl H6 H.length 2).bind λs7=>(Hp.ldI H6 .i64 H.length 1).bind λn8=>(Sl.idx s7 (wrap .i64 ((wrap .i64 (aF * n8))+ch)) 1).bind λp9=>(Hp.ldI H6 .i64 p9.1 p9.2).bind λn10=>some ((.int .i64 n10),H6)
def bB.tw:=bB.twX F
def mk9 (g:am4) (args:anb) (H:Hp):OA:=match args with
 | [(.agg [(.int .i64 aa),(.int .i64 ac),(.sl aZ)]),(.int .i64 aF),(.int .i64 ch)]=>g aa ac aZ aF ch H
 | _=>none
theorem mk9_E (g:am4) (aa:Int) (ac:Int) (aZ:Sl) (aF:Int) (ch:Int) (H:Hp):mk9 g [(.agg [(.int .i64 aa),(.int .i64 ac),(.sl aZ)]),(.int .i64 aF),(.int .i64 ch)] H=g aa ac aZ aF ch H:=rfl
theorem bB.k:Ok Tryz.prog 32 (mk9 (bB.tw F)):=by
 intro args H v H' h
 unfold mk9 at h
 split at h
 ·exact ok0 Tryz.func32 (Eq.trans (by kernel_rfl) h) (by kernel_rfl) (by kernel_rfl)
 ·cases h
def eS.l29 (F:Nat) (eM:ang) :Nat->Nat->Nat->Int->Hp->OA
 | 0,_,_,_,_=>none
 | fG+1,sG,Ck,pr,H22=>(Hp.ldSl H22 sG (Ck+2)).bind λs29=>(bif (decide (pr<(s29.n:Int))) then ((Hp.ldSl H22 sG (Ck+2)).bind λs30=>(Sl.idx s30 pr 1).bind λp31=>(Hp.ldI H22 .i64 p31.1 p31.2).bind λn32=>(eM n32 (-1000000000000) 1000000000000 H22).bind λr33=>((r33.1).asB).bind λb34=>(bif (!b34) then (some ((.bool false),r33.2)) else (eS.l29 F eM fG sG Ck (wrap .i64 (pr+1)) r33.2))) else (some ((.bool true),H22)))
termination_by structural n=>n
def eS.twX (eM:ang) (aa:Int) (ac:Int) (aZ:Sl) (H:Hp):OA:=(Hp.new H [(.int .i64 aa),(.int .i64 ac),(.sl aZ)]).bind λH4=>(Hp.ldI H4 .i64 H.length 0).bind λn5=>(eM n5 0 48 H4).bind λr6=>((r6.1).asB).bind λb7=>(bif (!b7) then (some ((.bool false),r6.2)) else ((Hp.ldI r6.2 .i64 H.length 1).bind λn8=>(eM n8 0 48 r6.2).bind λr9=>((r9.1).asB).bind λb10=>(bif (!b10) then (some ((.bool false),r9.2)) else ((Hp.ldSl r9.2 H.length 2).bind λs11=>(Hp.ldI r9.2 .i64 H.length 0).bind λn12=>(Hp.ldI r9.2 .i64 H.length 1).bind λn13=>(bif ((s11.n:Int) != (wrap .i64 (n12 * n13))) then (some ((.bool false),r9.2)) else (eS.l29 F eM F H.length 0 0 r9.2))))))
def eS.tw:=eS.twX F (fX.tw F)
def eS.lh29 (eM:ang) (ks:am6) (n:Nat) (tm:Tm) (H:Hp):OA:=match ks,tm 1,tm 3 with
 | [],(.ptr sG Ck),(.int .i64 pr)=>eS.l29 F eM n sG Ck pr H
 | _,_,_=>none
def eS.lh (eM:ang) (p:Nat) (ks:am6) (n:Nat) (tm:Tm) (H:Hp):OA:=bif p.beq 29 then eS.lh29 F eM ks n tm H else (none)
def mk10 (g:anc) (args:anb) (H:Hp):OA:=match args with
 | [(.agg [(.int .i64 aa),(.int .i64 ac),(.sl aZ)])]=>g aa ac aZ H
 | _=>none
theorem mk10_E (g:anc) (aa:Int) (ac:Int) (aZ:Sl) (H:Hp):mk10 g [(.agg [(.int .i64 aa),(.int .i64 ac),(.sl aZ)])] H=g aa ac aZ H:=rfl
def eS.cs (F:Nat) (eM:ang):Cs:=[(18,mk5 eM)]
theorem eS.loops (eM:ang):LO (bl (eS.cs F eM)) bf (eS.lh F eM) F Tryz.f77:=
 (ae.rt (ae.rt (ae.lt (ae.rt (ae.block (ae.la (λn tm H r h=>by change eS.lh29 F eM [] n tm H=_ at h;unfold eS.lh29 at h;split at h;have e:c_ tm [(1,_),(3,_)]:=⟨‹_›,‹_›,trivial⟩;obtain _ | k29:=n;cases h;exact ⟨_,rfl,by rw [<- db e];exact Eq.trans (by kernel_rfl) h⟩;cases h) λk29=>ae.no))))))
theorem eS.eqX (eM:ang) (aa:Int) (ac:Int) (aZ:Sl) (H:Hp):EX (bl (eS.cs F eM)) bf (eS.lh F eM) F Tryz.f77 [(.agg [(.int .i64 aa),(.int .i64 ac),(.sl aZ)])] H=eS.twX F eM aa ac aZ H:=by kernel_rfl
theorem eS.k:Ok Tryz.prog 77 (mk10 (eS.tw F)):=by
 intro args H v H' h
 unfold mk10 at h
 split at h
 ·exact okT (TB:=bf) Tryz.func77 (aR (fX.k F) cD) (eS.loops F (fX.tw F)) ((eS.eqX F (fX.tw F) _ _ _ H).trans h) (by kernel_rfl)
 ·cases h
def dU.l29 (F:Nat) (dx:ana) :Nat->Int->Nat->Nat->Nat->Nat->Int->Hp->OA
 | 0,_,_,_,_,_,_,_=>none
 | fG+1,pt,eT,lW,jM,jA,nJ,H21=>(bif (decide (nJ<pt)) then ((Hp.ldSl H21 jM (jA+2)).bind λs34=>(Sl.idx s34 (wrap .i64 ((wrap .i64 (nJ * pt))+nJ)) 1).bind λp35=>(Hp.st H21 p35.1 p35.2 (.int .i64 1)).bind λH36=>dU.l29 F dx fG pt eT lW jM jA (wrap .i64 (nJ+1)) H36) else ((Hp.ldI H21 .i64 jM jA).bind λn37=>(Hp.ldI H21 .i64 jM (jA+1)).bind λn38=>(Hp.ldSl H21 jM (jA+2)).bind λs39=>(Hp.st H21 eT lW (.int .i64 n37)).bind λH40=>(Hp.st H40 eT (lW+1) (.int .i64 n38)).bind λH41=>(Hp.st H41 eT (lW+1+1) (.sl s39)).bind λH42=>(Hp.ldI H42 .i64 eT lW).bind λn43=>(Hp.ldI H42 .i64 eT (lW+1)).bind λn44=>(Hp.ldSl H42 eT (lW+2)).bind λs45=>some ((.agg [(.int .i64 n43),(.int .i64 n44),(.sl s45)]),H42)))
termination_by structural n=>n
def dU.twX (dx:ana) (aa:Int) (H:Hp):OA:=(Hp.new H [.int .i64 0,.int .i64 0,.sl ⟨none,0,.ex 0⟩]).bind λH2=>(dx aa aa H2).bind λr3=>((r3.1).asAgg 3).bind λl4=>(l4[0]?).bind λv5=>((v5).asI .i64).bind λn6=>(l4[1]?).bind λv7=>((v7).asI .i64).bind λn8=>(l4[2]?).bind λv9=>((v9).asSl).bind λs10=>(Hp.new r3.2 [.int .i64 0,.int .i64 0,.sl ⟨none,0,.ex 0⟩]).bind λH11=>(Hp.st H11 r3.2.length 0 (.int .i64 n6)).bind λH12=>(Hp.st H12 r3.2.length (0+1) (.int .i64 n8)).bind λH13=>(Hp.st H13 r3.2.length (0+1+1) (.sl s10)).bind λH14=>dU.l29 F dx F aa H.length 0 r3.2.length 0 0 H14
def dU.tw:=dU.twX F (fM.tw F)
def dU.lh29 (dx:ana) (ks:am6) (n:Nat) (tm:Tm) (H:Hp):OA:=match ks,tm 0,tm 2,tm 3,tm 4 with
 | [],(.int .i64 pt),(.ptr eT lW),(.ptr jM jA),(.int .i64 nJ)=>dU.l29 F dx n pt eT lW jM jA nJ H
 | _,_,_,_,_=>none
def dU.lh (dx:ana) (p:Nat) (ks:am6) (n:Nat) (tm:Tm) (H:Hp):OA:=bif p.beq 29 then dU.lh29 F dx ks n tm H else (none)
def mk11 (g:am_) (args:anb) (H:Hp):OA:=match args with
 | [(.int .i64 aa)]=>g aa H
 | _=>none
theorem mk11_E (g:am_) (aa:Int) (H:Hp):mk11 g [(.int .i64 aa)] H=g aa H:=rfl
def dU.cs (F:Nat) (dx:ana):Cs:=[(31,mk8 dx)]
theorem dU.loops (dx:ana):LO (bl (dU.cs F dx)) bf (dU.lh F dx) F Tryz.f67:=
 (ae.rt (ae.rt (ae.lt (ae.rt (ae.block (ae.la (λn tm H r h=>by change dU.lh29 F dx [] n tm H=_ at h;unfold dU.lh29 at h;split at h;have e:c_ tm [(0,_),(2,_),(3,_),(4,_)]:=⟨‹_›,‹_›,‹_›,‹_›,trivial⟩;obtain _ | k29:=n;cases h;exact ⟨_,rfl,by rw [<- db e];exact Eq.trans (by kernel_rfl) h⟩;cases h) λk29=>ae.no))))))
theorem dU.eqX (dx:ana) (aa:Int) (H:Hp):EX (bl (dU.cs F dx)) bf (dU.lh F dx) F Tryz.f67 [(.int .i64 aa)] H=dU.twX F dx aa H:=by kernel_rfl
theorem dU.k:Ok Tryz.prog 67 (mk11 (dU.tw F)):=by
 intro args H v H' h
 unfold mk11 at h
 split at h
 ·exact okT (TB:=bf) Tryz.func67 (aR (fM.k F) cD) (dU.loops F (fM.tw F)) ((dU.eqX F (fM.tw F) _ H).trans h) (by kernel_rfl)
 ·cases h
def fH.twX (F:Nat) (aa:Int) (H:Hp):OA:=some ((.int .i64 (if (wrap .i64 (0 - aa))>aa then (wrap .i64 (0 - aa)) else aa)),H)
def fH.tw:=fH.twX F
theorem fH.k:Ok Tryz.prog 46 (mk11 (fH.tw F)):=by
 intro args H v H' h
 unfold mk11 at h
 split at h
 ·exact ok0 Tryz.func46 (Eq.trans (by kernel_rfl) h) (by kernel_rfl) (by kernel_rfl)
 ·cases h
def dq.l7 (F:Nat) (aq:am4) :Nat->Int->Int->Nat->Nat->Int->Hp->OA
 | 0,_,_,_,_,_,_=>none
 | mJ+1,gm,jm,eR,dy,gn,H15=>(Hp.ldI H15 .i64 eR (dy+1)).bind λn35=>(bif (decide (gn<n35)) then ((Hp.ldI H15 .i64 eR dy).bind λn36=>(Hp.ldI H15 .i64 eR (dy+1)).bind λn37=>(Hp.ldSl H15 eR (dy+2)).bind λs38=>(aq n36 n37 s38 gm gn H15).bind λr39=>((r39.1).asI .i64).bind λn40=>(Hp.ldSl r39.2 eR (dy+2)).bind λs41=>(Hp.ldI r39.2 .i64 eR (dy+1)).bind λn42=>(Hp.ldI r39.2 .i64 eR dy).bind λn43=>(Hp.ldI r39.2 .i64 eR (dy+1)).bind λn44=>(Hp.ldSl r39.2 eR (dy+2)).bind λs45=>(aq n43 n44 s45 jm gn r39.2).bind λr46=>((r46.1).asI .i64).bind λn47=>(if bo r39.2 r46.2 then ((Sl.idx s41 (wrap .i64 ((wrap .i64 (gm * n42))+gn)) 1).bind λp48=>(Hp.st r46.2 p48.1 p48.2 (.int .i64 n47)).bind λH49=>(Hp.ldSl H49 eR (dy+2)).bind λs50=>(Hp.ldI H49 .i64 eR (dy+1)).bind λn51=>(Sl.idx s50 (wrap .i64 ((wrap .i64 (jm * n51))+gn)) 1).bind λp52=>(Hp.st H49 p52.1 p52.2 (.int .i64 n40)).bind λH53=>dq.l7 F aq mJ gm jm eR dy (wrap .i64 (gn+1)) H53) else none)) else (some ((.tup []),H15)))
termination_by structural n=>n
def dq.twX (aq:am4) (aa:Int) (ac:Int) (aZ:Sl) (aF:Int) (ch:Int) (H:Hp):OA:=(Hp.new H [(.int .i64 aa),(.int .i64 ac),(.sl aZ)]).bind λH6=>dq.l7 F aq F aF ch H.length 0 0 H6
def dq.tw:=dq.twX F (bB.tw F)
def dq.lh7 (aq:am4) (ks:am6) (n:Nat) (tm:Tm) (H:Hp):OA:=match ks,tm 1,tm 2,tm 3,tm 6 with
 | [],(.int .i64 gm),(.int .i64 jm),(.ptr eR dy),(.int .i64 gn)=>dq.l7 F aq n gm jm eR dy gn H
 | _,_,_,_,_=>none
def dq.lh (aq:am4) (p:Nat) (ks:am6) (n:Nat) (tm:Tm) (H:Hp):OA:=bif p.beq 7 then dq.lh7 F aq ks n tm H else (none)
def dq.pn:Nat->List Nat:=dM [(5,[13])]
def dq.tb:Nat->List (List Nat):=dM [(5,[[],[0],[],[],[3],[2,3,4],[],[2,3,4,5,6],[],[],[],[8,9,10],[0,1,2,3,4,5,6,7,8,9,10,11],[0,1,2,3,4,5,6,7,8,9,10,11,12]])]
def dq.cs (F:Nat) (aq:am4):Cs:=[(32,mk9 aq)]
theorem dq.loops (aq:am4):LO (bl (dq.cs F aq)) dq.pn (dq.lh F aq) F Tryz.f104:=
 (ae.rt (ae.rt (ae.block (ae.la (λn tm H r h=>by change dq.lh7 F aq [] n tm H=_ at h;unfold dq.lh7 at h;split at h;have e:c_ tm [(1,_),(2,_),(3,_),(6,_)]:=⟨‹_›,‹_›,‹_›,‹_›,trivial⟩;obtain _ | k7:=n;cases h;exact ⟨_,rfl,by rw [<- db e];exact Eq.trans (by kernel_rfl) h⟩;cases h) λk7=>ae.no))))
theorem dq.eqX (aq:am4) (aa:Int) (ac:Int) (aZ:Sl) (aF:Int) (ch:Int) (H:Hp):EX (bl (dq.cs F aq)) dq.pn (dq.lh F aq) F Tryz.f104 [(.agg [(.int .i64 aa),(.int .i64 ac),(.sl aZ)]),(.int .i64 aF),(.int .i64 ch)] H=dq.twX F aq aa ac aZ aF ch H:=by kernel_rfl
theorem dq.k:Ok Tryz.prog 104 (mk9 (dq.tw F)):=by
 intro args H v H' h
 unfold mk9 at h
 split at h
 ·exact okT (TB:=dq.tb) Tryz.func104 (aR (bB.k F) cD) (dq.loops F (bB.tw F)) ((dq.eqX F (bB.tw F) _ _ _ _ _ H).trans h) (by kernel_rfl)
 ·cases h
def dr.l7 (F:Nat) (aq:am4) :Nat->Int->Int->Nat->Nat->Int->Hp->OA
 | 0,_,_,_,_,_,_=>none
 | mJ+1,gm,jm,eR,dy,gn,H15=>(Hp.ldI H15 .i64 eR dy).bind λn35=>(bif (decide (gn<n35)) then ((Hp.ldI H15 .i64 eR dy).bind λn36=>(Hp.ldI H15 .i64 eR (dy+1)).bind λn37=>(Hp.ldSl H15 eR (dy+2)).bind λs38=>(aq n36 n37 s38 gn gm H15).bind λr39=>((r39.1).asI .i64).bind λn40=>(Hp.ldSl r39.2 eR (dy+2)).bind λs41=>(Hp.ldI r39.2 .i64 eR (dy+1)).bind λn42=>(Hp.ldI r39.2 .i64 eR dy).bind λn43=>(Hp.ldI r39.2 .i64 eR (dy+1)).bind λn44=>(Hp.ldSl r39.2 eR (dy+2)).bind λs45=>(aq n43 n44 s45 gn jm r39.2).bind λr46=>((r46.1).asI .i64).bind λn47=>(if bo r39.2 r46.2 then ((Sl.idx s41 (wrap .i64 ((wrap .i64 (gn * n42))+gm)) 1).bind λp48=>(Hp.st r46.2 p48.1 p48.2 (.int .i64 n47)).bind λH49=>(Hp.ldSl H49 eR (dy+2)).bind λs50=>(Hp.ldI H49 .i64 eR (dy+1)).bind λn51=>(Sl.idx s50 (wrap .i64 ((wrap .i64 (gn * n51))+jm)) 1).bind λp52=>(Hp.st H49 p52.1 p52.2 (.int .i64 n40)).bind λH53=>dr.l7 F aq mJ gm jm eR dy (wrap .i64 (gn+1)) H53) else none)) else (some ((.tup []),H15)))
termination_by structural n=>n
def dr.twX (aq:am4) (aa:Int) (ac:Int) (aZ:Sl) (aF:Int) (ch:Int) (H:Hp):OA:=(Hp.new H [(.int .i64 aa),(.int .i64 ac),(.sl aZ)]).bind λH6=>dr.l7 F aq F aF ch H.length 0 0 H6
def dr.tw:=dr.twX F (bB.tw F)
def dr.lh7 (aq:am4) (ks:am6) (n:Nat) (tm:Tm) (H:Hp):OA:=match ks,tm 1,tm 2,tm 3,tm 6 with
 | [],(.int .i64 gm),(.int .i64 jm),(.ptr eR dy),(.int .i64 gn)=>dr.l7 F aq n gm jm eR dy gn H
 | _,_,_,_,_=>none
def dr.lh (aq:am4) (p:Nat) (ks:am6) (n:Nat) (tm:Tm) (H:Hp):OA:=bif p.beq 7 then dr.lh7 F aq ks n tm H else (none)
def dr.pn:Nat->List Nat:=dM [(5,[13])]
def dr.tb:Nat->List (List Nat):=dM [(5,[[],[0],[],[],[3],[2,3,4],[],[2,3,4,5,6],[],[],[],[8,9,10],[0,1,2,3,4,5,6,7,8,9,10,11],[0,1,2,3,4,5,6,7,8,9,10,11,12]])]
def dr.cs (F:Nat) (aq:am4):Cs:=[(32,mk9 aq)]
theorem dr.loops (aq:am4):LO (bl (dr.cs F aq)) dr.pn (dr.lh F aq) F Tryz.f105:=
 (ae.rt (ae.rt (ae.block (ae.la (λn tm H r h=>by change dr.lh7 F aq [] n tm H=_ at h;unfold dr.lh7 at h;split at h;have e:c_ tm [(1,_),(2,_),(3,_),(6,_)]:=⟨‹_›,‹_›,‹_›,‹_›,trivial⟩;obtain _ | k7:=n;cases h;exact ⟨_,rfl,by rw [<- db e];exact Eq.trans (by kernel_rfl) h⟩;cases h) λk7=>ae.no))))
theorem dr.eqX (aq:am4) (aa:Int) (ac:Int) (aZ:Sl) (aF:Int) (ch:Int) (H:Hp):EX (bl (dr.cs F aq)) dr.pn (dr.lh F aq) F Tryz.f105 [(.agg [(.int .i64 aa),(.int .i64 ac),(.sl aZ)]),(.int .i64 aF),(.int .i64 ch)] H=dr.twX F aq aa ac aZ aF ch H:=by kernel_rfl
theorem dr.k:Ok Tryz.prog 105 (mk9 (dr.tw F)):=by
 intro args H v H' h
 unfold mk9 at h
 split at h
 ·exact okT (TB:=dr.tb) Tryz.func105 (aR (bB.k F) cD) (dr.loops F (bB.tw F)) ((dr.eqX F (bB.tw F) _ _ _ _ _ H).trans h) (by kernel_rfl)
 ·cases h
def aL.l65515 (F:Nat) (aq:am4) (dC:am_) (eO:am4) (eP:am4) :Nat->Nat->Nat->Int->Int->Hp->OA
 | 0,_,_,_,_,_=>none
 | adk+1,oP,oQ,nh,lX,H187=>(Hp.ldI H187 .i64 oP ((oQ+3)+1)).bind λn207=>(bif (decide (lX<n207)) then ((Hp.ldSl H187 oP ((oQ+3)+2)).bind λs208=>(Hp.ldI H187 .i64 oP ((oQ+3)+1)).bind λn209=>(Hp.ldI H187 .i64 oP (oQ+3)).bind λn210=>(Hp.ldI H187 .i64 oP ((oQ+3)+1)).bind λn211=>(Hp.ldSl H187 oP ((oQ+3)+2)).bind λs212=>(aq n210 n211 s212 nh lX H187).bind λr213=>((r213.1).asI .i64).bind λn214=>(if bo H187 r213.2 then ((Sl.idx s208 (wrap .i64 ((wrap .i64 (nh * n209))+lX)) 1).bind λp215=>(Hp.st r213.2 p215.1 p215.2 (.int .i64 (wrap .i64 (0 - n214)))).bind λH216=>(Hp.ldSl H216 oP ((oQ+6)+2)).bind λs217=>(Hp.ldI H216 .i64 oP ((oQ+6)+1)).bind λn218=>(Hp.ldI H216 .i64 oP (oQ+6)).bind λn219=>(Hp.ldI H216 .i64 oP ((oQ+6)+1)).bind λn220=>(Hp.ldSl H216 oP ((oQ+6)+2)).bind λs221=>(aq n219 n220 s221 lX nh H216).bind λr222=>((r222.1).asI .i64).bind λn223=>(if bo H216 r222.2 then ((Sl.idx s217 (wrap .i64 ((wrap .i64 (lX * n218))+nh)) 1).bind λp224=>(Hp.st r222.2 p224.1 p224.2 (.int .i64 (wrap .i64 (0 - n223)))).bind λH225=>aL.l65515 F aq dC eO eP adk oP oQ nh (wrap .i64 (lX+1)) H225) else none)) else none)) else (some ((.bool true),H187)))
termination_by structural n=>n
def aL.j5 (aq:am4) (dC:am_) (eO:am4) (eP:am4) (adl:Nat) (adm:Nat) (yy:Int) (H173:Hp):OA:=aL.l65515 F aq dC eO eP F adl adm yy 0 H173
def aL.l65513 (F:Nat) (aq:am4) (dC:am_) (eO:am4) (eP:am4) :Nat->Nat->Nat->Int->Int->Hp->OA
 | 0,_,_,_,_,_=>none
 | adn+1,rS,rT,nK,nL,H150=>(Hp.ldI H150 .i64 rS (rT+1)).bind λn226=>(bif (decide (nL<n226)) then ((Hp.ldSl H150 rS (rT+2)).bind λs227=>(Hp.ldI H150 .i64 rS (rT+1)).bind λn228=>(Hp.ldI H150 .i64 rS rT).bind λn229=>(Hp.ldI H150 .i64 rS (rT+1)).bind λn230=>(Hp.ldSl H150 rS (rT+2)).bind λs231=>(aq n229 n230 s231 nK nL H150).bind λr232=>((r232.1).asI .i64).bind λn233=>(if bo H150 r232.2 then ((Sl.idx s227 (wrap .i64 ((wrap .i64 (nK * n228))+nL)) 1).bind λp234=>(Hp.st r232.2 p234.1 p234.2 (.int .i64 (wrap .i64 (0 - n233)))).bind λH235=>aL.l65513 F aq dC eO eP adn rS rT nK (wrap .i64 (nL+1)) H235) else none)) else (aL.j5 F aq dC eO eP rS rT nK H150))
termination_by structural n=>n
def aL.j6 (aq:am4) (dC:am_) (eO:am4) (eP:am4) (kN:Nat) (kO:Nat) (kP:Int) (lO:Int) (rU:Int) (H109:Hp):OA:=(bif (decide (lO<0)) then (some ((.bool false),H109)) else ((Hp.ldI H109 .i64 kN kO).bind λn110=>(Hp.ldI H109 .i64 kN (kO+1)).bind λn111=>(Hp.ldSl H109 kN (kO+2)).bind λs112=>(eO n110 n111 s112 lO kP H109).bind λr113=>(Hp.ldI r113.2 .i64 kN (kO+3)).bind λn114=>(Hp.ldI r113.2 .i64 kN ((kO+3)+1)).bind λn115=>(Hp.ldSl r113.2 kN ((kO+3)+2)).bind λs116=>(eO n114 n115 s116 lO kP r113.2).bind λr117=>(Hp.ldI r117.2 .i64 kN (kO+6)).bind λn118=>(Hp.ldI r117.2 .i64 kN ((kO+6)+1)).bind λn119=>(Hp.ldSl r117.2 kN ((kO+6)+2)).bind λs120=>(eP n118 n119 s120 lO kP r117.2).bind λr121=>(Hp.ldI r121.2 .i64 kN kO).bind λn122=>(Hp.ldI r121.2 .i64 kN (kO+1)).bind λn123=>(Hp.ldSl r121.2 kN (kO+2)).bind λs124=>(eP n122 n123 s124 rU kP r121.2).bind λr125=>(Hp.ldI r125.2 .i64 kN (kO+9)).bind λn126=>(Hp.ldI r125.2 .i64 kN ((kO+9)+1)).bind λn127=>(Hp.ldSl r125.2 kN ((kO+9)+2)).bind λs128=>(eP n126 n127 s128 rU kP r125.2).bind λr129=>(Hp.ldI r129.2 .i64 kN (kO+12)).bind λn130=>(Hp.ldI r129.2 .i64 kN ((kO+12)+1)).bind λn131=>(Hp.ldSl r129.2 kN ((kO+12)+2)).bind λs132=>(eO n130 n131 s132 rU kP r129.2).bind λr133=>(Hp.ldI r133.2 .i64 kN kO).bind λn134=>(Hp.ldI r133.2 .i64 kN (kO+1)).bind λn135=>(Hp.ldSl r133.2 kN (kO+2)).bind λs136=>(aq n134 n135 s136 kP kP r133.2).bind λr137=>((r137.1).asI .i64).bind λn138=>(bif (decide (n138<0)) then (aL.l65513 F aq dC eO eP F kN kO kP 0 r137.2) else (some ((.bool true),r137.2)))))
def aL.j8 (F:Nat) (aq:am4) (dC:am_) (eO:am4) (eP:am4) (C29_:anR) (ado:Nat) (adp:Nat) (yz:Int) (yA:Int) (yB:Int) (yC:Int) (H296:Hp):OA:=C29_ ado adp yz yA yB (wrap .i64 (yC+1)) H296
def aL.j9 (aq:am4) (dC:am_) (eO:am4) (eP:am4) (C29_:anR) (adq:Nat) (ads:Nat) (yD:Int) (yE:Int) (yF:Int) (yG:Int) (H285:Hp):OA:=aL.j8 F aq dC eO eP C29_ adq ads yD yE yF yG H285
def aL.j10 (F:Nat) (aq:am4) (dC:am_) (eO:am4) (eP:am4) (C469_:aon) (adt:Nat) (adu:Nat) (yH:Int) (yI:Int) (yJ:Int) (yK:Int) (yL:Int) (H324:Hp):OA:=C469_ adt adu yH yI yJ yK (wrap .i64 (yL+1)) H324
def aL.l469 (F:Nat) (aq:am4) (dC:am_) (eO:am4) (eP:am4) (C29_:anR):Nat->Nat->Nat->Int->Int->Int->Int->Int->Hp->OA
 | 0,_,_,_,_,_,_,_,_=>none
 | sH+1,oR,oS,ni,nj,nM,ko,kp,H246=>(Hp.ldI H246 .i64 oR (oS+1)).bind λn297=>(bif (decide (kp<n297)) then ((Hp.ldI H246 .i64 oR oS).bind λn298=>(Hp.ldI H246 .i64 oR (oS+1)).bind λn299=>(Hp.ldSl H246 oR (oS+2)).bind λs300=>(aq n298 n299 s300 ko kp H246).bind λr301=>((r301.1).asI .i64).bind λn302=>(dC n302 r301.2).bind λr303=>((r303.1).asI .i64).bind λn304=>(bif (decide (n304>0)) then ((bif (decide (nj<0)) then (aL.l469 F aq dC eO eP C29_ sH oR oS ni ko kp ko (wrap .i64 (kp+1)) r303.2) else ((Hp.ldI r303.2 .i64 oR oS).bind λn305=>(Hp.ldI r303.2 .i64 oR (oS+1)).bind λn306=>(Hp.ldSl r303.2 oR (oS+2)).bind λs307=>(aq n305 n306 s307 nj nM r303.2).bind λr308=>((r308.1).asI .i64).bind λn309=>(dC n309 r308.2).bind λr310=>((r310.1).asI .i64).bind λn311=>(bif (decide (n304<n311)) then (aL.j10 F aq dC eO eP (aL.l469 F aq dC eO eP C29_ sH) oR oS ni ko kp ko kp r310.2) else (aL.j10 F aq dC eO eP (aL.l469 F aq dC eO eP C29_ sH) oR oS ni nj nM ko kp r310.2))))) else (aL.l469 F aq dC eO eP C29_ sH oR oS ni nj nM ko (wrap .i64 (kp+1)) r303.2))) else (aL.j9 F aq dC eO eP C29_ oR oS ni nj nM ko H246))
termination_by structural n=>n
def aL.l29 (F:Nat) (aq:am4) (dC:am_) (eO:am4) (eP:am4) :Nat->Nat->Nat->Int->Int->Int->Int->Hp->OA
 | 0,_,_,_,_,_,_,_=>none
 | fG+1,fI,lY,gp,gB,qB,qC,H11=>(Hp.ldI H11 .i64 fI lY).bind λn236=>(bif (decide (qC<n236)) then (aL.l469 F aq dC eO eP (aL.l29 F aq dC eO eP fG) F fI lY gp gB qB qC gp H11) else (aL.j6 F aq dC eO eP fI lY gp gB qB H11))
termination_by structural n=>n
def aL.twX (aq:am4) (dC:am_) (eO:am4) (eP:am4) (aa:Nat) (ac:Nat) (ah:Int) (H:Hp):OA:=aL.l29 F aq dC eO eP F aa ac ah (-1) (-1) ah H
def aL.tw:=aL.twX F (bB.tw F) (fH.tw F) (dq.tw F) (dr.tw F)
def aL.lh29 (aq:am4) (dC:am_) (eO:am4) (eP:am4) (ks:am6) (n:Nat) (tm:Tm) (H:Hp):OA:=match ks,tm 0,tm 1,tm 5,tm 6,tm 7 with
 | [],(.ptr fI lY),(.int .i64 gp),(.int .i64 gB),(.int .i64 qB),(.int .i64 qC)=>aL.l29 F aq dC eO eP n fI lY gp gB qB qC H
 | _,_,_,_,_,_=>none
def aL.lh65513 (aq:am4) (dC:am_) (eO:am4) (eP:am4) (ks:am6) (n:Nat) (tm:Tm) (H:Hp):OA:=match ks,tm 0,tm 1,tm 10 with
 | [],(.ptr rS rT),(.int .i64 nK),(.int .i64 nL)=>aL.l65513 F aq dC eO eP n rS rT nK nL H
 | _,_,_,_=>none
def aL.lh65515 (aq:am4) (dC:am_) (eO:am4) (eP:am4) (ks:am6) (n:Nat) (tm:Tm) (H:Hp):OA:=match ks,tm 0,tm 1,tm 11 with
 | [],(.ptr oP oQ),(.int .i64 nh),(.int .i64 lX)=>aL.l65515 F aq dC eO eP n oP oQ nh lX H
 | _,_,_,_=>none
def aL.lh469 (aq:am4) (dC:am_) (eO:am4) (eP:am4) (ks:am6) (n:Nat) (tm:Tm) (H:Hp):OA:=match ks,tm 0,tm 1,tm 5,tm 6,tm 7,tm 8 with
 | [fG],(.ptr oR oS),(.int .i64 ni),(.int .i64 nj),(.int .i64 nM),(.int .i64 ko),(.int .i64 kp)=>aL.l469 F aq dC eO eP (aL.l29 F aq dC eO eP fG) n oR oS ni nj nM ko kp H
 | _,_,_,_,_,_,_=>none
def aL.lh (aq:am4) (dC:am_) (eO:am4) (eP:am4) (p:Nat) (ks:am6) (n:Nat) (tm:Tm) (H:Hp):OA:=bif p.beq 469 then aL.lh469 F aq dC eO eP ks n tm H else (bif p.beq 65515 then aL.lh65515 F aq dC eO eP ks n tm H else (bif p.beq 65513 then aL.lh65513 F aq dC eO eP ks n tm H else (bif p.beq 29 then aL.lh29 F aq dC eO eP ks n tm H else (none))))
def aL.pn:Nat->List Nat:=dM [(23,[23]),(27,[23]),(28,[23])]
def aL.tb:Nat->List (List Nat):=dM [(23,[[],[0],[0,1],[0,1,2],[0,1,2,3],[],[],[6],[6,7],[6,7,8],[6,7,8,9],[5,6,7,8,9,10],[],[5,6,7,8,9,10,11,12],[],[14],[14,15],[14,15,16],[],[],[14,15,16,17,18,19],[14,15,16,17,18,19,20],[0,1,2,3,4,5,6,7,8,9,10,11,12,13,14,15,16,17,18,19,20,21],[0,1,2,3,4,5,6,7,8,9,10,11,12,13,14,15,16,17,18,19,20,21,22]]),(27,[[],[0],[0,1],[0,1,2],[0,1,2,3],[],[],[6],[6,7],[6,7,8],[6,7,8,9],[5,6,7,8,9,10],[],[5,6,7,8,9,10,11,12],[],[14],[14,15],[14,15,16],[],[],[14,15,16,17,18,19],[14,15,16,17,18,19,20],[0,1,2,3,4,5,6,7,8,9,10,11,12,13,14,15,16,17,18,19,20,21],[0,1,2,3,4,5,6,7,8,9,10,11,12,13,14,15,16,17,18,19,20,21,22]]),(28,[[],[0],[0,1],[0,1,2],[0,1,2,3],[],[],[6],[6,7],[6,7,8],[6,7,8,9],[5,6,7,8,9,10],[],[5,6,7,8,9,10,11,12],[],[14],[14,15],[14,15,16],[],[],[14,15,16,17,18,19],[14,15,16,17,18,19,20],[0,1,2,3,4,5,6,7,8,9,10,11,12,13,14,15,16,17,18,19,20,21],[0,1,2,3,4,5,6,7,8,9,10,11,12,13,14,15,16,17,18,19,20,21,22]])]
def mk12 (g:am9) (args:anb) (H:Hp):OA:=match args with
 | [(.ptr aa ac),(.int .i64 ah)]=>g aa ac ah H
 | _=>none
theorem mk12_E (g:am9) (aa:Nat) (ac:Nat) (ah:Int) (H:Hp):mk12 g [(.ptr aa ac),(.int .i64 ah)] H=g aa ac ah H:=rfl
def aL.cs (F:Nat) (aq:am4) (dC:am_) (eO:am4) (eP:am4):Cs:=[(32,mk9 aq),(46,mk11 dC),(104,mk9 eO),(105,mk9 eP)]
theorem aL.loops (aq:am4) (dC:am_) (eO:am4) (eP:am4):LO (bl (aL.cs F aq dC eO eP)) aL.pn (aL.lh F aq dC eO eP) F Tryz.f83:=
 (ae.rt (ae.rt (ae.seq (ae.rt (ae.block (ae.la (λn tm H r h=>by change aL.lh29 F aq dC eO eP [] n tm H=_ at h;unfold aL.lh29 at h;split at h;have e:c_ tm [(0,_),(1,_),(5,_),(6,_),(7,_)]:=⟨‹_›,‹_›,‹_›,‹_›,‹_›,trivial⟩;obtain _ | k29:=n;cases h;exact ⟨_,rfl,by rw [<- db e];exact Eq.trans (by kernel_rfl) h⟩;cases h) λk29=>(ae.rt (ae.lt (ae.block (ae.rt (ae.block (ae.la (λn tm H r h=>by change aL.lh469 F aq dC eO eP [k29] n tm H=_ at h;unfold aL.lh469 at h;split at h;have e:c_ tm [(0,_),(1,_),(5,_),(6,_),(7,_),(8,_)]:=⟨‹_›,‹_›,‹_›,‹_›,‹_›,‹_›,trivial⟩;cases (show [k29]=_ from ‹_›);obtain _ | k469:=n;cases h;exact ⟨_,rfl,by rw [<- db e];exact Eq.trans (by kernel_rfl) h⟩;cases h) λk469=>ae.no))))))))) (ae.rt (ae.rt (ae.rt (ae.rt (ae.rt (ae.rt (ae.rt (ae.lt (ae.rt (ae.cond (ae.seq (ae.rt (ae.block (ae.la (λn tm H r h=>by change aL.lh65513 F aq dC eO eP [] n tm H=_ at h;unfold aL.lh65513 at h;split at h;have e:c_ tm [(0,_),(1,_),(10,_)]:=⟨‹_›,‹_›,‹_›,trivial⟩;obtain _ | k65513:=n;cases h;exact ⟨_,rfl,by rw [<- db e];exact Eq.trans (by kernel_rfl) h⟩;cases h) λk65513=>ae.no))) (ae.rt (ae.block (ae.la (λn tm H r h=>by change aL.lh65515 F aq dC eO eP [] n tm H=_ at h;unfold aL.lh65515 at h;split at h;have e:c_ tm [(0,_),(1,_),(11,_)]:=⟨‹_›,‹_›,‹_›,trivial⟩;obtain _ | k65515:=n;cases h;exact ⟨_,rfl,by rw [<- db e];exact Eq.trans (by kernel_rfl) h⟩;cases h) λk65515=>ae.no)))) ae.no)))))))))))))
theorem aL.eqX (aq:am4) (dC:am_) (eO:am4) (eP:am4) (aa:Nat) (ac:Nat) (ah:Int) (H:Hp):EX (bl (aL.cs F aq dC eO eP)) aL.pn (aL.lh F aq dC eO eP) F Tryz.f83 [(.ptr aa ac),(.int .i64 ah)] H=aL.twX F aq dC eO eP aa ac ah H:=by kernel_rfl
theorem aL.k:Ok Tryz.prog 83 (mk12 (aL.tw F)):=by
 intro args H v H' h
 unfold mk12 at h
 split at h
 ·exact okT (TB:=aL.tb) Tryz.func83 (aR (bB.k F) (aR (fH.k F) (aR (dq.k F) (aR (dr.k F) cD)))) (aL.loops F (bB.tw F) (fH.tw F) (dq.tw F) (dr.tw F)) ((aL.eqX F (bB.tw F) (fH.tw F) (dq.tw F) (dr.tw F) _ _ _ H).trans h) (by kernel_rfl)
 ·cases h
def jn.twX (F:Nat) (aa:Int) (au:Int) (H:Hp):OA:=(if au=0 then none else ((if au=0 then none else ((bif (decide ((Int.tmod aa au)<0)) then (some ((.int .i64 (wrap .i64 ((wrap .i64 (Int.tdiv aa au)) - 1))),H)) else (some ((.int .i64 (wrap .i64 (Int.tdiv aa au))),H)))))))
def jn.tw:=jn.twX F
theorem jn.k:Ok Tryz.prog 85 (mk8 (jn.tw F)):=by
 intro args H v H' h
 unfold mk8 at h
 split at h
 ·exact ok0 Tryz.func85 (Eq.trans (by kernel_rfl) h) (by kernel_rfl) (by kernel_rfl)
 ·cases h
def jN.twX (F:Nat) (dC:am_) (aa:Int) (au:Int) (eA:Int) (H:Hp):OA:=(bif (aa != 0) then ((dC au H).bind λr4=>((r4.1).asI .i64).bind λn5=>(dC aa r4.2).bind λr6=>((r6.1).asI .i64).bind λn7=>(if n7=0 then none else ((bif (decide (n5>(wrap .i64 (Int.tdiv eA n7)))) then (some ((.tup [(.int .i64 0),(.bool false)]),r6.2)) else (some ((.tup [(.int .i64 (wrap .i64 (aa * au))),(.bool true)]),r6.2)))))) else (some ((.tup [(.int .i64 (wrap .i64 (aa * au))),(.bool true)]),H)))
def jN.tw:=jN.twX F (fH.tw F)
def jN.cs (F:Nat) (dC:am_):Cs:=[(46,mk11 dC)]
theorem jN.eqX (dC:am_) (aa:Int) (au:Int) (eA:Int) (H:Hp):EX (bl (jN.cs F dC)) bf lh0 F Tryz.f22 [(.int .i64 aa),(.int .i64 au),(.int .i64 eA)] H=jN.twX F dC aa au eA H:=by kernel_rfl
theorem jN.k:Ok Tryz.prog 22 (mk5 (jN.tw F)):=by
 intro args H v H' h
 unfold mk5 at h
 split at h
 ·exact okT (TB:=bf) Tryz.func22 (aR (fH.k F) cD) ae.no ((jN.eqX F (fH.tw F) _ _ _ H).trans h) (by kernel_rfl)
 ·cases h
def gV.twX (F:Nat) (yM:ang) (aa:Int) (au:Int) (eA:Int) (H:Hp):OA:=(yM au eA 2000000000000 H).bind λr4=>((r4.1).asTup 2).bind λl5=>(l5[0]?).bind λv6=>((v6).asI .i64).bind λn7=>(l5[1]?).bind λv8=>((v8).asB).bind λb9=>(bif (!b9) then (some ((.int .i64 3000000000000),r4.2)) else (some ((.int .i64 (wrap .i64 (aa - n7))),r4.2)))
def gV.tw:=gV.twX F (jN.tw F)
def gV.cs (F:Nat) (yM:ang):Cs:=[(22,mk5 yM)]
theorem gV.eqX (yM:ang) (aa:Int) (au:Int) (eA:Int) (H:Hp):EX (bl (gV.cs F yM)) bf lh0 F Tryz.f126 [(.int .i64 aa),(.int .i64 au),(.int .i64 eA)] H=gV.twX F yM aa au eA H:=by kernel_rfl
theorem gV.k:Ok Tryz.prog 126 (mk5 (gV.tw F)):=by
 intro args H v H' h
 unfold mk5 at h
 split at h
 ·exact okT (TB:=bf) Tryz.func126 (aR (jN.k F) cD) ae.no ((gV.eqX F (jN.tw F) _ _ _ H).trans h) (by kernel_rfl)
 ·cases h
def gW.twX (F:Nat) (dC:am_) (aa:Nat) (ac:Nat) (ah:Int) (aF:Int) (fh:Sl) (dt:Int) (eX:Int) (eQ:Int) (H:Hp):OA:=(Hp.new H [(.int .i64 ah),(.int .i64 aF),(.sl fh)]).bind λH9=>(dC eQ H9).bind λr10=>((r10.1).asI .i64).bind λn11=>(bif (decide (n11>1000000000000)) then ((Hp.st r10.2 aa (ac+15) (.bool true)).bind λH12=>some ((.tup []),H12)) else ((Hp.ldSl r10.2 H.length 2).bind λs13=>(Hp.ldI r10.2 .i64 H.length 1).bind λn14=>(Sl.idx s13 (wrap .i64 ((wrap .i64 (dt * n14))+eX)) 1).bind λp15=>(Hp.st r10.2 p15.1 p15.2 (.int .i64 eQ)).bind λH16=>some ((.tup []),H16)))
def gW.tw:=gW.twX F (fH.tw F)
def mk13 (g:anj) (args:anb) (H:Hp):OA:=match args with
 | [(.ptr aa ac),(.agg [(.int .i64 ah),(.int .i64 aF),(.sl fh)]),(.int .i64 dt),(.int .i64 eX),(.int .i64 eQ)]=>g aa ac ah aF fh dt eX eQ H
 | _=>none
theorem mk13_E (g:anj) (aa:Nat) (ac:Nat) (ah:Int) (aF:Int) (fh:Sl) (dt:Int) (eX:Int) (eQ:Int) (H:Hp):mk13 g [(.ptr aa ac),(.agg [(.int .i64 ah),(.int .i64 aF),(.sl fh)]),(.int .i64 dt),(.int .i64 eX),(.int .i64 eQ)] H=g aa ac ah aF fh dt eX eQ H:=rfl
def gW.cs (F:Nat) (dC:am_):Cs:=[(46,mk11 dC)]
theorem gW.eqX (dC:am_) (aa:Nat) (ac:Nat) (ah:Int) (aF:Int) (fh:Sl) (dt:Int) (eX:Int) (eQ:Int) (H:Hp):EX (bl (gW.cs F dC)) bf lh0 F Tryz.f125 [(.ptr aa ac),(.agg [(.int .i64 ah),(.int .i64 aF),(.sl fh)]),(.int .i64 dt),(.int .i64 eX),(.int .i64 eQ)] H=gW.twX F dC aa ac ah aF fh dt eX eQ H:=by kernel_rfl
theorem gW.k:Ok Tryz.prog 125 (mk13 (gW.tw F)):=by
 intro args H v H' h
 unfold mk13 at h
 split at h
 ·exact okT (TB:=bf) Tryz.func125 (aR (fH.k F) cD) ae.no ((gW.eqX F (fH.tw F) _ _ _ _ _ _ _ _ H).trans h) (by kernel_rfl)
 ·cases h
def dD.l7 (F:Nat) (aq:am4) (gC:ang) (gD:anj) :Nat->Nat->Nat->Int->Int->Int->Nat->Nat->Int->Hp->OA
 | 0,_,_,_,_,_,_,_,_,_=>none
 | mJ+1,qD,iI,jo,gE,kq,gP,eD,gQ,H21=>(Hp.ldI H21 .i64 gP (eD+1)).bind λn40=>(bif (decide (gQ<n40)) then ((Hp.ldB H21 qD (iI+15)).bind λb41=>(bif (!b41) then ((Hp.ldI H21 .i64 gP eD).bind λn42=>(Hp.ldI H21 .i64 gP (eD+1)).bind λn43=>(Hp.ldSl H21 gP (eD+2)).bind λs44=>(Hp.ldI H21 .i64 gP eD).bind λn45=>(Hp.ldI H21 .i64 gP (eD+1)).bind λn46=>(Hp.ldSl H21 gP (eD+2)).bind λs47=>(aq n45 n46 s47 jo gQ H21).bind λr48=>((r48.1).asI .i64).bind λn49=>(if bo H21 r48.2 then ((Hp.ldI r48.2 .i64 gP eD).bind λn50=>(Hp.ldI r48.2 .i64 gP (eD+1)).bind λn51=>(Hp.ldSl r48.2 gP (eD+2)).bind λs52=>(aq n50 n51 s52 gE gQ r48.2).bind λr53=>((r53.1).asI .i64).bind λn54=>(if bo r48.2 r53.2 then ((gC n49 kq n54 r53.2).bind λr55=>((r55.1).asI .i64).bind λn56=>(if bo r53.2 r55.2 then ((gD qD iI n42 n43 s44 jo gQ n56 r55.2).bind λr57=>dD.l7 F aq gC gD mJ qD iI jo gE kq gP eD (wrap .i64 (gQ+1)) r57.2) else none)) else none)) else none)) else (some ((.tup []),H21)))) else (some ((.tup []),H21)))
termination_by structural n=>n
def dD.twX (aq:am4) (gC:ang) (gD:anj) (aa:Nat) (ac:Nat) (ah:Int) (aF:Int) (fh:Sl) (dt:Int) (eX:Int) (eQ:Int) (H:Hp):OA:=(Hp.new H [(.int .i64 ah),(.int .i64 aF),(.sl fh)]).bind λH9=>dD.l7 F aq gC gD F aa ac dt eX eQ H.length 0 0 H9
def dD.tw:=dD.twX F (bB.tw F) (gV.tw F) (gW.tw F)
def dD.lh7 (aq:am4) (gC:ang) (gD:anj) (ks:am6) (n:Nat) (tm:Tm) (H:Hp):OA:=match ks,tm 0,tm 2,tm 3,tm 4,tm 6,tm 10 with
 | [],(.ptr qD iI),(.int .i64 jo),(.int .i64 gE),(.int .i64 kq),(.ptr gP eD),(.int .i64 gQ)=>dD.l7 F aq gC gD n qD iI jo gE kq gP eD gQ H
 | _,_,_,_,_,_,_=>none
def dD.lh (aq:am4) (gC:ang) (gD:anj) (p:Nat) (ks:am6) (n:Nat) (tm:Tm) (H:Hp):OA:=bif p.beq 7 then dD.lh7 F aq gC gD ks n tm H else (none)
def dD.pn:Nat->List Nat:=dM [(4,[14])]
def dD.tb:Nat->List (List Nat):=dM [(4,[[],[],[],[],[],[],[],[4,5,6],[],[],[],[],[4,5,6,7,9,10,11],[4,5,6,7,8,9,10,11,12],[0,1,2,3,4,5,6,7,8,9,10,11,12,13]])]
def dD.cs (F:Nat) (aq:am4) (gC:ang) (gD:anj):Cs:=[(32,mk9 aq),(126,mk5 gC),(125,mk13 gD)]
theorem dD.loops (aq:am4) (gC:ang) (gD:anj):LO (bl (dD.cs F aq gC gD)) dD.pn (dD.lh F aq gC gD) F Tryz.f106:=
 (ae.rt (ae.rt (ae.block (ae.la (λn tm H r h=>by change dD.lh7 F aq gC gD [] n tm H=_ at h;unfold dD.lh7 at h;split at h;have e:c_ tm [(0,_),(2,_),(3,_),(4,_),(6,_),(10,_)]:=⟨‹_›,‹_›,‹_›,‹_›,‹_›,‹_›,trivial⟩;obtain _ | k7:=n;cases h;exact ⟨_,rfl,by rw [<- db e];exact Eq.trans (by kernel_rfl) h⟩;cases h) λk7=>ae.no))))
theorem dD.eqX (aq:am4) (gC:ang) (gD:anj) (aa:Nat) (ac:Nat) (ah:Int) (aF:Int) (fh:Sl) (dt:Int) (eX:Int) (eQ:Int) (H:Hp):EX (bl (dD.cs F aq gC gD)) dD.pn (dD.lh F aq gC gD) F Tryz.f106 [(.ptr aa ac),(.agg [(.int .i64 ah),(.int .i64 aF),(.sl fh)]),(.int .i64 dt),(.int .i64 eX),(.int .i64 eQ)] H=dD.twX F aq gC gD aa ac ah aF fh dt eX eQ H:=by kernel_rfl
theorem dD.k:Ok Tryz.prog 106 (mk13 (dD.tw F)):=by
 intro args H v H' h
 unfold mk13 at h
 split at h
 ·exact okT (TB:=dD.tb) Tryz.func106 (aR (bB.k F) (aR (gV.k F) (aR (gW.k F) cD))) (dD.loops F (bB.tw F) (gV.tw F) (gW.tw F)) ((dD.eqX F (bB.tw F) (gV.tw F) (gW.tw F) _ _ _ _ _ _ _ _ H).trans h) (by kernel_rfl)
 ·cases h
def dE.l7 (F:Nat) (aq:am4) (gC:ang) (gD:anj) :Nat->Nat->Nat->Int->Int->Int->Nat->Nat->Int->Hp->OA
 | 0,_,_,_,_,_,_,_,_,_=>none
 | mJ+1,qD,iI,jo,gE,kq,gP,eD,gQ,H21=>(Hp.ldI H21 .i64 gP eD).bind λn40=>(bif (decide (gQ<n40)) then ((Hp.ldB H21 qD (iI+15)).bind λb41=>(bif (!b41) then ((Hp.ldI H21 .i64 gP eD).bind λn42=>(Hp.ldI H21 .i64 gP (eD+1)).bind λn43=>(Hp.ldSl H21 gP (eD+2)).bind λs44=>(Hp.ldI H21 .i64 gP eD).bind λn45=>(Hp.ldI H21 .i64 gP (eD+1)).bind λn46=>(Hp.ldSl H21 gP (eD+2)).bind λs47=>(aq n45 n46 s47 gQ jo H21).bind λr48=>((r48.1).asI .i64).bind λn49=>(if bo H21 r48.2 then ((Hp.ldI r48.2 .i64 gP eD).bind λn50=>(Hp.ldI r48.2 .i64 gP (eD+1)).bind λn51=>(Hp.ldSl r48.2 gP (eD+2)).bind λs52=>(aq n50 n51 s52 gQ gE r48.2).bind λr53=>((r53.1).asI .i64).bind λn54=>(if bo r48.2 r53.2 then ((gC n49 kq n54 r53.2).bind λr55=>((r55.1).asI .i64).bind λn56=>(if bo r53.2 r55.2 then ((gD qD iI n42 n43 s44 gQ jo n56 r55.2).bind λr57=>dE.l7 F aq gC gD mJ qD iI jo gE kq gP eD (wrap .i64 (gQ+1)) r57.2) else none)) else none)) else none)) else (some ((.tup []),H21)))) else (some ((.tup []),H21)))
termination_by structural n=>n
def dE.twX (aq:am4) (gC:ang) (gD:anj) (aa:Nat) (ac:Nat) (ah:Int) (aF:Int) (fh:Sl) (dt:Int) (eX:Int) (eQ:Int) (H:Hp):OA:=(Hp.new H [(.int .i64 ah),(.int .i64 aF),(.sl fh)]).bind λH9=>dE.l7 F aq gC gD F aa ac dt eX eQ H.length 0 0 H9
def dE.tw:=dE.twX F (bB.tw F) (gV.tw F) (gW.tw F)
def dE.lh7 (aq:am4) (gC:ang) (gD:anj) (ks:am6) (n:Nat) (tm:Tm) (H:Hp):OA:=match ks,tm 0,tm 2,tm 3,tm 4,tm 6,tm 10 with
 | [],(.ptr qD iI),(.int .i64 jo),(.int .i64 gE),(.int .i64 kq),(.ptr gP eD),(.int .i64 gQ)=>dE.l7 F aq gC gD n qD iI jo gE kq gP eD gQ H
 | _,_,_,_,_,_,_=>none
def dE.lh (aq:am4) (gC:ang) (gD:anj) (p:Nat) (ks:am6) (n:Nat) (tm:Tm) (H:Hp):OA:=bif p.beq 7 then dE.lh7 F aq gC gD ks n tm H else (none)
def dE.pn:Nat->List Nat:=dM [(4,[14])]
def dE.tb:Nat->List (List Nat):=dM [(4,[[],[],[],[],[],[],[],[4,5,6],[],[],[],[],[4,5,6,7,9,10,11],[4,5,6,7,8,9,10,11,12],[0,1,2,3,4,5,6,7,8,9,10,11,12,13]])]
def dE.cs (F:Nat) (aq:am4) (gC:ang) (gD:anj):Cs:=[(32,mk9 aq),(126,mk5 gC),(125,mk13 gD)]
theorem dE.loops (aq:am4) (gC:ang) (gD:anj):LO (bl (dE.cs F aq gC gD)) dE.pn (dE.lh F aq gC gD) F Tryz.f107:=
 (ae.rt (ae.rt (ae.block (ae.la (λn tm H r h=>by change dE.lh7 F aq gC gD [] n tm H=_ at h;unfold dE.lh7 at h;split at h;have e:c_ tm [(0,_),(2,_),(3,_),(4,_),(6,_),(10,_)]:=⟨‹_›,‹_›,‹_›,‹_›,‹_›,‹_›,trivial⟩;obtain _ | k7:=n;cases h;exact ⟨_,rfl,by rw [<- db e];exact Eq.trans (by kernel_rfl) h⟩;cases h) λk7=>ae.no))))
theorem dE.eqX (aq:am4) (gC:ang) (gD:anj) (aa:Nat) (ac:Nat) (ah:Int) (aF:Int) (fh:Sl) (dt:Int) (eX:Int) (eQ:Int) (H:Hp):EX (bl (dE.cs F aq gC gD)) dE.pn (dE.lh F aq gC gD) F Tryz.f107 [(.ptr aa ac),(.agg [(.int .i64 ah),(.int .i64 aF),(.sl fh)]),(.int .i64 dt),(.int .i64 eX),(.int .i64 eQ)] H=dE.twX F aq gC gD aa ac ah aF fh dt eX eQ H:=by kernel_rfl
theorem dE.k:Ok Tryz.prog 107 (mk13 (dE.tw F)):=by
 intro args H v H' h
 unfold mk13 at h
 split at h
 ·exact okT (TB:=dE.tb) Tryz.func107 (aR (bB.k F) (aR (gV.k F) (aR (gW.k F) cD))) (dE.loops F (bB.tw F) (gV.tw F) (gW.tw F)) ((dE.eqX F (bB.tw F) (gV.tw F) (gW.tw F) _ _ _ _ _ _ _ _ H).trans h) (by kernel_rfl)
 ·cases h
def hY.twX (F:Nat) (oT:anj) (oU:anj) (aa:Nat) (ac:Nat) (ah:Int) (cH:Int) (d_:Int) (H:Hp):OA:=(bif (d_ != 0) then ((Hp.ldI H .i64 aa ac).bind λn6=>(Hp.ldI H .i64 aa (ac+1)).bind λn7=>(Hp.ldSl H aa (ac+2)).bind λs8=>(oT aa ac n6 n7 s8 ah cH d_ H).bind λr9=>(Hp.ldI r9.2 .i64 aa (ac+3)).bind λn10=>(Hp.ldI r9.2 .i64 aa ((ac+3)+1)).bind λn11=>(Hp.ldSl r9.2 aa ((ac+3)+2)).bind λs12=>(oT aa ac n10 n11 s12 ah cH d_ r9.2).bind λr13=>(Hp.ldI r13.2 .i64 aa (ac+6)).bind λn14=>(Hp.ldI r13.2 .i64 aa ((ac+6)+1)).bind λn15=>(Hp.ldSl r13.2 aa ((ac+6)+2)).bind λs16=>(oU aa ac n14 n15 s16 cH ah (wrap .i64 (0 - d_)) r13.2).bind λr17=>some ((.tup []),r17.2)) else (some ((.tup []),H)))
def hY.tw:=hY.twX F (dD.tw F) (dE.tw F)
def mk14 (g:anf) (args:anb) (H:Hp):OA:=match args with
 | [(.ptr aa ac),(.int .i64 ah),(.int .i64 cH),(.int .i64 d_)]=>g aa ac ah cH d_ H
 | _=>none
theorem mk14_E (g:anf) (aa:Nat) (ac:Nat) (ah:Int) (cH:Int) (d_:Int) (H:Hp):mk14 g [(.ptr aa ac),(.int .i64 ah),(.int .i64 cH),(.int .i64 d_)] H=g aa ac ah cH d_ H:=rfl
def hY.cs (F:Nat) (oT:anj) (oU:anj):Cs:=[(106,mk13 oT),(107,mk13 oU)]
theorem hY.eqX (oT:anj) (oU:anj) (aa:Nat) (ac:Nat) (ah:Int) (cH:Int) (d_:Int) (H:Hp):EX (bl (hY.cs F oT oU)) bf lh0 F Tryz.f84 [(.ptr aa ac),(.int .i64 ah),(.int .i64 cH),(.int .i64 d_)] H=hY.twX F oT oU aa ac ah cH d_ H:=by kernel_rfl
theorem hY.k:Ok Tryz.prog 84 (mk14 (hY.tw F)):=by
 intro args H v H' h
 unfold mk14 at h
 split at h
 ·exact okT (TB:=bf) Tryz.func84 (aR (dD.k F) (aR (dE.k F) cD)) ae.no ((hY.eqX F (dD.tw F) (dE.tw F) _ _ _ _ _ H).trans h) (by kernel_rfl)
 ·cases h
def io.twX (F:Nat) (oU:anj) (oT:anj) (aa:Nat) (ac:Nat) (ah:Int) (cH:Int) (d_:Int) (H:Hp):OA:=(bif (d_ != 0) then ((Hp.ldI H .i64 aa ac).bind λn6=>(Hp.ldI H .i64 aa (ac+1)).bind λn7=>(Hp.ldSl H aa (ac+2)).bind λs8=>(oU aa ac n6 n7 s8 ah cH d_ H).bind λr9=>(Hp.ldI r9.2 .i64 aa (ac+9)).bind λn10=>(Hp.ldI r9.2 .i64 aa ((ac+9)+1)).bind λn11=>(Hp.ldSl r9.2 aa ((ac+9)+2)).bind λs12=>(oU aa ac n10 n11 s12 ah cH d_ r9.2).bind λr13=>(Hp.ldI r13.2 .i64 aa (ac+12)).bind λn14=>(Hp.ldI r13.2 .i64 aa ((ac+12)+1)).bind λn15=>(Hp.ldSl r13.2 aa ((ac+12)+2)).bind λs16=>(oT aa ac n14 n15 s16 cH ah (wrap .i64 (0 - d_)) r13.2).bind λr17=>some ((.tup []),r17.2)) else (some ((.tup []),H)))
def io.tw:=io.twX F (dE.tw F) (dD.tw F)
def io.cs (F:Nat) (oU:anj) (oT:anj):Cs:=[(107,mk13 oU),(106,mk13 oT)]
theorem io.eqX (oU:anj) (oT:anj) (aa:Nat) (ac:Nat) (ah:Int) (cH:Int) (d_:Int) (H:Hp):EX (bl (io.cs F oU oT)) bf lh0 F Tryz.f86 [(.ptr aa ac),(.int .i64 ah),(.int .i64 cH),(.int .i64 d_)] H=io.twX F oU oT aa ac ah cH d_ H:=by kernel_rfl
theorem io.k:Ok Tryz.prog 86 (mk14 (io.tw F)):=by
 intro args H v H' h
 unfold mk14 at h
 split at h
 ·exact okT (TB:=bf) Tryz.func86 (aR (dE.k F) (aR (dD.k F) cD)) ae.no ((io.eqX F (dE.tw F) (dD.tw F) _ _ _ _ _ H).trans h) (by kernel_rfl)
 ·cases h
def cE.l29 (F:Nat) (aq:am4) :Nat->Nat->Nat->Int->Int->Hp->OA
 | 0,_,_,_,_,_=>none
 | fG+1,vr,vt,qE,pu,H30=>(Hp.ldI H30 .i64 vr (vt+1)).bind λn37=>(bif (decide (pu<n37)) then ((Hp.ldI H30 .i64 vr vt).bind λn38=>(Hp.ldI H30 .i64 vr (vt+1)).bind λn39=>(Hp.ldSl H30 vr (vt+2)).bind λs40=>(aq n38 n39 s40 qE pu H30).bind λr41=>((r41.1).asI .i64).bind λn42=>(bif (n42 != 0) then (some ((.bool false),r41.2)) else (cE.l29 F aq fG vr vt qE (wrap .i64 (pu+1)) r41.2))) else (some ((.bool true),H30)))
termination_by structural n=>n
def cE.j1 (aq:am4) (adv:Nat) (adw:Nat) (tQ:Int) (H22:Hp):OA:=cE.l29 F aq F adv adw tQ (wrap .i64 (tQ+1)) H22
def cE.l13 (F:Nat) (aq:am4) :Nat->Nat->Nat->Int->Int->Hp->OA
 | 0,_,_,_,_,_=>none
 | jc+1,fI,lY,gp,gB,H9=>(Hp.ldI H9 .i64 fI lY).bind λn43=>(bif (decide (gB<n43)) then ((Hp.ldI H9 .i64 fI lY).bind λn44=>(Hp.ldI H9 .i64 fI (lY+1)).bind λn45=>(Hp.ldSl H9 fI (lY+2)).bind λs46=>(aq n44 n45 s46 gB gp H9).bind λr47=>((r47.1).asI .i64).bind λn48=>(bif (n48 != 0) then (some ((.bool false),r47.2)) else (cE.l13 F aq jc fI lY gp (wrap .i64 (gB+1)) r47.2))) else (cE.j1 F aq fI lY gp H9))
termination_by structural n=>n
def cE.twX (aq:am4) (aa:Nat) (ac:Nat) (ah:Int) (H:Hp):OA:=cE.l13 F aq F aa ac ah (wrap .i64 (ah+1)) H
def cE.tw:=cE.twX F (bB.tw F)
def cE.lh13 (aq:am4) (ks:am6) (n:Nat) (tm:Tm) (H:Hp):OA:=match ks,tm 0,tm 1,tm 5 with
 | [],(.ptr fI lY),(.int .i64 gp),(.int .i64 gB)=>cE.l13 F aq n fI lY gp gB H
 | _,_,_,_=>none
def cE.lh29 (aq:am4) (ks:am6) (n:Nat) (tm:Tm) (H:Hp):OA:=match ks,tm 0,tm 1,tm 6 with
 | [],(.ptr vr vt),(.int .i64 qE),(.int .i64 pu)=>cE.l29 F aq n vr vt qE pu H
 | _,_,_,_=>none
def cE.lh (aq:am4) (p:Nat) (ks:am6) (n:Nat) (tm:Tm) (H:Hp):OA:=bif p.beq 29 then cE.lh29 F aq ks n tm H else (bif p.beq 13 then cE.lh13 F aq ks n tm H else (none))
def cE.cs (F:Nat) (aq:am4):Cs:=[(32,mk9 aq)]
theorem cE.loops (aq:am4):LO (bl (cE.cs F aq)) bf (cE.lh F aq) F Tryz.f87:=
 (ae.rt (ae.seq (ae.rt (ae.block (ae.la (λn tm H r h=>by change cE.lh13 F aq [] n tm H=_ at h;unfold cE.lh13 at h;split at h;have e:c_ tm [(0,_),(1,_),(5,_)]:=⟨‹_›,‹_›,‹_›,trivial⟩;obtain _ | k13:=n;cases h;exact ⟨_,rfl,by rw [<- db e];exact Eq.trans (by kernel_rfl) h⟩;cases h) λk13=>ae.no))) (ae.lt (ae.rt (ae.block (ae.la (λn tm H r h=>by change cE.lh29 F aq [] n tm H=_ at h;unfold cE.lh29 at h;split at h;have e:c_ tm [(0,_),(1,_),(6,_)]:=⟨‹_›,‹_›,‹_›,trivial⟩;obtain _ | k29:=n;cases h;exact ⟨_,rfl,by rw [<- db e];exact Eq.trans (by kernel_rfl) h⟩;cases h) λk29=>ae.no))))))
theorem cE.eqX (aq:am4) (aa:Nat) (ac:Nat) (ah:Int) (H:Hp):EX (bl (cE.cs F aq)) bf (cE.lh F aq) F Tryz.f87 [(.ptr aa ac),(.int .i64 ah)] H=cE.twX F aq aa ac ah H:=by kernel_rfl
theorem cE.k:Ok Tryz.prog 87 (mk12 (cE.tw F)):=by
 intro args H v H' h
 unfold mk12 at h
 split at h
 ·exact okT (TB:=bf) Tryz.func87 (aR (bB.k F) cD) (cE.loops F (bB.tw F)) ((cE.eqX F (bB.tw F) _ _ _ H).trans h) (by kernel_rfl)
 ·cases h
def bT.j3 (F:Nat) (aq:am4) (C13_:anw) (adx:Nat) (ady:Nat) (yN:Int) (yO:Int) (H96:Hp):OA:=C13_ adx ady yN (wrap .i64 (yO+1)) H96
def bT.j4 (aq:am4) (C13_:anw) (adz:Nat) (adA:Nat) (yP:Int) (tR:Int) (H87:Hp):OA:=bT.j3 F aq C13_ adz adA yP tR H87
def bT.l213 (F:Nat) (aq:am4) (C13_:anw):Nat->Nat->Nat->Int->Int->Int->Hp->OA
 | 0,_,_,_,_,_,_=>none
 | EO+1,qF,qG,nN,nO,pv,H67=>(Hp.ldI H67 .i64 qF (qG+1)).bind λn97=>(bif (decide (pv<n97)) then ((Hp.ldI H67 .i64 qF qG).bind λn98=>(Hp.ldI H67 .i64 qF (qG+1)).bind λn99=>(Hp.ldSl H67 qF (qG+2)).bind λs100=>(aq n98 n99 s100 nO pv H67).bind λr101=>((r101.1).asI .i64).bind λn102=>(if bo H67 r101.2 then ((Hp.ldI r101.2 .i64 qF qG).bind λn103=>(Hp.ldI r101.2 .i64 qF (qG+1)).bind λn104=>(Hp.ldSl r101.2 qF (qG+2)).bind λs105=>(aq n103 n104 s105 nN nN r101.2).bind λr106=>((r106.1).asI .i64).bind λn107=>(if n107=0 then none else ((bif ((Int.tmod n102 n107) != 0) then (some ((.int .i64 nO),r106.2)) else (bT.l213 F aq C13_ EO qF qG nN nO (wrap .i64 (pv+1)) r106.2))))) else none)) else (bT.j4 F aq C13_ qF qG nN nO H67))
termination_by structural n=>n
def bT.l13 (F:Nat) (aq:am4) :Nat->Nat->Nat->Int->Int->Hp->OA
 | 0,_,_,_,_,_=>none
 | jc+1,fI,lY,gp,gB,H9=>(Hp.ldI H9 .i64 fI lY).bind λn59=>(bif (decide (gB<n59)) then (bT.l213 F aq (bT.l13 F aq jc) F fI lY gp gB (wrap .i64 (gp+1)) H9) else (some ((.int .i64 (-1)),H9)))
termination_by structural n=>n
def bT.twX (aq:am4) (aa:Nat) (ac:Nat) (ah:Int) (H:Hp):OA:=bT.l13 F aq F aa ac ah (wrap .i64 (ah+1)) H
def bT.tw:=bT.twX F (bB.tw F)
def bT.lh13 (aq:am4) (ks:am6) (n:Nat) (tm:Tm) (H:Hp):OA:=match ks,tm 0,tm 1,tm 5 with
 | [],(.ptr fI lY),(.int .i64 gp),(.int .i64 gB)=>bT.l13 F aq n fI lY gp gB H
 | _,_,_,_=>none
def bT.lh213 (aq:am4) (ks:am6) (n:Nat) (tm:Tm) (H:Hp):OA:=match ks,tm 0,tm 1,tm 5,tm 6 with
 | [jc],(.ptr qF qG),(.int .i64 nN),(.int .i64 nO),(.int .i64 pv)=>bT.l213 F aq (bT.l13 F aq jc) n qF qG nN nO pv H
 | _,_,_,_,_=>none
def bT.lh (aq:am4) (p:Nat) (ks:am6) (n:Nat) (tm:Tm) (H:Hp):OA:=bif p.beq 213 then bT.lh213 F aq ks n tm H else (bif p.beq 13 then bT.lh13 F aq ks n tm H else (none))
def bT.pn:Nat->List Nat:=dM [(7,[13])]
def bT.tb:Nat->List (List Nat):=dM [(7,[[],[0],[0,1],[0,1,2],[],[],[0,1,2,3,4,5],[],[7],[7,8],[7,8,9],[],[],[0,1,2,3,4,5,6,7,8,9,10,11,12],[0,1,2,3,4,5,6,7,8,9,10,11,12,13],[0,1,2,3,4,5,6,7,8,9,10,11,12,13,14]])]
def bT.cs (F:Nat) (aq:am4):Cs:=[(32,mk9 aq)]
theorem bT.loops (aq:am4):LO (bl (bT.cs F aq)) bT.pn (bT.lh F aq) F Tryz.f88:=
 (ae.rt (ae.lt (ae.rt (ae.block (ae.la (λn tm H r h=>by change bT.lh13 F aq [] n tm H=_ at h;unfold bT.lh13 at h;split at h;have e:c_ tm [(0,_),(1,_),(5,_)]:=⟨‹_›,‹_›,‹_›,trivial⟩;obtain _ | k13:=n;cases h;exact ⟨_,rfl,by rw [<- db e];exact Eq.trans (by kernel_rfl) h⟩;cases h) λk13=>(ae.rt (ae.lt (ae.block (ae.rt (ae.block (ae.la (λn tm H r h=>by change bT.lh213 F aq [k13] n tm H=_ at h;unfold bT.lh213 at h;split at h;have e:c_ tm [(0,_),(1,_),(5,_),(6,_)]:=⟨‹_›,‹_›,‹_›,‹_›,trivial⟩;cases (show [k13]=_ from ‹_›);obtain _ | k213:=n;cases h;exact ⟨_,rfl,by rw [<- db e];exact Eq.trans (by kernel_rfl) h⟩;cases h) λk213=>ae.no)))))))))))
theorem bT.eqX (aq:am4) (aa:Nat) (ac:Nat) (ah:Int) (H:Hp):EX (bl (bT.cs F aq)) bT.pn (bT.lh F aq) F Tryz.f88 [(.ptr aa ac),(.int .i64 ah)] H=bT.twX F aq aa ac ah H:=by kernel_rfl
theorem bT.k:Ok Tryz.prog 88 (mk12 (bT.tw F)):=by
 intro args H v H' h
 unfold mk12 at h
 split at h
 ·exact okT (TB:=bT.tb) Tryz.func88 (aR (bB.k F) cD) (bT.loops F (bB.tw F)) ((bT.eqX F (bB.tw F) _ _ _ H).trans h) (by kernel_rfl)
 ·cases h
def bF.j1 (F:Nat) (ip:am9) (aq:am4) (ij:ana) (ik:anf) (iq:anf) (iu:am9) (iv:am9) (yQ:Nat) (yR:Nat) (rV:Int) (H73:Hp):OA:=(Hp.ldB H73 yQ (yR+15)).bind λb74=>(bif b74 then (some ((.tup [(.bool false),(.bool false)]),H73)) else ((iu yQ yR rV H73).bind λr75=>((r75.1).asB).bind λb76=>(bif (!b76) then (some ((.tup [(.bool false),(.bool false)]),r75.2)) else ((iv yQ yR rV r75.2).bind λr77=>((r77.1).asI .i64).bind λn78=>(bif (decide (n78<0)) then (some ((.tup [(.bool true),(.bool false)]),r77.2)) else ((ik yQ yR rV n78 (-1) r77.2).bind λr79=>some ((.tup [(.bool false),(.bool false)]),r79.2)))))))
def bF.l61 (F:Nat) (ip:am9) (aq:am4) (ij:ana) (ik:anf) (iq:anf) (iu:am9) (iv:am9) :Nat->Nat->Nat->Int->Int->Hp->OA
 | 0,_,_,_,_,_=>none
 | fB+1,oV,oW,kX,nP,H47=>(Hp.ldI H47 .i64 oV (oW+1)).bind λn80=>(bif (decide (nP<n80)) then ((Hp.ldB H47 oV (oW+15)).bind λb81=>(bif (!b81) then ((Hp.ldI H47 .i64 oV oW).bind λn82=>(Hp.ldI H47 .i64 oV (oW+1)).bind λn83=>(Hp.ldSl H47 oV (oW+2)).bind λs84=>(aq n82 n83 s84 kX nP H47).bind λr85=>((r85.1).asI .i64).bind λn86=>(if bo H47 r85.2 then ((Hp.ldI r85.2 .i64 oV oW).bind λn87=>(Hp.ldI r85.2 .i64 oV (oW+1)).bind λn88=>(Hp.ldSl r85.2 oV (oW+2)).bind λs89=>(aq n87 n88 s89 kX kX r85.2).bind λr90=>((r90.1).asI .i64).bind λn91=>(ij n86 n91 r90.2).bind λr92=>((r92.1).asI .i64).bind λn93=>(iq oV oW nP kX n93 r92.2).bind λr94=>bF.l61 F ip aq ij ik iq iu iv fB oV oW kX (wrap .i64 (nP+1)) r94.2) else none)) else (bF.j1 F ip aq ij ik iq iu iv oV oW kX H47))) else (bF.j1 F ip aq ij ik iq iu iv oV oW kX H47))
termination_by structural n=>n
def bF.j2 (ip:am9) (aq:am4) (ij:ana) (ik:anf) (iq:anf) (iu:am9) (iv:am9) (JW:Nat) (adB:Nat) (tS:Int) (H37:Hp):OA:=bF.l61 F ip aq ij ik iq iu iv F JW adB tS (wrap .i64 (tS+1)) H37
def bF.l29 (F:Nat) (ip:am9) (aq:am4) (ij:ana) (ik:anf) (iq:anf) (iu:am9) (iv:am9) :Nat->Nat->Nat->Int->Int->Hp->OA
 | 0,_,_,_,_,_=>none
 | fG+1,lZ,oX,fL,nQ,H13=>(Hp.ldI H13 .i64 lZ oX).bind λn95=>(bif (decide (nQ<n95)) then ((Hp.ldB H13 lZ (oX+15)).bind λb96=>(bif (!b96) then ((Hp.ldI H13 .i64 lZ oX).bind λn97=>(Hp.ldI H13 .i64 lZ (oX+1)).bind λn98=>(Hp.ldSl H13 lZ (oX+2)).bind λs99=>(aq n97 n98 s99 nQ fL H13).bind λr100=>((r100.1).asI .i64).bind λn101=>(if bo H13 r100.2 then ((Hp.ldI r100.2 .i64 lZ oX).bind λn102=>(Hp.ldI r100.2 .i64 lZ (oX+1)).bind λn103=>(Hp.ldSl r100.2 lZ (oX+2)).bind λs104=>(aq n102 n103 s104 fL fL r100.2).bind λr105=>((r105.1).asI .i64).bind λn106=>(ij n101 n106 r105.2).bind λr107=>((r107.1).asI .i64).bind λn108=>(ik lZ oX nQ fL n108 r107.2).bind λr109=>bF.l29 F ip aq ij ik iq iu iv fG lZ oX fL (wrap .i64 (nQ+1)) r109.2) else none)) else (bF.j2 F ip aq ij ik iq iu iv lZ oX fL H13))) else (bF.j2 F ip aq ij ik iq iu iv lZ oX fL H13))
termination_by structural n=>n
def bF.twX (ip:am9) (aq:am4) (ij:ana) (ik:anf) (iq:anf) (iu:am9) (iv:am9) (aa:Nat) (ac:Nat) (ah:Int) (H:Hp):OA:=(ip aa ac ah H).bind λr4=>((r4.1).asB).bind λb5=>(bif (!b5) then (some ((.tup [(.bool true),(.bool true)]),r4.2)) else (bF.l29 F ip aq ij ik iq iu iv F aa ac ah (wrap .i64 (ah+1)) r4.2))
def bF.tw:=bF.twX F (aL.tw F) (bB.tw F) (jn.tw F) (hY.tw F) (io.tw F) (cE.tw F) (bT.tw F)
def bF.lh29 (ip:am9) (aq:am4) (ij:ana) (ik:anf) (iq:anf) (iu:am9) (iv:am9) (ks:am6) (n:Nat) (tm:Tm) (H:Hp):OA:=match ks,tm 0,tm 1,tm 6 with
 | [],(.ptr lZ oX),(.int .i64 fL),(.int .i64 nQ)=>bF.l29 F ip aq ij ik iq iu iv n lZ oX fL nQ H
 | _,_,_,_=>none
def bF.lh61 (ip:am9) (aq:am4) (ij:ana) (ik:anf) (iq:anf) (iu:am9) (iv:am9) (ks:am6) (n:Nat) (tm:Tm) (H:Hp):OA:=match ks,tm 0,tm 1,tm 7 with
 | [],(.ptr oV oW),(.int .i64 kX),(.int .i64 nP)=>bF.l61 F ip aq ij ik iq iu iv n oV oW kX nP H
 | _,_,_,_=>none
def bF.lh (ip:am9) (aq:am4) (ij:ana) (ik:anf) (iq:anf) (iu:am9) (iv:am9) (p:Nat) (ks:am6) (n:Nat) (tm:Tm) (H:Hp):OA:=bif p.beq 61 then bF.lh61 F ip aq ij ik iq iu iv ks n tm H else (bif p.beq 29 then bF.lh29 F ip aq ij ik iq iu iv ks n tm H else (none))
def bF.pn:Nat->List Nat:=dM [(6,[16,17,18]),(10,[16,17,18])]
def bF.tb:Nat->List (List Nat):=dM [(6,[[],[],[],[],[3],[3,4],[3,4,5],[],[],[3,4,5,6,7,8],[],[10],[10,11],[10,11,12],[],[],[3,4,5,6,7,8,9,10,11,12,13,14,15],[3,4,5,6,7,8,9,10,11,12,13,14,15,16],[0,1,2,3,4,5,6,7,8,9,10,11,12,13,14,15,16,17]]),(10,[[],[],[],[],[3],[3,4],[3,4,5],[],[],[3,4,5,6,7,8],[],[10],[10,11],[10,11,12],[],[],[3,4,5,6,7,8,9,10,11,12,13,14,15],[3,4,5,6,7,8,9,10,11,12,13,14,15,16],[0,1,2,3,4,5,6,7,8,9,10,11,12,13,14,15,16,17]])]
def bF.cs (F:Nat) (ip:am9) (aq:am4) (ij:ana) (ik:anf) (iq:anf) (iu:am9) (iv:am9):Cs:=[(83,mk12 ip),(32,mk9 aq),(85,mk8 ij),(84,mk14 ik),(86,mk14 iq),(87,mk12 iu),(88,mk12 iv)]
theorem bF.loops (ip:am9) (aq:am4) (ij:ana) (ik:anf) (iq:anf) (iu:am9) (iv:am9):LO (bl (bF.cs F ip aq ij ik iq iu iv)) bF.pn (bF.lh F ip aq ij ik iq iu iv) F Tryz.f68:=
 (ae.rt (ae.rt (ae.seq (ae.rt (ae.block (ae.la (λn tm H r h=>by change bF.lh29 F ip aq ij ik iq iu iv [] n tm H=_ at h;unfold bF.lh29 at h;split at h;have e:c_ tm [(0,_),(1,_),(6,_)]:=⟨‹_›,‹_›,‹_›,trivial⟩;obtain _ | k29:=n;cases h;exact ⟨_,rfl,by rw [<- db e];exact Eq.trans (by kernel_rfl) h⟩;cases h) λk29=>ae.no))) (ae.lt (ae.rt (ae.block (ae.la (λn tm H r h=>by change bF.lh61 F ip aq ij ik iq iu iv [] n tm H=_ at h;unfold bF.lh61 at h;split at h;have e:c_ tm [(0,_),(1,_),(7,_)]:=⟨‹_›,‹_›,‹_›,trivial⟩;obtain _ | k61:=n;cases h;exact ⟨_,rfl,by rw [<- db e];exact Eq.trans (by kernel_rfl) h⟩;cases h) λk61=>ae.no)))))))
theorem bF.eqX (ip:am9) (aq:am4) (ij:ana) (ik:anf) (iq:anf) (iu:am9) (iv:am9) (aa:Nat) (ac:Nat) (ah:Int) (H:Hp):EX (bl (bF.cs F ip aq ij ik iq iu iv)) bF.pn (bF.lh F ip aq ij ik iq iu iv) F Tryz.f68 [(.ptr aa ac),(.int .i64 ah)] H=bF.twX F ip aq ij ik iq iu iv aa ac ah H:=by kernel_rfl
theorem bF.k:Ok Tryz.prog 68 (mk12 (bF.tw F)):=by
 intro args H v H' h
 unfold mk12 at h
 split at h
 ·exact okT (TB:=bF.tb) Tryz.func68 (aR (aL.k F) (aR (bB.k F) (aR (jn.k F) (aR (hY.k F) (aR (io.k F) (aR (cE.k F) (aR (bT.k F) cD))))))) (bF.loops F (aL.tw F) (bB.tw F) (jn.tw F) (hY.tw F) (io.tw F) (cE.tw F) (bT.tw F)) ((bF.eqX F (aL.tw F) (bB.tw F) (jn.tw F) (hY.tw F) (io.tw F) (cE.tw F) (bT.tw F) _ _ _ H).trans h) (by kernel_rfl)
 ·cases h
def bJ.j3 (F:Nat) (gX:am_) (iw:am9) (C29_:anI) (Fd:Nat) (adD:Nat) (Fe:Nat) (adE:Nat) (yS:Int) (H161:Hp):OA:=C29_ Fd adD Fe adE (wrap .i64 (yS+1)) H161
def bJ.j4 (gX:am_) (iw:am9) (C29_:anI) (pg:Nat) (adF:Nat) (oO:Nat) (xL:Nat) (tT:Int) (tL:Bool) (H146:Hp):OA:=(bif tL then (some ((.ptr oO xL),H146)) else ((Hp.ldB H146 oO (xL+15)).bind λb147=>(bif b147 then (some ((.ptr oO xL),H146)) else (bJ.j3 F gX iw C29_ pg adF oO xL tT H146))))
def bJ.l938 (F:Nat) (gX:am_) (iw:am9) (C29_:anI):Nat->Nat->Nat->Nat->Nat->Int->Bool->Bool->Hp->OA
 | 0,_,_,_,_,_,_,_,_=>none
 | adG+1,sI,Cl,qH,vu,nR,sJ,qI,H126=>(bif (!sJ) then ((Hp.ldB H126 qH (vu+15)).bind λb162=>(bif (!b162) then ((iw qH vu nR H126).bind λr163=>((r163.1).asTup 2).bind λl164=>(l164[0]?).bind λv165=>((v165).asB).bind λb166=>(l164[1]?).bind λv167=>((v167).asB).bind λb168=>bJ.l938 F gX iw C29_ adG sI Cl qH vu nR b166 b168 r163.2) else (bJ.j4 F gX iw C29_ sI Cl qH vu nR qI H126))) else (bJ.j4 F gX iw C29_ sI Cl qH vu nR qI H126))
termination_by structural n=>n
def bJ.l29 (F:Nat) (gX:am_) (iw:am9) :Nat->Nat->Nat->Nat->Nat->Int->Hp->OA
 | 0,_,_,_,_,_,_=>none
 | fG+1,sK,Cm,tU,Ff,qJ,H56=>(Hp.ldI H56 .i64 sK Cm).bind λn113=>(Hp.ldI H56 .i64 sK (Cm+1)).bind λn114=>(bif (decide (qJ<(if n114<n113 then n114 else n113))) then (bJ.l938 F gX iw (bJ.l29 F gX iw fG) F sK Cm tU Ff qJ false false H56) else (some ((.ptr tU Ff),H56)))
termination_by structural n=>n
def bJ.twX (gX:am_) (iw:am9) (aa:Int) (ac:Int) (aZ:Sl) (H:Hp):OA:=(Hp.new H [(.int .i64 aa),(.int .i64 ac),(.sl aZ)]).bind λH4=>(Hp.ldI H4 .i64 H.length 0).bind λn5=>(Hp.ldI H4 .i64 H.length 1).bind λn6=>(Hp.new H4 []).bind λH7=>(Hp.ldSl H7 H.length 2).bind λs8=>(Sl.row H7 s8 1).bind λxs10=>(Hp.app H7 1 8 (⟨some (H4.length,0),0,.ex 0⟩:Sl) s8.n xs10).bind λa9=>(if bo H7 a9.2 then ((Hp.ldI a9.2 .i64 H.length 0).bind λn11=>(gX n11 a9.2).bind λr12=>((r12.1).asAgg 3).bind λl13=>(l13[0]?).bind λv14=>((v14).asI .i64).bind λn15=>(l13[1]?).bind λv16=>((v16).asI .i64).bind λn17=>(l13[2]?).bind λv18=>((v18).asSl).bind λs19=>(if bo a9.2 r12.2 then ((Hp.ldI r12.2 .i64 H.length 0).bind λn20=>(gX n20 r12.2).bind λr21=>((r21.1).asAgg 3).bind λl22=>(l22[0]?).bind λv23=>((v23).asI .i64).bind λn24=>(l22[1]?).bind λv25=>((v25).asI .i64).bind λn26=>(l22[2]?).bind λv27=>((v27).asSl).bind λs28=>(if bo r12.2 r21.2 then ((Hp.ldI r21.2 .i64 H.length 1).bind λn29=>(gX n29 r21.2).bind λr30=>((r30.1).asAgg 3).bind λl31=>(l31[0]?).bind λv32=>((v32).asI .i64).bind λn33=>(l31[1]?).bind λv34=>((v34).asI .i64).bind λn35=>(l31[2]?).bind λv36=>((v36).asSl).bind λs37=>(if bo r21.2 r30.2 then ((Hp.ldI r30.2 .i64 H.length 1).bind λn38=>(gX n38 r30.2).bind λr39=>((r39.1).asAgg 3).bind λl40=>(l40[0]?).bind λv41=>((v41).asI .i64).bind λn42=>(l40[1]?).bind λv43=>((v43).asI .i64).bind λn44=>(l40[2]?).bind λv45=>((v45).asSl).bind λs46=>(if bo r30.2 r39.2 then ((Hp.new r39.2 [(.int .i64 n5),(.int .i64 n6),(.sl a9.1),(.int .i64 n15),(.int .i64 n17),(.sl s19),(.int .i64 n24),(.int .i64 n26),(.sl s28),(.int .i64 n33),(.int .i64 n35),(.sl s37),(.int .i64 n42),(.int .i64 n44),(.sl s46),(.bool false)]).bind λH47=>bJ.l29 F gX iw F H.length 0 r39.2.length 0 0 H47) else none)) else none)) else none)) else none)) else none)
def bJ.tw:=bJ.twX F (dU.tw F) (bF.tw F)
def bJ.lh29 (gX:am_) (iw:am9) (ks:am6) (n:Nat) (tm:Tm) (H:Hp):OA:=match ks,tm 1,tm 2,tm 3,tm 4 with
 | [],(.ptr sK Cm),.nilp,(.ptr tU Ff),(.int .i64 qJ)=>bJ.l29 F gX iw n sK Cm tU Ff qJ H
 | _,_,_,_,_=>none
def bJ.lh938 (gX:am_) (iw:am9) (ks:am6) (n:Nat) (tm:Tm) (H:Hp):OA:=match ks,tm 1,tm 2,tm 3,tm 4,tm 5,tm 6 with
 | [fG],(.ptr sI Cl),.nilp,(.ptr qH vu),(.int .i64 nR),(.bool sJ),(.bool qI)=>bJ.l938 F gX iw (bJ.l29 F gX iw fG) n sI Cl qH vu nR sJ qI H
 | _,_,_,_,_,_,_=>none
def bJ.lh (gX:am_) (iw:am9) (p:Nat) (ks:am6) (n:Nat) (tm:Tm) (H:Hp):OA:=bif p.beq 938 then bJ.lh938 F gX iw ks n tm H else (bif p.beq 29 then bJ.lh29 F gX iw ks n tm H else (none))
def bJ.tb:Nat->List (List Nat):=dM [(1,[[],[0],[],[2],[],[],[5],[4,5,6],[0,1,2,3,4,5,6,7],[],[9],[4,5,6,7,9,10],[],[12],[4,5,6,7,9,10,11,12,13],[],[15],[4,5,6,7,9,10,11,12,13,14,15,16],[],[18],[4,5,6,7,9,10,11,12,13,14,15,16,17,18,19],[0,1,2,3,4,5,6,7,8,9,10,11,12,13,14,15,16,17,18,19,20],[0,1,2,3,4,5,6,7,8,9,10,11,12,13,14,15,16,17,18,19,20,21],[0,1,2,3,4,5,6,7,8,9,10,11,12,13,14,15,16,17,18,19,20,21,22]])]
def bJ.cs (F:Nat) (gX:am_) (iw:am9):Cs:=[(67,mk11 gX),(68,mk12 iw)]
theorem bJ.loops (gX:am_) (iw:am9):LO (bl (bJ.cs F gX iw)) bf (bJ.lh F gX iw) F Tryz.f45:=
 (ae.rt (ae.rt (ae.lt (ae.rt (ae.block (ae.la (λn tm H r h=>by change bJ.lh29 F gX iw [] n tm H=_ at h;unfold bJ.lh29 at h;split at h;have e:c_ tm [(1,_),(2,_),(3,_),(4,_)]:=⟨‹_›,‹_›,‹_›,‹_›,trivial⟩;obtain _ | k29:=n;cases h;exact ⟨_,rfl,by rw [<- db e];exact Eq.trans (by kernel_rfl) h⟩;cases h) λk29=>(ae.rt (ae.lt (ae.block (ae.rt (ae.lt (ae.block (ae.la (λn tm H r h=>by change bJ.lh938 F gX iw [k29] n tm H=_ at h;unfold bJ.lh938 at h;split at h;have e:c_ tm [(1,_),(2,_),(3,_),(4,_),(5,_),(6,_)]:=⟨‹_›,‹_›,‹_›,‹_›,‹_›,‹_›,trivial⟩;cases (show [k29]=_ from ‹_›);obtain _ | k938:=n;cases h;exact ⟨_,rfl,by rw [<- db e];exact Eq.trans (by kernel_rfl) h⟩;cases h) λk938=>ae.no)))))))))))))
theorem bJ.eqX (gX:am_) (iw:am9) (aa:Int) (ac:Int) (aZ:Sl) (H:Hp):EX (bl (bJ.cs F gX iw)) bf (bJ.lh F gX iw) F Tryz.f45 [(.agg [(.int .i64 aa),(.int .i64 ac),(.sl aZ)])] H=bJ.twX F gX iw aa ac aZ H:=by kernel_rfl
theorem bJ.k:Ok Tryz.prog 45 (mk10 (bJ.tw F)):=by
 intro args H v H' h
 unfold mk10 at h
 split at h
 ·exact okT (TB:=bJ.tb) Tryz.func45 (aR (dU.k F) (aR (bF.k F) cD)) (bJ.loops F (dU.tw F) (bF.tw F)) ((bJ.eqX F (dU.tw F) (bF.tw F) _ _ _ H).trans h) (by kernel_rfl)
 ·cases h
def cI.j2 (F:Nat) (jO:anc) (aq:am4) (Fg:Nat) (adH:Nat) (adI:Sl) (H61:Hp):OA:=(Hp.ldB H61 Fg (adH+15)).bind λb62=>some ((.tup [(.sl adI),(.bool (!b62))]),H61)
def cI.j3 (F:Nat) (jO:anc) (aq:am4) (C61_:aoo) (Fh:Nat) (adJ:Nat) (Fi:Nat) (adK:Nat) (tR:Sl) (yT:Int) (H88:Hp):OA:=C61_ Fh adJ Fi adK tR (wrap .i64 (yT+1)) H88
def cI.l61 (F:Nat) (jO:anc) (aq:am4) :Nat->Nat->Nat->Nat->Nat->Sl->Int->Hp->OA
 | 0,_,_,_,_,_,_,_=>none
 | fB+1,rW,yU,fT,rX,nS,hZ,H22=>(Hp.ldI H22 .i64 rW yU).bind λn63=>(Hp.ldI H22 .i64 rW (yU+1)).bind λn64=>(bif (decide (hZ<(if n64<n63 then n64 else n63))) then ((Hp.ldB H22 fT (rX+15)).bind λb65=>(bif (!b65) then ((Hp.ldI H22 .i64 fT rX).bind λn66=>(Hp.ldI H22 .i64 fT (rX+1)).bind λn67=>(Hp.ldSl H22 fT (rX+2)).bind λs68=>(aq n66 n67 s68 hZ hZ H22).bind λr69=>((r69.1).asI .i64).bind λn70=>(bif (n70 != 0) then ((Hp.new r69.2 [(.int .i64 n70)]).bind λH71=>(Sl.row H71 (⟨some (r69.2.length,0),1,.ex 1⟩:Sl) 1).bind λxs73=>(Hp.app H71 1 8 nS (⟨some (r69.2.length,0),1,.ex 1⟩:Sl).n xs73).bind λa72=>cI.j3 F jO aq (cI.l61 F jO aq fB) rW yU fT rX a72.1 hZ a72.2) else (cI.j3 F jO aq (cI.l61 F jO aq fB) rW yU fT rX nS hZ r69.2))) else (cI.j2 F jO aq fT rX nS H22))) else (cI.j2 F jO aq fT rX nS H22))
termination_by structural n=>n
def cI.twX (jO:anc) (aq:am4) (aa:Int) (ac:Int) (aZ:Sl) (H:Hp):OA:=(Hp.new H [(.int .i64 aa),(.int .i64 ac),(.sl aZ)]).bind λH4=>(Hp.ldI H4 .i64 H.length 0).bind λn5=>(Hp.ldI H4 .i64 H.length (0+1)).bind λn6=>(Hp.ldSl H4 H.length (0+2)).bind λs7=>(jO n5 n6 s7 H4).bind λr8=>((r8.1).asP).bind λp9=>(Hp.new r8.2 []).bind λH10=>cI.l61 F jO aq F H.length 0 p9.1 p9.2 (⟨some (r8.2.length,0),0,.ex 0⟩:Sl) 0 H10
def cI.tw:=cI.twX F (bJ.tw F) (bB.tw F)
def cI.lh61 (jO:anc) (aq:am4) (ks:am6) (n:Nat) (tm:Tm) (H:Hp):OA:=match ks,tm 1,tm 4,tm 5,tm 6 with
 | [],(.ptr rW yU),(.ptr fT rX),(.sl nS),(.int .i64 hZ)=>cI.l61 F jO aq n rW yU fT rX nS hZ H
 | _,_,_,_,_=>none
def cI.lh (jO:anc) (aq:am4) (p:Nat) (ks:am6) (n:Nat) (tm:Tm) (H:Hp):OA:=bif p.beq 61 then cI.lh61 F jO aq ks n tm H else (none)
def cI.tb:Nat->List (List Nat):=dM [(9,[[],[],[1],[1,2],[1,2,3],[1,2,3,4],[0],[0,1,2,3,4,5,6]])]
def cI.cs (F:Nat) (jO:anc) (aq:am4):Cs:=[(45,mk10 jO),(32,mk9 aq)]
theorem cI.loops (jO:anc) (aq:am4):LO (bl (cI.cs F jO aq)) bf (cI.lh F jO aq) F Tryz.f20:=
 (ae.rt (ae.rt (ae.rt (ae.lt (ae.rt (ae.block (ae.la (λn tm H r h=>by change cI.lh61 F jO aq [] n tm H=_ at h;unfold cI.lh61 at h;split at h;have e:c_ tm [(1,_),(4,_),(5,_),(6,_)]:=⟨‹_›,‹_›,‹_›,‹_›,trivial⟩;obtain _ | k61:=n;cases h;exact ⟨_,rfl,by rw [<- db e];exact Eq.trans (by kernel_rfl) h⟩;cases h) λk61=>ae.no)))))))
theorem cI.eqX (jO:anc) (aq:am4) (aa:Int) (ac:Int) (aZ:Sl) (H:Hp):EX (bl (cI.cs F jO aq)) bf (cI.lh F jO aq) F Tryz.f20 [(.agg [(.int .i64 aa),(.int .i64 ac),(.sl aZ)])] H=cI.twX F jO aq aa ac aZ H:=by kernel_rfl
theorem cI.k:Ok Tryz.prog 20 (mk10 (cI.tw F)):=by
 intro args H v H' h
 unfold mk10 at h
 split at h
 ·exact okT (TB:=cI.tb) Tryz.func20 (aR (bJ.k F) (aR (bB.k F) cD)) (cI.loops F (bJ.tw F) (bB.tw F)) ((cI.eqX F (bJ.tw F) (bB.tw F) _ _ _ H).trans h) (by kernel_rfl)
 ·cases h
def jP.twX (F:Nat) (yV:anc) (yW:anc) (aa:Int) (ac:Int) (aZ:Sl) (H:Hp):OA:=(Hp.new H [(.int .i64 aa),(.int .i64 ac),(.sl aZ)]).bind λH4=>(Hp.ldI H4 .i64 H.length 0).bind λn5=>(Hp.ldI H4 .i64 H.length (0+1)).bind λn6=>(Hp.ldSl H4 H.length (0+2)).bind λs7=>(yV n5 n6 s7 H4).bind λr8=>((r8.1).asB).bind λb9=>(bif (!b9) then ((Hp.new r8.2 []).bind λH10=>some ((.tup [(.sl (⟨some (r8.2.length,0),0,.ex 0⟩:Sl)),(.int .i64 1)]),H10)) else ((Hp.ldI r8.2 .i64 H.length 0).bind λn11=>(Hp.ldI r8.2 .i64 H.length (0+1)).bind λn12=>(Hp.ldSl r8.2 H.length (0+2)).bind λs13=>(yW n11 n12 s13 r8.2).bind λr14=>((r14.1).asTup 2).bind λl15=>(l15[0]?).bind λv16=>((v16).asSl).bind λs17=>(l15[1]?).bind λv18=>((v18).asB).bind λb19=>(bif (!b19) then ((Hp.new r14.2 []).bind λH20=>some ((.tup [(.sl (⟨some (r14.2.length,0),0,.ex 0⟩:Sl)),(.int .i64 3)]),H20)) else (some ((.tup [(.sl s17),(.int .i64 0)]),r14.2)))))
def jP.tw:=jP.twX F (eS.tw F) (cI.tw F)
def jP.cs (F:Nat) (yV:anc) (yW:anc):Cs:=[(77,mk10 yV),(20,mk10 yW)]
theorem jP.eqX (yV:anc) (yW:anc) (aa:Int) (ac:Int) (aZ:Sl) (H:Hp):EX (bl (jP.cs F yV yW)) bf lh0 F Tryz.f57 [(.agg [(.int .i64 aa),(.int .i64 ac),(.sl aZ)])] H=jP.twX F yV yW aa ac aZ H:=by kernel_rfl
theorem jP.k:Ok Tryz.prog 57 (mk10 (jP.tw F)):=by
 intro args H v H' h
 unfold mk10 at h
 split at h
 ·exact okT (TB:=bf) Tryz.func57 (aR (eS.k F) (aR (cI.k F) cD)) ae.no ((jP.eqX F (eS.tw F) (cI.tw F) _ _ _ H).trans h) (by kernel_rfl)
 ·cases h
def dS.j2 (F:Nat) (C29_:an3) (JW:Sl) (adL:Sl) (yX:Int) (H35:Hp):OA:=C29_ JW adL (wrap .i64 (yX+1)) H35
def dS.l29 (F:Nat) :Nat->Sl->Sl->Int->Hp->OA
 | 0,_,_,_,_=>none
 | fG+1,eb,qv,hO,H7=>(bif (decide (hO<(eb.n:Int))) then ((Sl.idx eb hO 1).bind λp22=>(Hp.ldI H7 .i64 p22.1 p22.2).bind λn23=>(bif (decide (n23>1)) then ((Sl.idx eb hO 1).bind λp24=>(Hp.ldI H7 .i64 p24.1 p24.2).bind λn25=>(Hp.new H7 [(.int .i64 n25)]).bind λH26=>(Sl.row H26 (⟨some (H7.length,0),1,.ex 1⟩:Sl) 1).bind λxs28=>(Hp.app H26 1 8 qv (⟨some (H7.length,0),1,.ex 1⟩:Sl).n xs28).bind λa27=>dS.j2 F (dS.l29 F fG) eb a27.1 hO a27.2) else (dS.j2 F (dS.l29 F fG) eb qv hO H7))) else (some ((.sl qv),H7)))
def dS.twX (aa:Sl) (H:Hp):OA:=(Hp.new H []).bind λH2=>dS.l29 F F aa (⟨some (H.length,0),0,.ex 0⟩:Sl) 0 H2
def dS.tw:=dS.twX F
def dS.lh29 (ks:am6) (n:Nat) (tm:Tm) (H:Hp):OA:=match ks,tm 0,tm 3,tm 4 with
 | [],(.sl eb),(.sl qv),(.int .i64 hO)=>dS.l29 F n eb qv hO H
 | _,_,_,_=>none
def dS.lh (p:Nat) (ks:am6) (n:Nat) (tm:Tm) (H:Hp):OA:=bif p.beq 29 then dS.lh29 F ks n tm H else (none)
theorem dS.loops:LO (bl []) bf (dS.lh F) F Tryz.f58:=
 (ae.rt (ae.rt (ae.lt (ae.rt (ae.block (ae.la (λn tm H r h=>by change dS.lh29 F [] n tm H=_ at h;unfold dS.lh29 at h;split at h;have e:c_ tm [(0,_),(3,_),(4,_)]:=⟨‹_›,‹_›,‹_›,trivial⟩;obtain _ | k29:=n;cases h;exact ⟨_,rfl,by rw [<- db e];exact Eq.trans (by kernel_rfl) h⟩;cases h) λk29=>ae.no))))))
theorem dS.k:Ok Tryz.prog 58 (mk3 (dS.tw F)):=by
 intro args H v H' h
 unfold mk3 at h
 split at h
 ·exact okT (PN:=bf) (LH:=(dS.lh F)) (F:=F) (TB:=bf) Tryz.func58 cD (dS.loops F) (Eq.trans (by kernel_rfl) h) (by kernel_rfl)
 ·cases h
def gR.twX (F:Nat) (yY:anc) (yZ:am7) (aa:Int) (ac:Int) (aZ:Sl) (H:Hp):OA:=(Hp.new H [(.int .i64 aa),(.int .i64 ac),(.sl aZ)]).bind λH4=>(Hp.new H4 [.int .i64 0,.sl ⟨none,0,.ex 0⟩]).bind λH5=>(Hp.ldI H5 .i64 H.length 0).bind λn6=>(Hp.ldI H5 .i64 H.length (0+1)).bind λn7=>(Hp.ldSl H5 H.length (0+2)).bind λs8=>(yY n6 n7 s8 H5).bind λr9=>((r9.1).asTup 2).bind λl10=>(l10[0]?).bind λv11=>((v11).asSl).bind λs12=>(l10[1]?).bind λv13=>((v13).asI .i64).bind λn14=>(bif (n14 != 0) then ((Hp.st r9.2 H4.length 0 (.int .i64 0)).bind λH15=>(Hp.st H15 H4.length (0+1) (.sl (⟨none,0,.ex 0⟩:Sl))).bind λH16=>(Hp.ldI H16 .i64 H4.length 0).bind λn17=>(Hp.ldSl H16 H4.length (0+1)).bind λs18=>some ((.tup [(.agg [(.int .i64 n17),(.sl s18)]),(.int .i64 n14)]),H16)) else ((Hp.ldI r9.2 .i64 H.length 0).bind λn19=>(yZ s12 r9.2).bind λr20=>((r20.1).asSl).bind λs21=>(if bo r9.2 r20.2 then ((Hp.st r20.2 H4.length 0 (.int .i64 (wrap .i64 (n19 - (s12.n:Int))))).bind λH22=>(Hp.st H22 H4.length (0+1) (.sl s21)).bind λH23=>(Hp.ldI H23 .i64 H4.length 0).bind λn24=>(Hp.ldSl H23 H4.length (0+1)).bind λs25=>some ((.tup [(.agg [(.int .i64 n24),(.sl s25)]),(.int .i64 0)]),H23)) else none)))
def gR.tw:=gR.twX F (jP.tw F) (dS.tw F)
def gR.pn:Nat->List Nat:=dM [(4,[8])]
def gR.tb:Nat->List (List Nat):=dM [(4,[[],[0],[],[2],[0,1,2,3],[],[5],[0,1,2,3,4,5,6],[0,1,2,3,4,5,6,7],[0,1,2,3,4,5,6,7,8]])]
def gR.cs (F:Nat) (yY:anc) (yZ:am7):Cs:=[(57,mk10 yY),(58,mk3 yZ)]
theorem gR.eqX (yY:anc) (yZ:am7) (aa:Int) (ac:Int) (aZ:Sl) (H:Hp):EX (bl (gR.cs F yY yZ)) gR.pn lh0 F Tryz.f33 [(.agg [(.int .i64 aa),(.int .i64 ac),(.sl aZ)])] H=gR.twX F yY yZ aa ac aZ H:=by kernel_rfl
theorem gR.k:Ok Tryz.prog 33 (mk10 (gR.tw F)):=by
 intro args H v H' h
 unfold mk10 at h
 split at h
 ·exact okT (TB:=gR.tb) Tryz.func33 (aR (jP.k F) (aR (dS.k F) cD)) ae.no ((gR.eqX F (jP.tw F) (dS.tw F) _ _ _ H).trans h) (by kernel_rfl)
 ·cases h
def bG.j3 (F:Nat) (h_:am8) (gY:am8) (dx:ana) (aq:am4) (ia:anc) (vv:Nat) (Fj:Nat) (y_:Nat) (JX:Nat) (H151:Hp):OA:=(Hp.ldI H151 .i64 y_ JX).bind λn152=>(Hp.ldI H151 .i64 y_ (JX+1)).bind λn153=>(Hp.ldSl H151 y_ (JX+2)).bind λs154=>(ia n152 n153 s154 H151).bind λr155=>((r155.1).asTup 2).bind λl156=>(l156[0]?).bind λv157=>((v157).asAgg 2).bind λl158=>(l158[0]?).bind λv159=>((v159).asI .i64).bind λn160=>(l158[1]?).bind λv161=>((v161).asSl).bind λs162=>(l156[1]?).bind λv163=>((v163).asI .i64).bind λn164=>(Hp.st r155.2 vv Fj (.int .i64 n160)).bind λH165=>(Hp.st H165 vv (Fj+1) (.sl s162)).bind λH166=>(Hp.ldI H166 .i64 vv Fj).bind λn167=>(Hp.ldSl H166 vv (Fj+1)).bind λs168=>some ((.tup [(.agg [(.int .i64 n167),(.sl s168)]),(.int .i64 n164)]),H166)
def bG.j4 (F:Nat) (h_:am8) (gY:am8) (dx:ana) (aq:am4) (ia:anc) (C253_:anS) (Fk:Nat) (adM:Nat) (yj:Nat) (adN:Nat) (Fl:Nat) (tV:Nat) (pw:Int) (H232:Hp):OA:=C253_ Fk adM yj adN Fl tV (wrap .i64 (pw+1)) H232
def bG.j5 (h_:am8) (gY:am8) (dx:ana) (aq:am4) (ia:anc) (C253_:anS) (Fm:Nat) (adO:Nat) (Fn:Nat) (adP:Nat) (Fo:Nat) (adQ:Nat) (za:Int) (H214:Hp):OA:=bG.j4 F h_ gY dx aq ia C253_ Fm adO Fn adP Fo adQ za H214
def bG.l4053 (F:Nat) (h_:am8) (gY:am8) (dx:ana) (aq:am4) (ia:anc) (C253_:anS):Nat->Nat->Nat->Nat->Nat->Nat->Nat->Int->Int->Hp->OA
 | 0,_,_,_,_,_,_,_,_,_=>none
 | adS+1,tW,Fp,qK,vw,qL,vx,nT,nU,H186=>(Hp.ldI H186 .i64 qL (vx+1)).bind λn233=>(bif (decide (nU<n233)) then ((Hp.ldSl H186 qL (vx+2)).bind λs234=>(Hp.ldI H186 .i64 qL (vx+1)).bind λn235=>(Hp.ldI H186 .i64 qK vw).bind λn236=>(Hp.ldI H186 .i64 qK (vw+1)).bind λn237=>(Hp.ldSl H186 qK (vw+2)).bind λs238=>(aq n236 n237 s238 nU nT H186).bind λr239=>((r239.1).asI .i64).bind λn240=>(if bo H186 r239.2 then ((Sl.idx s234 (wrap .i64 ((wrap .i64 (nT * n235))+nU)) 1).bind λp241=>(Hp.st r239.2 p241.1 p241.2 (.int .i64 n240)).bind λH242=>bG.l4053 F h_ gY dx aq ia C253_ adS tW Fp qK vw qL vx nT (wrap .i64 (nU+1)) H242) else none)) else (bG.j5 F h_ gY dx aq ia C253_ tW Fp qK vw qL vx nT H186))
termination_by structural n=>n
def bG.l253 (F:Nat) (h_:am8) (gY:am8) (dx:ana) (aq:am4) (ia:anc) :Nat->Nat->Nat->Nat->Nat->Nat->Nat->Int->Hp->OA
 | 0,_,_,_,_,_,_,_,_=>none
 | JY+1,tX,Fq,kr,nV,sL,Cn,qM,H61=>(Hp.ldI H61 .i64 sL Cn).bind λn169=>(bif (decide (qM<n169)) then (bG.l4053 F h_ gY dx aq ia (bG.l253 F h_ gY dx aq ia JY) F tX Fq kr nV sL Cn qM 0 H61) else (bG.j3 F h_ gY dx aq ia tX Fq sL Cn H61))
termination_by structural n=>n
def bG.twX (h_:am8) (gY:am8) (dx:ana) (aq:am4) (ia:anc) (aa:Sl) (ac:Int) (H:Hp):OA:=(Hp.new H [(.sl aa),(.int .i64 ac)]).bind λH3=>(Hp.new H3 [.int .i64 0,.sl ⟨none,0,.ex 0⟩]).bind λH4=>(Hp.ldSl H4 H.length 0).bind λs5=>(Hp.ldI H4 .i64 H.length (0+1)).bind λn6=>(h_ s5 n6 H4).bind λr7=>((r7.1).asB).bind λb8=>(bif (!b8) then ((Hp.st r7.2 H3.length 0 (.int .i64 0)).bind λH9=>(Hp.st H9 H3.length (0+1) (.sl (⟨none,0,.ex 0⟩:Sl))).bind λH10=>(Hp.ldI H10 .i64 H3.length 0).bind λn11=>(Hp.ldSl H10 H3.length (0+1)).bind λs12=>some ((.tup [(.agg [(.int .i64 n11),(.sl s12)]),(.int .i64 1)]),H10)) else ((Hp.ldSl r7.2 H.length 0).bind λs13=>(bif ((s13.n:Int)==0) then ((Hp.ldI r7.2 .i64 H.length 1).bind λn14=>(bif (n14==0) then ((Hp.st r7.2 H3.length 0 (.int .i64 0)).bind λH15=>(Hp.st H15 H3.length (0+1) (.sl (⟨none,0,.ex 0⟩:Sl))).bind λH16=>(Hp.ldI H16 .i64 H3.length 0).bind λn17=>(Hp.ldSl H16 H3.length (0+1)).bind λs18=>some ((.tup [(.agg [(.int .i64 n17),(.sl s18)]),(.int .i64 5)]),H16)) else ((Hp.ldSl r7.2 H.length 0).bind λs19=>(Hp.ldI r7.2 .i64 H.length (0+1)).bind λn20=>(gY s19 n20 r7.2).bind λr21=>((r21.1).asAgg 3).bind λl22=>(l22[0]?).bind λv23=>((v23).asI .i64).bind λn24=>(l22[1]?).bind λv25=>((v25).asI .i64).bind λn26=>(l22[2]?).bind λv27=>((v27).asSl).bind λs28=>(Hp.new r21.2 [.int .i64 0,.int .i64 0,.sl ⟨none,0,.ex 0⟩]).bind λH29=>(Hp.st H29 r21.2.length 0 (.int .i64 n24)).bind λH30=>(Hp.st H30 r21.2.length (0+1) (.int .i64 n26)).bind λH31=>(Hp.st H31 r21.2.length (0+1+1) (.sl s28)).bind λH32=>(Hp.ldI H32 .i64 r21.2.length 1).bind λn33=>(Hp.ldI H32 .i64 r21.2.length 0).bind λn34=>(dx (wrap .i64 (n33 - 1)) n34 H32).bind λr35=>((r35.1).asAgg 3).bind λl36=>(l36[0]?).bind λv37=>((v37).asI .i64).bind λn38=>(l36[1]?).bind λv39=>((v39).asI .i64).bind λn40=>(l36[2]?).bind λv41=>((v41).asSl).bind λs42=>(Hp.new r35.2 [.int .i64 0,.int .i64 0,.sl ⟨none,0,.ex 0⟩]).bind λH43=>(Hp.st H43 r35.2.length 0 (.int .i64 n38)).bind λH44=>(Hp.st H44 r35.2.length (0+1) (.int .i64 n40)).bind λH45=>(Hp.st H45 r35.2.length (0+1+1) (.sl s42)).bind λH46=>bG.l253 F h_ gY dx aq ia F H3.length 0 r21.2.length 0 r35.2.length 0 0 H46))) else ((Hp.ldSl r7.2 H.length 0).bind λs243=>(Hp.ldI r7.2 .i64 H.length (0+1)).bind λn244=>(gY s243 n244 r7.2).bind λr245=>((r245.1).asAgg 3).bind λl246=>(l246[0]?).bind λv247=>((v247).asI .i64).bind λn248=>(l246[1]?).bind λv249=>((v249).asI .i64).bind λn250=>(l246[2]?).bind λv251=>((v251).asSl).bind λs252=>(Hp.new r245.2 [.int .i64 0,.int .i64 0,.sl ⟨none,0,.ex 0⟩]).bind λH253=>(Hp.st H253 r245.2.length 0 (.int .i64 n248)).bind λH254=>(Hp.st H254 r245.2.length (0+1) (.int .i64 n250)).bind λH255=>(Hp.st H255 r245.2.length (0+1+1) (.sl s252)).bind λH256=>(Hp.ldI H256 .i64 r245.2.length 1).bind λn257=>(Hp.ldI H256 .i64 r245.2.length 0).bind λn258=>(dx (wrap .i64 (n257 - 1)) n258 H256).bind λr259=>((r259.1).asAgg 3).bind λl260=>(l260[0]?).bind λv261=>((v261).asI .i64).bind λn262=>(l260[1]?).bind λv263=>((v263).asI .i64).bind λn264=>(l260[2]?).bind λv265=>((v265).asSl).bind λs266=>(Hp.new r259.2 [.int .i64 0,.int .i64 0,.sl ⟨none,0,.ex 0⟩]).bind λH267=>(Hp.st H267 r259.2.length 0 (.int .i64 n262)).bind λH268=>(Hp.st H268 r259.2.length (0+1) (.int .i64 n264)).bind λH269=>(Hp.st H269 r259.2.length (0+1+1) (.sl s266)).bind λH270=>bG.l253 F h_ gY dx aq ia F H3.length 0 r245.2.length 0 r259.2.length 0 0 H270))))
def bG.tw:=bG.twX F (gL.tw F) (dP.tw F) (fM.tw F) (bB.tw F) (gR.tw F)
def bG.lh253 (h_:am8) (gY:am8) (dx:ana) (aq:am4) (ia:anc) (ks:am6) (n:Nat) (tm:Tm) (H:Hp):OA:=match ks,tm 2,tm 4,tm 5,tm 6 with
 | [],(.ptr tX Fq),(.ptr kr nV),(.ptr sL Cn),(.int .i64 qM)=>bG.l253 F h_ gY dx aq ia n tX Fq kr nV sL Cn qM H
 | _,_,_,_,_=>none
def bG.lh4053 (h_:am8) (gY:am8) (dx:ana) (aq:am4) (ia:anc) (ks:am6) (n:Nat) (tm:Tm) (H:Hp):OA:=match ks,tm 2,tm 4,tm 5,tm 6,tm 7 with
 | [JY],(.ptr tW Fp),(.ptr qK vw),(.ptr qL vx),(.int .i64 nT),(.int .i64 nU)=>bG.l4053 F h_ gY dx aq ia (bG.l253 F h_ gY dx aq ia JY) n tW Fp qK vw qL vx nT nU H
 | _,_,_,_,_,_=>none
def bG.lh (h_:am8) (gY:am8) (dx:ana) (aq:am4) (ia:anc) (p:Nat) (ks:am6) (n:Nat) (tm:Tm) (H:Hp):OA:=bif p.beq 4053 then bG.lh4053 F h_ gY dx aq ia ks n tm H else (bif p.beq 253 then bG.lh253 F h_ gY dx aq ia ks n tm H else (none))
def bG.pn:Nat->List Nat:=dM [(13,[13])]
def bG.tb:Nat->List (List Nat):=dM [(13,[[],[0],[],[],[3],[2,3,4],[],[2,3,4,5,6],[],[],[],[8,9,10],[0,1,2,3,4,5,6,7,8,9,10,11],[0,1,2,3,4,5,6,7,8,9,10,11,12]])]
def bG.cs (F:Nat) (h_:am8) (gY:am8) (dx:ana) (aq:am4) (ia:anc):Cs:=[(17,mk4 h_),(19,mk4 gY),(31,mk8 dx),(32,mk9 aq),(33,mk10 ia)]
theorem bG.loops (h_:am8) (gY:am8) (dx:ana) (aq:am4) (ia:anc):LO (bl (bG.cs F h_ gY dx aq ia)) bG.pn (bG.lh F h_ gY dx aq ia) F Tryz.f10:=
 (ae.rt (ae.rt (ae.rt (ae.rt (ae.rt (ae.lt (ae.rt (ae.block (ae.la (λn tm H r h=>by change bG.lh253 F h_ gY dx aq ia [] n tm H=_ at h;unfold bG.lh253 at h;split at h;have e:c_ tm [(2,_),(4,_),(5,_),(6,_)]:=⟨‹_›,‹_›,‹_›,‹_›,trivial⟩;obtain _ | k253:=n;cases h;exact ⟨_,rfl,by rw [<- db e];exact Eq.trans (by kernel_rfl) h⟩;cases h) λk253=>(ae.rt (ae.lt (ae.block (ae.rt (ae.block (ae.la (λn tm H r h=>by change bG.lh4053 F h_ gY dx aq ia [k253] n tm H=_ at h;unfold bG.lh4053 at h;split at h;have e:c_ tm [(2,_),(4,_),(5,_),(6,_),(7,_)]:=⟨‹_›,‹_›,‹_›,‹_›,‹_›,trivial⟩;cases (show [k253]=_ from ‹_›);obtain _ | k4053:=n;cases h;exact ⟨_,rfl,by rw [<- db e];exact Eq.trans (by kernel_rfl) h⟩;cases h) λk4053=>ae.no)))))))))))))))
theorem bG.eqX (h_:am8) (gY:am8) (dx:ana) (aq:am4) (ia:anc) (aa:Sl) (ac:Int) (H:Hp):EX (bl (bG.cs F h_ gY dx aq ia)) bG.pn (bG.lh F h_ gY dx aq ia) F Tryz.f10 [(.agg [(.sl aa),(.int .i64 ac)])] H=bG.twX F h_ gY dx aq ia aa ac H:=by kernel_rfl
theorem bG.k:Ok Tryz.prog 10 (mk4 (bG.tw F)):=by
 intro args H v H' h
 unfold mk4 at h
 split at h
 ·exact okT (TB:=bG.tb) Tryz.func10 (aR (gL.k F) (aR (dP.k F) (aR (fM.k F) (aR (bB.k F) (aR (gR.k F) cD))))) (bG.loops F (gL.tw F) (dP.tw F) (fM.tw F) (bB.tw F) (gR.tw F)) ((bG.eqX F (gL.tw F) (dP.tw F) (fM.tw F) (bB.tw F) (gR.tw F) _ _ H).trans h) (by kernel_rfl)
 ·cases h
def fl.twX (F:Nat) (aa:Sl) (H:Hp):OA:=some ((.int .i64 (aa.n:Int)),H)
def fl.tw:=fl.twX F
theorem fl.k:Ok Tryz.prog 52 (mk3 (fl.tw F)):=by
 intro args H v H' h
 unfold mk3 at h
 split at h
 ·exact ok0 Tryz.func52 (Eq.trans (by kernel_rfl) h) (by kernel_rfl) (by kernel_rfl)
 ·cases h
def gq.twX (F:Nat) (aa:Int) (au:Int) (eA:Int) (H:Hp):OA:=(bif (decide (au<=aa)) then (some ((.bool (decide (aa<=eA))),H)) else (some ((.bool false),H)))
def gq.tw:=gq.twX F
theorem gq.k:Ok Tryz.prog 70 (mk5 (gq.tw F)):=by
 intro args H v H' h
 unfold mk5 at h
 split at h
 ·exact ok0 Tryz.func70 (Eq.trans (by kernel_rfl) h) (by kernel_rfl) (by kernel_rfl)
 ·cases h
def kY.twX (F:Nat) (aa:Int) (ac:Int) (aZ:Int) (eN:Int) (ev:Int) (H:Hp):OA:=(Hp.new H [(.int .i64 aa),(.int .i64 ac),(.int .i64 aZ),(.int .i64 eN),(.int .i64 ev)]).bind λH6=>(Hp.ldI H6 .i64 H.length 4).bind λn7=>(bif (n7 != 1) then ((Hp.ldI H6 .i64 H.length 4).bind λn8=>some ((.bool (n8 != (-1))),H6)) else (some ((.bool false),H6)))
def kY.tw:=kY.twX F
theorem kY.k:Ok Tryz.prog 90 (mk2 (kY.tw F)):=by
 intro args H v H' h
 unfold mk2 at h
 split at h
 ·exact ok0 Tryz.func90 (Eq.trans (by kernel_rfl) h) (by kernel_rfl) (by kernel_rfl)
 ·cases h
def eU.l13 (F:Nat) (mK:anl) :Nat->Sl->Int->Int->Hp->OA
 | 0,_,_,_,_=>none
 | jc+1,l_,fm,ed,H6=>(bif (decide (ed<fm)) then ((Sl.idx l_ ed 5).bind λp15=>(Hp.ldI H6 .i64 p15.1 p15.2).bind λn16=>(Hp.ldI H6 .i64 p15.1 (p15.2+1)).bind λn17=>(Hp.ldI H6 .i64 p15.1 (p15.2+2)).bind λn18=>(Hp.ldI H6 .i64 p15.1 (p15.2+3)).bind λn19=>(Hp.ldI H6 .i64 p15.1 (p15.2+4)).bind λn20=>(mK n16 n17 n18 n19 n20 H6).bind λr21=>((r21.1).asB).bind λb22=>(bif b22 then (some ((.int .i64 ed),r21.2)) else (eU.l13 F mK jc l_ fm (wrap .i64 (ed+1)) r21.2))) else (some ((.int .i64 (-1)),H6)))
def eU.twX (mK:anl) (aa:Sl) (H:Hp):OA:=eU.l13 F mK F aa (aa.n:Int) 0 H
def eU.tw:=eU.twX F (kY.tw F)
def eU.lh13 (mK:anl) (ks:am6) (n:Nat) (tm:Tm) (H:Hp):OA:=match ks,tm 0,tm 1,tm 7,tm 8 with
 | [],(.sl l_),(.fn 90 []),(.int .i64 fm),(.int .i64 ed)=>eU.l13 F mK n l_ fm ed H
 | _,_,_,_,_=>none
def eU.lh (mK:anl) (p:Nat) (ks:am6) (n:Nat) (tm:Tm) (H:Hp):OA:=bif p.beq 13 then eU.lh13 F mK ks n tm H else (none)
def mk15 (g:am7) (args:anb) (H:Hp):OA:=match args with
 | [(.sl aa),(.fn 90 [])]=>g aa H
 | _=>none
theorem mk15_E (g:am7) (aa:Sl) (H:Hp):mk15 g [(.sl aa),(.fn 90 [])] H=g aa H:=rfl
def eU.cs (F:Nat) (mK:anl):Cs:=[(90,mk2 mK)]
theorem eU.loops (mK:anl):LO (bl (eU.cs F mK)) bf (eU.lh F mK) F Tryz.f108:=
 (ae.rt (ae.lt (ae.rt (ae.block (ae.la (λn tm H r h=>by change eU.lh13 F mK [] n tm H=_ at h;unfold eU.lh13 at h;split at h;have e:c_ tm [(0,_),(1,_),(7,_),(8,_)]:=⟨‹_›,‹_›,‹_›,‹_›,trivial⟩;obtain _ | k13:=n;cases h;exact ⟨_,rfl,by rw [<- db e];exact Eq.trans (by kernel_rfl) h⟩;cases h) λk13=>ae.no)))))
theorem eU.eqX (mK:anl) (aa:Sl) (H:Hp):EX (bl (eU.cs F mK)) bf (eU.lh F mK) F Tryz.f108 [(.sl aa),(.fn 90 [])] H=eU.twX F mK aa H:=by kernel_rfl
theorem eU.k:Ok Tryz.prog 108 (mk15 (eU.tw F)):=by
 intro args H v H' h
 unfold mk15 at h
 split at h
 ·exact okT (TB:=bf) Tryz.func108 (aR (kY.k F) cD) (eU.loops F (kY.tw F)) ((eU.eqX F (kY.tw F) _ H).trans h) (by kernel_rfl)
 ·cases h
def jQ.twX (F:Nat) (zb:am7) (aa:Sl) (H:Hp):OA:=(zb aa H).bind λr2=>((r2.1).asI .i64).bind λn3=>some ((.bool (decide (n3>=0))),r2.2)
def jQ.tw:=jQ.twX F (eU.tw F)
def jQ.cs (F:Nat) (zb:am7):Cs:=[(108,mk15 zb)]
theorem jQ.eqX (zb:am7) (aa:Sl) (H:Hp):EX (bl (jQ.cs F zb)) bf lh0 F Tryz.f89 [(.sl aa),(.fn 90 [])] H=jQ.twX F zb aa H:=by kernel_rfl
theorem jQ.k:Ok Tryz.prog 89 (mk15 (jQ.tw F)):=by
 intro args H v H' h
 unfold mk15 at h
 split at h
 ·exact okT (TB:=bf) Tryz.func89 (aR (eU.k F) cD) ae.no ((jQ.eqX F (eU.tw F) _ H).trans h) (by kernel_rfl)
 ·cases h
def bits_Mul64.twX (F:Nat) (aa:Int) (au:Int) (H:Hp):OA:=some ((.tup [(.int .u64 (IntKind.u64.wrap ((IntKind.u64.wrap ((IntKind.u64.wrap ((Int.fdiv aa (2 ^ (min (32:Int).toNat (IntKind.u64).bits))) * (Int.fdiv au (2 ^ (min (32:Int).toNat (IntKind.u64).bits)))))+(Int.fdiv (IntKind.u64.wrap ((IntKind.u64.wrap ((Int.fdiv aa (2 ^ (min (32:Int).toNat (IntKind.u64).bits))) * (Go.bits .and .u64 au 4294967295)))+(Int.fdiv (IntKind.u64.wrap ((Go.bits .and .u64 aa 4294967295) * (Go.bits .and .u64 au 4294967295))) (2 ^ (min (32:Int).toNat (IntKind.u64).bits))))) (2 ^ (min (32:Int).toNat (IntKind.u64).bits)))))+(Int.fdiv (IntKind.u64.wrap ((Go.bits .and .u64 (IntKind.u64.wrap ((IntKind.u64.wrap ((Int.fdiv aa (2 ^ (min (32:Int).toNat (IntKind.u64).bits))) * (Go.bits .and .u64 au 4294967295)))+(Int.fdiv (IntKind.u64.wrap ((Go.bits .and .u64 aa 4294967295) * (Go.bits .and .u64 au 4294967295))) (2 ^ (min (32:Int).toNat (IntKind.u64).bits))))) 4294967295)+(IntKind.u64.wrap ((Go.bits .and .u64 aa 4294967295) * (Int.fdiv au (2 ^ (min (32:Int).toNat (IntKind.u64).bits))))))) (2 ^ (min (32:Int).toNat (IntKind.u64).bits)))))),(.int .u64 (IntKind.u64.wrap (aa * au)))]),H)
def bits_Mul64.tw:=bits_Mul64.twX F
def mk16 (g:ana) (args:anb) (H:Hp):OA:=match args with
 | [(.int .u64 aa),(.int .u64 au)]=>g aa au H
 | _=>none
theorem mk16_E (g:ana) (aa:Int) (au:Int) (H:Hp):mk16 g [(.int .u64 aa),(.int .u64 au)] H=g aa au H:=rfl
theorem bits_Mul64.k:Ok Tryz.prog 131 (mk16 (bits_Mul64.tw F)):=by
 intro args H v H' h
 unfold mk16 at h
 split at h
 ·exact ok0 Tryz.func131 (Eq.trans (by kernel_rfl) h) (by kernel_rfl) (by kernel_rfl)
 ·cases h
def bits_Mul.twX (F:Nat) (g_bits_Mul64:ana) (aa:Int) (au:Int) (H:Hp):OA:=(g_bits_Mul64 aa au H).bind λr3=>((r3.1).asTup 2).bind λl4=>(l4[0]?).bind λv5=>((v5).asI .u64).bind λn6=>(l4[1]?).bind λv7=>((v7).asI .u64).bind λn8=>some ((.tup [(.int .u64 n6),(.int .u64 n8)]),r3.2)
def bits_Mul.tw:=bits_Mul.twX F (bits_Mul64.tw F)
def bits_Mul.cs (F:Nat) (g_bits_Mul64:ana):Cs:=[(131,mk16 g_bits_Mul64)]
theorem bits_Mul.eqX (g_bits_Mul64:ana) (aa:Int) (au:Int) (H:Hp):EX (bl (bits_Mul.cs F g_bits_Mul64)) bf lh0 F Tryz.f127 [(.int .u64 aa),(.int .u64 au)] H=bits_Mul.twX F g_bits_Mul64 aa au H:=by kernel_rfl
theorem bits_Mul.k:Ok Tryz.prog 127 (mk16 (bits_Mul.tw F)):=by
 intro args H v H' h
 unfold mk16 at h
 split at h
 ·exact okT (TB:=bf) Tryz.func127 (aR (bits_Mul64.k F) cD) ae.no ((bits_Mul.eqX F (bits_Mul64.tw F) _ _ H).trans h) (by kernel_rfl)
 ·cases h
def du.l254 (F:Nat) (g_bits_Mul:ana) :Nat->Sl->Int->Hp->OA
 | 0,_,_,_=>none
 | adT+1,tY,zd,H33=>(bif (decide (zd<(tY.n:Int))) then ((Sl.cut tY 2 zd (tY.n:Int)).bind λs37=>(Sl.cut tY 2 0 zd).bind λs38=>(Hp.cpy H33 2 s37 s38).bind λc39=>du.l254 F g_bits_Mul adT tY (wrap .i64 (zd+(c39.1:Int))) c39.2) else (some ((.sl tY),H33)))
def du.j1 (g_bits_Mul:ana) (adU:Sl) (vy:Int) (H21:Hp):OA:=(Hp.mk H21 [.int .i64 0,.int .i64 0] 16 (wrap .i64 vy) (wrap .i64 vy)).bind λm22=>(Hp.cpy m22.2 2 m22.1 adU).bind λc23=>du.l254 F g_bits_Mul F m22.1 (c23.1:Int) c23.2
def du.j2 (g_bits_Mul:ana) (Uj:Sl) (ze:Int) (H7:Hp):OA:=(g_bits_Mul (IntKind.u64.wrap (Uj.n:Int)) (IntKind.u64.wrap ze) H7).bind λr8=>((r8.1).asTup 2).bind λl9=>(l9[0]?).bind λv10=>((v10).asI .u64).bind λn11=>(l9[1]?).bind λv12=>((v12).asI .u64).bind λn13=>(bif (decide (n11>0)) then (none) else ((bif (decide (n13>9223372036854775807)) then (none) else (du.j1 F g_bits_Mul Uj n13 r8.2))))
def du.twX (g_bits_Mul:ana) (aa:Sl) (au:Int) (H:Hp):OA:=(bif (decide (au<0)) then (none) else (du.j2 F g_bits_Mul aa au H))
def du.tw:=du.twX F (bits_Mul.tw F)
def du.lh254 (g_bits_Mul:ana) (ks:am6) (n:Nat) (tm:Tm) (H:Hp):OA:=match ks,tm 7,tm 8 with
 | [],(.sl tY),(.int .i64 zd)=>du.l254 F g_bits_Mul n tY zd H
 | _,_,_=>none
def du.lh (g_bits_Mul:ana) (p:Nat) (ks:am6) (n:Nat) (tm:Tm) (H:Hp):OA:=bif p.beq 254 then du.lh254 F g_bits_Mul ks n tm H else (none)
def du.pn:Nat->List Nat:=dM [(9,[7])]
def du.tb:Nat->List (List Nat):=dM [(9,[[],[],[],[1,2],[],[],[4,5],[1,2,3,4,5,6],[0,1,2,3,4,5,6,7],[0,1,2,3,4,5,6,7,8]])]
def du.cs (F:Nat) (g_bits_Mul:ana):Cs:=[(127,mk16 g_bits_Mul)]
theorem du.loops (g_bits_Mul:ana):LO (bl (du.cs F g_bits_Mul)) du.pn (du.lh F g_bits_Mul) F Tryz.f109:=
 (ae.rt (ae.rt (ae.rt (ae.rt (ae.rt (ae.rt (ae.lt (ae.block (ae.la (λn tm H r h=>by change du.lh254 F g_bits_Mul [] n tm H=_ at h;unfold du.lh254 at h;split at h;have e:c_ tm [(7,_),(8,_)]:=⟨‹_›,‹_›,trivial⟩;obtain _ | k254:=n;cases h;exact ⟨_,rfl,by rw [<- db e];exact Eq.trans (by kernel_rfl) h⟩;cases h) λk254=>ae.no)))))))))
theorem du.eqX (g_bits_Mul:ana) (aa:Sl) (au:Int) (H:Hp):EX (bl (du.cs F g_bits_Mul)) du.pn (du.lh F g_bits_Mul) F Tryz.f109 [(.sl aa),(.int .i64 au)] H=du.twX F g_bits_Mul aa au H:=by kernel_rfl
theorem du.k:Ok Tryz.prog 109 (mk0 (du.tw F)):=by
 intro args H v H' h
 unfold mk0 at h
 split at h
 ·exact okT (TB:=du.tb) Tryz.func109 (aR (bits_Mul.k F) cD) (du.loops F (bits_Mul.tw F)) ((du.eqX F (bits_Mul.tw F) _ _ H).trans h) (by kernel_rfl)
 ·cases h
def jd.twX (F:Nat) (aa:Int) (ac:Int) (aZ:Int) (eN:Int) (ev:Int) (H:Hp):OA:=(Hp.new H [(.int .i64 aa),(.int .i64 ac),(.int .i64 aZ),(.int .i64 eN),(.int .i64 ev)]).bind λH6=>(Hp.new H6 [.int .i64 0,.int .i64 0,.int .i64 0,.int .i64 0]).bind λH7=>(Hp.ldI H7 .i64 H.length 0).bind λn8=>(Hp.ldI H7 .i64 H.length 1).bind λn9=>(Hp.ldI H7 .i64 H.length 2).bind λn10=>(Hp.ldI H7 .i64 H.length 3).bind λn11=>(Hp.st H7 H6.length 0 (.int .i64 n8)).bind λH12=>(Hp.st H12 H6.length (0+1) (.int .i64 n9)).bind λH13=>(Hp.st H13 H6.length (0+1+1) (.int .i64 n10)).bind λH14=>(Hp.st H14 H6.length (0+1+1+1) (.int .i64 n11)).bind λH15=>(Hp.ldI H15 .i64 H6.length 0).bind λn16=>(Hp.ldI H15 .i64 H6.length (0+1)).bind λn17=>(Hp.ldI H15 .i64 H6.length (0+2)).bind λn18=>(Hp.ldI H15 .i64 H6.length (0+3)).bind λn19=>some ((.agg [(.int .i64 n16),(.int .i64 n17),(.int .i64 n18),(.int .i64 n19)]),H15)
def jd.tw:=jd.twX F
theorem jd.k:Ok Tryz.prog 110 (mk2 (jd.tw F)):=by
 intro args H v H' h
 unfold mk2 at h
 split at h
 ·exact ok0 Tryz.func110 (Eq.trans (by kernel_rfl) h) (by kernel_rfl) (by kernel_rfl)
 ·cases h
def je.twX (F:Nat) (aa:Int) (ac:Int) (aZ:Int) (eN:Int) (ev:Int) (fE:Int) (H:Hp):OA:=(Hp.new H [(.int .i64 aa),(.int .i64 ac),(.int .i64 aZ),(.int .i64 eN),(.int .i64 ev)]).bind λH7=>(bif (fE==0) then (some ((.bool true),H7)) else ((Hp.ldI H7 .i64 H.length 4).bind λn8=>some ((.bool (fE==(wrap .i64 (2+n8)))),H7)))
def je.tw:=je.twX F
theorem je.k:Ok Tryz.prog 111 (mk6 (je.tw F)):=by
 intro args H v H' h
 unfold mk6 at h
 split at h
 ·exact ok0 Tryz.func111 (Eq.trans (by kernel_rfl) h) (by kernel_rfl) (by kernel_rfl)
 ·cases h
def ma.twX (F:Nat) (aa:Sl) (H:Hp):OA:=some ((.int .i64 (aa.n:Int)),H)
def ma.tw:=ma.twX F
theorem ma.k:Ok Tryz.prog 128 (mk3 (ma.tw F)):=by
 intro args H v H' h
 unfold mk3 at h
 split at h
 ·exact ok0 Tryz.func128 (Eq.trans (by kernel_rfl) h) (by kernel_rfl) (by kernel_rfl)
 ·cases h
def iJ.twX (F:Nat) (zf:am7) (jf:ang) (aa:Sl) (au:Int) (H:Hp):OA:=(zf aa H).bind λr3=>((r3.1).asI .i64).bind λn4=>(jf au 0 (wrap .i64 (n4 - 1)) r3.2).bind λr5=>((r5.1).asB).bind λb6=>some ((.bool b6),r5.2)
def iJ.tw:=iJ.twX F (ma.tw F) (gq.tw F)
def iJ.cs (F:Nat) (zf:am7) (jf:ang):Cs:=[(128,mk3 zf),(70,mk5 jf)]
theorem iJ.eqX (zf:am7) (jf:ang) (aa:Sl) (au:Int) (H:Hp):EX (bl (iJ.cs F zf jf)) bf lh0 F Tryz.f112 [(.sl aa),(.int .i64 au)] H=iJ.twX F zf jf aa au H:=by kernel_rfl
theorem iJ.k:Ok Tryz.prog 112 (mk0 (iJ.tw F)):=by
 intro args H v H' h
 unfold mk0 at h
 split at h
 ·exact okT (TB:=bf) Tryz.func112 (aR (ma.k F) (aR (gq.k F) cD)) ae.no ((iJ.eqX F (ma.tw F) (gq.tw F) _ _ H).trans h) (by kernel_rfl)
 ·cases h
def cG.l3931 (F:Nat) (jg:am8) (gZ:anl) (g_:ane) (jh:am8) (C61_:aoq):Nat->Nat->Nat->Nat->Nat->Sl->Int->Int->Nat->Nat->Int->Int->Int->Int->Int->Int->Hp->OA
 | 0,_,_,_,_,_,_,_,_,_,_,_,_,_,_,_,_=>none
 | Fs+1,jR,kZ,mb,nW,Co,pz,pA,pB,sM,nX,lr,lu,lw,lx,iy,H233=>(bif (decide (iy<4)) then ((if 0<=iy/\iy<(4:Int) then (([(.int .i64 lr),(.int .i64 lu),(.int .i64 lw),(.int .i64 lx)]:List AV)[(iy:Int).toNat * 1]?).bind λv283=>((v283).asI .i64).bind λn284=>(Hp.ldSl H233 mb nW).bind λs285=>(Hp.ldI H233 .i64 pB sM).bind λn286=>(Hp.ldI H233 .i64 pB (sM+1)).bind λn287=>(Hp.ldI H233 .i64 pB (sM+2)).bind λn288=>(Hp.ldI H233 .i64 pB (sM+3)).bind λn289=>(Hp.ldI H233 .i64 pB (sM+4)).bind λn290=>(g_ n286 n287 n288 n289 n290 iy H233).bind λr291=>((r291.1).asB).bind λb292=>(bif b292 then ((Hp.ldSl r291.2 mb (nW+1)).bind λs293=>(jh s293 n284 r291.2).bind λr294=>((r294.1).asB).bind λb295=>(bif (!b295) then ((Hp.ldSl r294.2 mb nW).bind λs296=>(Hp.ldSl r294.2 mb (nW+1)).bind λs297=>(Hp.st r294.2 jR kZ (.sl s296)).bind λH298=>(Hp.st H298 jR (kZ+1) (.sl s297)).bind λH299=>(Hp.ldSl H299 jR kZ).bind λs300=>(Hp.ldSl H299 jR (kZ+1)).bind λs301=>some ((.tup [(.agg [(.sl s300),(.sl s301)]),(.bool false)]),H299)) else ((Sl.idx s293 n284 2).bind λp302=>(Hp.ldI r294.2 .i64 p302.1 p302.2).bind λn303=>(bif (decide (n303>=0)) then ((Hp.ldSl r294.2 mb nW).bind λs304=>(Hp.ldSl r294.2 mb (nW+1)).bind λs305=>(Hp.st r294.2 jR kZ (.sl s304)).bind λH306=>(Hp.st H306 jR (kZ+1) (.sl s305)).bind λH307=>(Hp.ldSl H307 jR kZ).bind λs308=>(Hp.ldSl H307 jR (kZ+1)).bind λs309=>some ((.tup [(.agg [(.sl s308),(.sl s309)]),(.bool false)]),H307)) else ((Sl.idx s293 n284 2).bind λp310=>(Hp.st r294.2 p310.1 p310.2 (.int .i64 nX)).bind λH311=>(Hp.st H311 p310.1 (p310.2+1) (.int .i64 iy)).bind λH312=>cG.l3931 F jg gZ g_ jh C61_ Fs jR kZ mb nW Co pz pA pB sM nX lr lu lw lx (wrap .i64 (iy+1)) H312))))) else ((jh s285 n284 r291.2).bind λr313=>((r313.1).asB).bind λb314=>(bif (!b314) then ((Hp.ldSl r313.2 mb nW).bind λs315=>(Hp.ldSl r313.2 mb (nW+1)).bind λs316=>(Hp.st r313.2 jR kZ (.sl s315)).bind λH317=>(Hp.st H317 jR (kZ+1) (.sl s316)).bind λH318=>(Hp.ldSl H318 jR kZ).bind λs319=>(Hp.ldSl H318 jR (kZ+1)).bind λs320=>some ((.tup [(.agg [(.sl s319),(.sl s320)]),(.bool false)]),H318)) else ((Sl.idx s285 n284 2).bind λp321=>(Hp.ldI r313.2 .i64 p321.1 p321.2).bind λn322=>(bif (decide (n322>=0)) then ((Hp.ldSl r313.2 mb nW).bind λs323=>(Hp.ldSl r313.2 mb (nW+1)).bind λs324=>(Hp.st r313.2 jR kZ (.sl s323)).bind λH325=>(Hp.st H325 jR (kZ+1) (.sl s324)).bind λH326=>(Hp.ldSl H326 jR kZ).bind λs327=>(Hp.ldSl H326 jR (kZ+1)).bind λs328=>some ((.tup [(.agg [(.sl s327),(.sl s328)]),(.bool false)]),H326)) else ((Sl.idx s285 n284 2).bind λp329=>(Hp.st r313.2 p329.1 p329.2 (.int .i64 nX)).bind λH330=>(Hp.st H330 p329.1 (p329.2+1) (.int .i64 iy)).bind λH331=>cG.l3931 F jg gZ g_ jh C61_ Fs jR kZ mb nW Co pz pA pB sM nX lr lu lw lx (wrap .i64 (iy+1)) H331)))))) else none)) else (C61_ jR kZ mb nW Co pz (wrap .i64 (pA+1)) H233))
termination_by structural n=>n
def cG.l61 (F:Nat) (jg:am8) (gZ:anl) (g_:ane) (jh:am8) :Nat->Nat->Nat->Nat->Nat->Sl->Int->Int->Hp->OA
 | 0,_,_,_,_,_,_,_,_=>none
 | fB+1,qN,vz,sS,Cp,Ft,qO,nY,H29=>(bif (decide (nY<qO)) then ((Sl.idx Ft nY 5).bind λp184=>(Hp.ldI H29 .i64 p184.1 p184.2).bind λn185=>(Hp.ldI H29 .i64 p184.1 (p184.2+1)).bind λn186=>(Hp.ldI H29 .i64 p184.1 (p184.2+2)).bind λn187=>(Hp.ldI H29 .i64 p184.1 (p184.2+3)).bind λn188=>(Hp.ldI H29 .i64 p184.1 (p184.2+4)).bind λn189=>(Hp.new H29 [.int .i64 0,.int .i64 0,.int .i64 0,.int .i64 0,.int .i64 0]).bind λH190=>(Hp.st H190 H29.length 0 (.int .i64 n185)).bind λH191=>(Hp.st H191 H29.length (0+1) (.int .i64 n186)).bind λH192=>(Hp.st H192 H29.length (0+1+1) (.int .i64 n187)).bind λH193=>(Hp.st H193 H29.length (0+1+1+1) (.int .i64 n188)).bind λH194=>(Hp.st H194 H29.length (0+1+1+1+1) (.int .i64 n189)).bind λH195=>(Hp.ldI H195 .i64 H29.length 0).bind λn196=>(Hp.ldI H195 .i64 H29.length (0+1)).bind λn197=>(Hp.ldI H195 .i64 H29.length (0+2)).bind λn198=>(Hp.ldI H195 .i64 H29.length (0+3)).bind λn199=>(Hp.ldI H195 .i64 H29.length (0+4)).bind λn200=>(gZ n196 n197 n198 n199 n200 H195).bind λr201=>((r201.1).asAgg 4).bind λl202=>(l202[0]?).bind λv203=>((v203).asI .i64).bind λn204=>(l202[1]?).bind λv205=>((v205).asI .i64).bind λn206=>(l202[2]?).bind λv207=>((v207).asI .i64).bind λn208=>(l202[3]?).bind λv209=>((v209).asI .i64).bind λn210=>cG.l3931 F jg gZ g_ jh (cG.l61 F jg gZ g_ jh fB) F qN vz sS Cp Ft qO nY H29.length 0 nY n204 n206 n208 n210 0 r201.2) else ((Hp.ldSl H29 sS Cp).bind λs332=>(Hp.ldSl H29 sS (Cp+1)).bind λs333=>(Hp.st H29 qN vz (.sl s332)).bind λH334=>(Hp.st H334 qN (vz+1) (.sl s333)).bind λH335=>(Hp.ldSl H335 qN vz).bind λs336=>(Hp.ldSl H335 qN (vz+1)).bind λs337=>some ((.tup [(.agg [(.sl s336),(.sl s337)]),(.bool true)]),H335)))
termination_by structural n=>n
def cG.twX (jg:am8) (gZ:anl) (g_:ane) (jh:am8) (aa:Sl) (ac:Int) (H:Hp):OA:=(Hp.new H [(.sl aa),(.int .i64 ac)]).bind λH3=>(Hp.new H3 [.sl ⟨none,0,.ex 0⟩,.sl ⟨none,0,.ex 0⟩]).bind λH4=>(Hp.ldSl H4 H.length 0).bind λs5=>(Hp.new H4 [(.int .i64 (-1)),(.int .i64 0)]).bind λH6=>(jg (⟨some (H4.length,0),1,.ex 1⟩:Sl) (wrap .i64 (2 * (s5.n:Int))) H6).bind λr7=>((r7.1).asSl).bind λs8=>(Hp.new r7.2 [(.int .i64 (-1)),(.int .i64 0)]).bind λH9=>(jg (⟨some (r7.2.length,0),1,.ex 1⟩:Sl) (wrap .i64 (2 * (s5.n:Int))) H9).bind λr10=>((r10.1).asSl).bind λs11=>(Hp.new r10.2 [.sl ⟨none,0,.ex 0⟩,.sl ⟨none,0,.ex 0⟩]).bind λH12=>(Hp.st H12 r10.2.length 0 (.sl s8)).bind λH13=>(Hp.st H13 r10.2.length (0+1) (.sl s11)).bind λH14=>(Hp.ldSl H14 H.length 0).bind λs15=>cG.l61 F jg gZ g_ jh F H3.length 0 r10.2.length 0 s15 (s15.n:Int) 0 H14
def cG.tw:=cG.twX F (du.tw F) (jd.tw F) (je.tw F) (iJ.tw F)
def cG.lh61 (jg:am8) (gZ:anl) (g_:ane) (jh:am8) (ks:am6) (n:Nat) (tm:Tm) (H:Hp):OA:=match ks,tm 2,tm 5,tm 25,tm 26,tm 27 with
 | [],(.ptr qN vz),(.ptr sS Cp),(.sl Ft),(.int .i64 qO),(.int .i64 nY)=>cG.l61 F jg gZ g_ jh n qN vz sS Cp Ft qO nY H
 | _,_,_,_,_,_=>none
def cG.lh3931 (jg:am8) (gZ:anl) (g_:ane) (jh:am8) (ks:am6) (n:Nat) (tm:Tm) (H:Hp):OA:=match ks,tm 2,tm 5,tm 6,tm 7,tm 25,tm 26,tm 27,tm 33,tm 34 with
 | [fB],(.ptr jR kZ),(.ptr mb nW),(.int .i64 nX),(.ptr pB sM),(.sl Co),(.int .i64 pz),(.int .i64 pA),(.agg [(.int .i64 lr),(.int .i64 lu),(.int .i64 lw),(.int .i64 lx)]),(.int .i64 iy)=>cG.l3931 F jg gZ g_ jh (cG.l61 F jg gZ g_ jh fB) n jR kZ mb nW Co pz pA pB sM nX lr lu lw lx iy H
 | _,_,_,_,_,_,_,_,_,_=>none
def cG.lh (jg:am8) (gZ:anl) (g_:ane) (jh:am8) (p:Nat) (ks:am6) (n:Nat) (tm:Tm) (H:Hp):OA:=bif p.beq 3931 then cG.lh3931 F jg gZ g_ jh ks n tm H else (bif p.beq 61 then cG.lh61 F jg gZ g_ jh ks n tm H else (none))
def cG.cs (F:Nat) (jg:am8) (gZ:anl) (g_:ane) (jh:am8):Cs:=[(109,mk0 jg),(110,mk2 gZ),(111,mk6 g_),(112,mk0 jh)]
theorem cG.loops (jg:am8) (gZ:anl) (g_:ane) (jh:am8):LO (bl (cG.cs F jg gZ g_ jh)) bf (cG.lh F jg gZ g_ jh) F Tryz.f91:=
 (ae.rt (ae.rt (ae.rt (ae.lt (ae.rt (ae.block (ae.la (λn tm H r h=>by change cG.lh61 F jg gZ g_ jh [] n tm H=_ at h;unfold cG.lh61 at h;split at h;have e:c_ tm [(2,_),(5,_),(25,_),(26,_),(27,_)]:=⟨‹_›,‹_›,‹_›,‹_›,‹_›,trivial⟩;obtain _ | k61:=n;cases h;exact ⟨_,rfl,by rw [<- db e];exact Eq.trans (by kernel_rfl) h⟩;cases h) λk61=>(ae.rt (ae.rt (ae.lt (ae.block (ae.rt (ae.rt (ae.block (ae.la (λn tm H r h=>by change cG.lh3931 F jg gZ g_ jh [k61] n tm H=_ at h;unfold cG.lh3931 at h;split at h;have e:c_ tm [(2,_),(5,_),(6,_),(7,_),(25,_),(26,_),(27,_),(33,_),(34,_)]:=⟨‹_›,‹_›,‹_›,‹_›,‹_›,‹_›,‹_›,‹_›,‹_›,trivial⟩;cases (show [k61]=_ from ‹_›);obtain _ | k3931:=n;cases h;exact ⟨_,rfl,by rw [<- db e];exact Eq.trans (by kernel_rfl) h⟩;cases h) λk3931=>ae.no)))))))))))))))
theorem cG.eqX (jg:am8) (gZ:anl) (g_:ane) (jh:am8) (aa:Sl) (ac:Int) (H:Hp):EX (bl (cG.cs F jg gZ g_ jh)) bf (cG.lh F jg gZ g_ jh) F Tryz.f91 [(.agg [(.sl aa),(.int .i64 ac)])] H=cG.twX F jg gZ g_ jh aa ac H:=by kernel_rfl
theorem cG.k:Ok Tryz.prog 91 (mk4 (cG.tw F)):=by
 intro args H v H' h
 unfold mk4 at h
 split at h
 ·exact okT (TB:=bf) Tryz.func91 (aR (du.k F) (aR (jd.k F) (aR (je.k F) (aR (iJ.k F) cD)))) (cG.loops F (du.tw F) (jd.tw F) (je.tw F) (iJ.tw F)) ((cG.eqX F (du.tw F) (jd.tw F) (je.tw F) (iJ.tw F) _ _ H).trans h) (by kernel_rfl)
 ·cases h
def hG.twX (F:Nat) (gZ:anl) (g_:ane) (aa:Sl) (ac:Int) (ah:Sl) (aF:Sl) (ch:Int) (dt:Int) (H:Hp):OA:=(Hp.new H [(.sl aa),(.int .i64 ac)]).bind λH7=>(Hp.new H7 [(.sl ah),(.sl aF)]).bind λH8=>(Hp.new H8 [(.int .i64 ch),(.int .i64 dt)]).bind λH9=>(Hp.new H9 [.int .i64 0,.int .i64 0]).bind λH10=>(Hp.ldSl H10 H.length 0).bind λs11=>(Hp.ldI H10 .i64 H8.length 0).bind λn12=>(Sl.idx s11 n12 5).bind λp13=>(Hp.ldI H10 .i64 p13.1 p13.2).bind λn14=>(Hp.ldI H10 .i64 p13.1 (p13.2+1)).bind λn15=>(Hp.ldI H10 .i64 p13.1 (p13.2+2)).bind λn16=>(Hp.ldI H10 .i64 p13.1 (p13.2+3)).bind λn17=>(Hp.ldI H10 .i64 p13.1 (p13.2+4)).bind λn18=>(Hp.new H10 [.int .i64 0,.int .i64 0,.int .i64 0,.int .i64 0,.int .i64 0]).bind λH19=>(Hp.st H19 H10.length 0 (.int .i64 n14)).bind λH20=>(Hp.st H20 H10.length (0+1) (.int .i64 n15)).bind λH21=>(Hp.st H21 H10.length (0+1+1) (.int .i64 n16)).bind λH22=>(Hp.st H22 H10.length (0+1+1+1) (.int .i64 n17)).bind λH23=>(Hp.st H23 H10.length (0+1+1+1+1) (.int .i64 n18)).bind λH24=>(Hp.ldI H24 .i64 H10.length 0).bind λn25=>(Hp.ldI H24 .i64 H10.length (0+1)).bind λn26=>(Hp.ldI H24 .i64 H10.length (0+2)).bind λn27=>(Hp.ldI H24 .i64 H10.length (0+3)).bind λn28=>(Hp.ldI H24 .i64 H10.length (0+4)).bind λn29=>(gZ n25 n26 n27 n28 n29 H24).bind λr30=>((r30.1).asAgg 4).bind λl31=>(l31[0]?).bind λv32=>((v32).asI .i64).bind λn33=>(l31[1]?).bind λv34=>((v34).asI .i64).bind λn35=>(l31[2]?).bind λv36=>((v36).asI .i64).bind λn37=>(l31[3]?).bind λv38=>((v38).asI .i64).bind λn39=>(if bo H24 r30.2 then ((Hp.ldI r30.2 .i64 H8.length 1).bind λn40=>(if 0<=n40/\n40<(4:Int) then (([(.int .i64 n33),(.int .i64 n35),(.int .i64 n37),(.int .i64 n39)]:List AV)[(n40:Int).toNat * 1]?).bind λv41=>((v41).asI .i64).bind λn42=>(Hp.ldI r30.2 .i64 H10.length 0).bind λn43=>(Hp.ldI r30.2 .i64 H10.length (0+1)).bind λn44=>(Hp.ldI r30.2 .i64 H10.length (0+2)).bind λn45=>(Hp.ldI r30.2 .i64 H10.length (0+3)).bind λn46=>(Hp.ldI r30.2 .i64 H10.length (0+4)).bind λn47=>(Hp.ldI r30.2 .i64 H8.length 1).bind λn48=>(g_ n43 n44 n45 n46 n47 n48 r30.2).bind λr49=>((r49.1).asB).bind λb50=>(bif b50 then ((Hp.ldSl r49.2 H7.length 0).bind λs51=>(Sl.idx s51 n42 2).bind λp52=>(Hp.ldI r49.2 .i64 p52.1 p52.2).bind λn53=>(Hp.ldI r49.2 .i64 p52.1 (p52.2+1)).bind λn54=>(Hp.st r49.2 H9.length 0 (.int .i64 n53)).bind λH55=>(Hp.st H55 H9.length (0+1) (.int .i64 n54)).bind λH56=>(Hp.ldI H56 .i64 H9.length 0).bind λn57=>(Hp.ldI H56 .i64 H9.length (0+1)).bind λn58=>some ((.agg [(.int .i64 n57),(.int .i64 n58)]),H56)) else ((Hp.ldSl r49.2 H7.length 1).bind λs59=>(Sl.idx s59 n42 2).bind λp60=>(Hp.ldI r49.2 .i64 p60.1 p60.2).bind λn61=>(Hp.ldI r49.2 .i64 p60.1 (p60.2+1)).bind λn62=>(Hp.st r49.2 H9.length 0 (.int .i64 n61)).bind λH63=>(Hp.st H63 H9.length (0+1) (.int .i64 n62)).bind λH64=>(Hp.ldI H64 .i64 H9.length 0).bind λn65=>(Hp.ldI H64 .i64 H9.length (0+1)).bind λn66=>some ((.agg [(.int .i64 n65),(.int .i64 n66)]),H64))) else none)) else none)
def hG.tw:=hG.twX F (jd.tw F) (je.tw F)
def hG.tb:Nat->List (List Nat):=dM [(2,[[],[0],[],[2],[0,1,2,3],[0,1,2,3,4]])]
def mk17 (g:anu) (args:anb) (H:Hp):OA:=match args with
 | [(.agg [(.sl aa),(.int .i64 ac)]),(.agg [(.sl ah),(.sl aF)]),(.agg [(.int .i64 ch),(.int .i64 dt)])]=>g aa ac ah aF ch dt H
 | _=>none
theorem mk17_E (g:anu) (aa:Sl) (ac:Int) (ah:Sl) (aF:Sl) (ch:Int) (dt:Int) (H:Hp):mk17 g [(.agg [(.sl aa),(.int .i64 ac)]),(.agg [(.sl ah),(.sl aF)]),(.agg [(.int .i64 ch),(.int .i64 dt)])] H=g aa ac ah aF ch dt H:=rfl
def hG.cs (F:Nat) (gZ:anl) (g_:ane):Cs:=[(110,mk2 gZ),(111,mk6 g_)]
theorem hG.eqX (gZ:anl) (g_:ane) (aa:Sl) (ac:Int) (ah:Sl) (aF:Sl) (ch:Int) (dt:Int) (H:Hp):EX (bl (hG.cs F gZ g_)) bf lh0 F Tryz.f113 [(.agg [(.sl aa),(.int .i64 ac)]),(.agg [(.sl ah),(.sl aF)]),(.agg [(.int .i64 ch),(.int .i64 dt)])] H=hG.twX F gZ g_ aa ac ah aF ch dt H:=by kernel_rfl
theorem hG.k:Ok Tryz.prog 113 (mk17 (hG.tw F)):=by
 intro args H v H' h
 unfold mk17 at h
 split at h
 ·exact okT (TB:=hG.tb) Tryz.func113 (aR (jd.k F) (aR (je.k F) cD)) ae.no ((hG.eqX F (jd.tw F) (je.tw F) _ _ _ _ _ _ H).trans h) (by kernel_rfl)
 ·cases h
def bH.j4 (F:Nat) (ib:anu) (C61_:anD) (Fu:Nat) (adV:Nat) (Fv:Nat) (adW:Nat) (adX:Sl) (adY:Sl) (zg:Int) (zh:Int) (H248:Hp):OA:=C61_ Fu adV Fv adW adX adY zg (wrap .i64 (zh+1)) H248
def bH.j5 (ib:anu) (C61_:anD) (Fw:Nat) (adZ:Nat) (xW:Nat) (ad0:Nat) (tM:Sl) (ad2:Sl) (zi:Int) (zj:Int) (H228:Hp):OA:=bH.j4 F ib C61_ Fw adZ xW ad0 tM ad2 zi zj H228
def bH.j6 (ib:anu) (C61_:anD) (Cq:Nat) (Uk:Nat) (Ct:Nat) (Ul:Nat) (Um:Sl) (Un:Sl) (Uo:Sl) (tZ:Int) (t_:Int) (H205:Hp):OA:=(bif (decide ((Uo.n:Int)>0)) then ((Hp.new H205 [(.sl Uo)]).bind λH206=>(Sl.row H206 (⟨some (H205.length,0),1,.ex 1⟩:Sl) 1).bind λxs208=>(Hp.app H206 1 24 Um (⟨some (H205.length,0),1,.ex 1⟩:Sl).n xs208).bind λa207=>bH.j5 F ib C61_ Cq Uk Ct Ul a207.1 Un tZ t_ a207.2) else (bH.j5 F ib C61_ Cq Uk Ct Ul Um Un tZ t_ H205))
def bH.l15725 (F:Nat) (ib:anu) (C61_:anD):Nat->Nat->Nat->Nat->Nat->Sl->Sl->Int->Int->Sl->Int->Hp->OA
 | 0,_,_,_,_,_,_,_,_,_,_,_=>none
 | ad3+1,rY,zk,rZ,zm,Fx,zn,qP,qQ,Fy,mc,H164=>(Sl.idx zn mc 1).bind λp249=>(Hp.ldB H164 p249.1 p249.2).bind λb250=>(bif (!b250) then ((Sl.idx zn mc 1).bind λp251=>(Hp.st H164 p251.1 p251.2 (.bool true)).bind λH252=>(Hp.new H252 [(.int .i64 mc)]).bind λH253=>(Sl.row H253 (⟨some (H252.length,0),1,.ex 1⟩:Sl) 1).bind λxs255=>(Hp.app H253 1 8 Fy (⟨some (H252.length,0),1,.ex 1⟩:Sl).n xs255).bind λa254=>(Hp.ldSl a254.2 rY zk).bind λs256=>(Hp.ldI a254.2 .i64 rY (zk+1)).bind λn257=>(Hp.ldSl a254.2 rZ zm).bind λs258=>(Hp.ldSl a254.2 rZ (zm+1)).bind λs259=>(ib s256 n257 s258 s259 (wrap .i64 (Int.tdiv mc 4)) (Int.tmod (wrap .i64 (mc+1)) 4) a254.2).bind λr260=>((r260.1).asAgg 2).bind λl261=>(l261[0]?).bind λv262=>((v262).asI .i64).bind λn263=>(l261[1]?).bind λv264=>((v264).asI .i64).bind λn265=>(Hp.new r260.2 [.int .i64 0,.int .i64 0]).bind λH266=>(Hp.st H266 r260.2.length 0 (.int .i64 n263)).bind λH267=>(Hp.st H267 r260.2.length (0+1) (.int .i64 n265)).bind λH268=>(Hp.ldI H268 .i64 r260.2.length 0).bind λn269=>(Hp.ldI H268 .i64 r260.2.length 1).bind λn270=>bH.l15725 F ib C61_ ad3 rY zk rZ zm Fx zn qP qQ a254.1 (wrap .i64 ((wrap .i64 (4 * n269))+n270)) H268) else (bH.j6 F ib C61_ rY zk rZ zm Fx zn Fy qP qQ H164))
termination_by structural n=>n
def bH.l61 (F:Nat) (ib:anu) :Nat->Nat->Nat->Nat->Nat->Sl->Sl->Int->Int->Hp->OA
 | 0,_,_,_,_,_,_,_,_,_=>none
 | fB+1,vA,JZ,vB,gE,Fz,eD,qR,pE,H22=>(bif (decide (pE<qR)) then (bH.l15725 F ib (bH.l61 F ib fB) F vA JZ vB gE Fz eD qR pE (⟨none,0,.ex 0⟩:Sl) pE H22) else (some ((.sl Fz),H22)))
termination_by structural n=>n
def bH.twX (ib:anu) (aa:Sl) (ac:Int) (ah:Sl) (aF:Sl) (H:Hp):OA:=(Hp.new H [(.sl aa),(.int .i64 ac)]).bind λH5=>(Hp.new H5 [(.sl ah),(.sl aF)]).bind λH6=>(Hp.ldSl H6 H.length 0).bind λs7=>(Hp.mk H6 [.bool false] 1 (wrap .i64 (4 * (s7.n:Int))) (wrap .i64 (4 * (s7.n:Int)))).bind λm8=>bH.l61 F ib F H.length 0 H5.length 0 (⟨none,0,.ex 0⟩:Sl) m8.1 (m8.1.n:Int) 0 m8.2
def bH.tw:=bH.twX F (hG.tw F)
def bH.lh61 (ib:anu) (ks:am6) (n:Nat) (tm:Tm) (H:Hp):OA:=match ks,tm 2,tm 3,tm 5,tm 6,tm 17,tm 18 with
 | [],(.ptr vA JZ),(.ptr vB gE),(.sl Fz),(.sl eD),(.int .i64 qR),(.int .i64 pE)=>bH.l61 F ib n vA JZ vB gE Fz eD qR pE H
 | _,_,_,_,_,_,_=>none
def bH.lh15725 (ib:anu) (ks:am6) (n:Nat) (tm:Tm) (H:Hp):OA:=match ks,tm 2,tm 3,tm 5,tm 6,tm 8,tm 9,tm 17,tm 18 with
 | [fB],(.ptr rY zk),(.ptr rZ zm),(.sl Fx),(.sl zn),(.sl Fy),(.int .i64 mc),(.int .i64 qP),(.int .i64 qQ)=>bH.l15725 F ib (bH.l61 F ib fB) n rY zk rZ zm Fx zn qP qQ Fy mc H
 | _,_,_,_,_,_,_,_,_=>none
def bH.lh (ib:anu) (p:Nat) (ks:am6) (n:Nat) (tm:Tm) (H:Hp):OA:=bif p.beq 15725 then bH.lh15725 F ib ks n tm H else (bif p.beq 61 then bH.lh61 F ib ks n tm H else (none))
def mk18 (g:anJ) (args:anb) (H:Hp):OA:=match args with
 | [(.agg [(.sl aa),(.int .i64 ac)]),(.agg [(.sl ah),(.sl aF)])]=>g aa ac ah aF H
 | _=>none
theorem mk18_E (g:anJ) (aa:Sl) (ac:Int) (ah:Sl) (aF:Sl) (H:Hp):mk18 g [(.agg [(.sl aa),(.int .i64 ac)]),(.agg [(.sl ah),(.sl aF)])] H=g aa ac ah aF H:=rfl
def bH.cs (F:Nat) (ib:anu):Cs:=[(113,mk17 ib)]
theorem bH.loops (ib:anu):LO (bl (bH.cs F ib)) bf (bH.lh F ib) F Tryz.f93:=
 (ae.rt (ae.rt (ae.rt (ae.lt (ae.rt (ae.block (ae.la (λn tm H r h=>by change bH.lh61 F ib [] n tm H=_ at h;unfold bH.lh61 at h;split at h;have e:c_ tm [(2,_),(3,_),(5,_),(6,_),(17,_),(18,_)]:=⟨‹_›,‹_›,‹_›,‹_›,‹_›,‹_›,trivial⟩;obtain _ | k61:=n;cases h;exact ⟨_,rfl,by rw [<- db e];exact Eq.trans (by kernel_rfl) h⟩;cases h) λk61=>(ae.rt (ae.rt (ae.lt (ae.block (ae.rt (ae.rt (ae.lt (ae.rt (ae.block (ae.la (λn tm H r h=>by change bH.lh15725 F ib [k61] n tm H=_ at h;unfold bH.lh15725 at h;split at h;have e:c_ tm [(2,_),(3,_),(5,_),(6,_),(8,_),(9,_),(17,_),(18,_)]:=⟨‹_›,‹_›,‹_›,‹_›,‹_›,‹_›,‹_›,‹_›,trivial⟩;cases (show [k61]=_ from ‹_›);obtain _ | k15725:=n;cases h;exact ⟨_,rfl,by rw [<- db e];exact Eq.trans (by kernel_rfl) h⟩;cases h) λk15725=>ae.no)))))))))))))))))
theorem bH.eqX (ib:anu) (aa:Sl) (ac:Int) (ah:Sl) (aF:Sl) (H:Hp):EX (bl (bH.cs F ib)) bf (bH.lh F ib) F Tryz.f93 [(.agg [(.sl aa),(.int .i64 ac)]),(.agg [(.sl ah),(.sl aF)])] H=bH.twX F ib aa ac ah aF H:=by kernel_rfl
theorem bH.k:Ok Tryz.prog 93 (mk18 (bH.tw F)):=by
 intro args H v H' h
 unfold mk18 at h
 split at h
 ·exact okT (TB:=bf) Tryz.func93 (aR (hG.k F) cD) (bH.loops F (hG.tw F)) ((bH.eqX F (hG.tw F) _ _ _ _ H).trans h) (by kernel_rfl)
 ·cases h
def md.twX (F:Nat) (aa:Sl) (H:Hp):OA:=some ((.int .i64 (aa.n:Int)),H)
def md.tw:=md.twX F
theorem md.k:Ok Tryz.prog 92 (mk3 (md.tw F)):=by
 intro args H v H' h
 unfold mk3 at h
 split at h
 ·exact ok0 Tryz.func92 (Eq.trans (by kernel_rfl) h) (by kernel_rfl) (by kernel_rfl)
 ·cases h
def eE.l29 (F:Nat) :Nat->Sl->Int->Int->Hp->OA
 | 0,_,_,_,_=>none
 | fG+1,FA,qS,nZ,H7=>(bif (decide (nZ<qS)) then ((Hp.new H7 [(.int .i64 nZ)]).bind λH11=>(Sl.row H11 (⟨some (H7.length,0),1,.ex 1⟩:Sl) 1).bind λxs13=>(Hp.app H11 1 8 FA (⟨some (H7.length,0),1,.ex 1⟩:Sl).n xs13).bind λa12=>eE.l29 F fG a12.1 qS (wrap .i64 (nZ+1)) a12.2) else (some ((.sl FA),H7)))
def eE.twX (aa:Int) (H:Hp):OA:=eE.l29 F F (⟨none,0,.ex 0⟩:Sl) aa 0 H
def eE.tw:=eE.twX F
def eE.lh29 (ks:am6) (n:Nat) (tm:Tm) (H:Hp):OA:=match ks,tm 3,tm 5,tm 6 with
 | [],(.sl FA),(.int .i64 qS),(.int .i64 nZ)=>eE.l29 F n FA qS nZ H
 | _,_,_,_=>none
def eE.lh (p:Nat) (ks:am6) (n:Nat) (tm:Tm) (H:Hp):OA:=bif p.beq 29 then eE.lh29 F ks n tm H else (none)
theorem eE.loops:LO (bl []) bf (eE.lh F) F Tryz.f71:=
 (ae.rt (ae.rt (ae.lt (ae.rt (ae.block (ae.la (λn tm H r h=>by change eE.lh29 F [] n tm H=_ at h;unfold eE.lh29 at h;split at h;have e:c_ tm [(3,_),(5,_),(6,_)]:=⟨‹_›,‹_›,‹_›,trivial⟩;obtain _ | k29:=n;cases h;exact ⟨_,rfl,by rw [<- db e];exact Eq.trans (by kernel_rfl) h⟩;cases h) λk29=>ae.no))))))
theorem eE.k:Ok Tryz.prog 71 (mk11 (eE.tw F)):=by
 intro args H v H' h
 unfold mk11 at h
 split at h
 ·exact okT (PN:=bf) (LH:=(eE.lh F)) (F:=F) (TB:=bf) Tryz.func71 cD (eE.loops F) (Eq.trans (by kernel_rfl) h) (by kernel_rfl)
 ·cases h
def da.j2 (F:Nat) (C7_:aor) (ad4:Sl) (zo:Int) (zp:Int) (ad5:Sl) (zq:Int) (zr:Int) (H50:Hp):OA:=C7_ ad4 zo zp ad5 zq (wrap .i64 (zr+1)) H50
def da.l7 (F:Nat) :Nat->Sl->Int->Int->Sl->Int->Int->Hp->OA
 | 0,_,_,_,_,_,_,_=>none
 | mJ+1,qT,pF,pG,Cu,pH,nk,H16=>(bif (decide (nk<pH)) then ((Sl.idx Cu nk 1).bind λp34=>(Hp.ldI H16 .i64 p34.1 p34.2).bind λn35=>(bif (n35==pF) then ((Sl.idx qT nk 1).bind λp36=>(Hp.st H16 p36.1 p36.2 (.int .i64 pG)).bind λH37=>da.j2 F (da.l7 F mJ) qT pF pG Cu pH nk H37) else (da.j2 F (da.l7 F mJ) qT pF pG Cu pH nk H16))) else (some ((.tup []),H16)))
def da.twX (aa:Sl) (au:Int) (eA:Int) (H:Hp):OA:=(Sl.idx aa eA 1).bind λp4=>(Hp.ldI H .i64 p4.1 p4.2).bind λn5=>(Sl.idx aa au 1).bind λp6=>(Hp.ldI H .i64 p6.1 p6.2).bind λn7=>da.l7 F F aa n5 n7 aa (aa.n:Int) 0 H
def da.tw:=da.twX F
def da.lh7 (ks:am6) (n:Nat) (tm:Tm) (H:Hp):OA:=match ks,tm 0,tm 6,tm 7,tm 18,tm 19,tm 20 with
 | [],(.sl qT),(.int .i64 pF),(.int .i64 pG),(.sl Cu),(.int .i64 pH),(.int .i64 nk)=>da.l7 F n qT pF pG Cu pH nk H
 | _,_,_,_,_,_,_=>none
def da.lh (p:Nat) (ks:am6) (n:Nat) (tm:Tm) (H:Hp):OA:=bif p.beq 7 then da.lh7 F ks n tm H else (none)
def da.tb:Nat->List (List Nat):=dM [(0,[[],[],[0,1],[0,1,2],[],[],[4,5],[4,5,6],[0,1,2,3],[0,1,2,3,4,5,6,7,8]])]
def mk19 (g:ani) (args:anb) (H:Hp):OA:=match args with
 | [(.sl aa),(.int .i64 au),(.int .i64 eA)]=>g aa au eA H
 | _=>none
theorem mk19_E (g:ani) (aa:Sl) (au:Int) (eA:Int) (H:Hp):mk19 g [(.sl aa),(.int .i64 au),(.int .i64 eA)] H=g aa au eA H:=rfl
theorem da.loops:LO (bl []) bf (da.lh F) F Tryz.f72:=
 (ae.rt (ae.rt (ae.block (ae.la (λn tm H r h=>by change da.lh7 F [] n tm H=_ at h;unfold da.lh7 at h;split at h;have e:c_ tm [(0,_),(6,_),(7,_),(18,_),(19,_),(20,_)]:=⟨‹_›,‹_›,‹_›,‹_›,‹_›,‹_›,trivial⟩;obtain _ | k7:=n;cases h;exact ⟨_,rfl,by rw [<- db e];exact Eq.trans (by kernel_rfl) h⟩;cases h) λk7=>ae.no))))
theorem da.k:Ok Tryz.prog 72 (mk19 (da.tw F)):=by
 intro args H v H' h
 unfold mk19 at h
 split at h
 ·exact okT (PN:=bf) (LH:=(da.lh F)) (F:=F) (TB:=da.tb) Tryz.func72 cD (da.loops F) (Eq.trans (by kernel_rfl) h) (by kernel_rfl)
 ·cases h
theorem nm_law:Keyed Tryz.prog 2:=int_keyed Tryz.underlying2
theorem nm_zero (w:World):(zeroValue 2).run Tryz.prog w=.ok (.int .i64 0) w:=by kernel_rfl
theorem nm_info:(Tryz.prog.info? 2).map (λi=>(i.zero,i.size,i.bytes))=some (some (.int .i64 0),1,8):=by kernel_rfl
theorem nm_none (a:Option Addr) (cap:Nat) (w:World):Calls Tryz.prog 73 #[.slice a 0 cap] w λe w'=>e=.returned (.slice none 0 0)/\Below w.heap.size w w':=by
 have hmm:=@run_makeMap Tryz.prog
 go_enter Tryz.func73,Tryz.ntmps73
 go_wp2
 refine wp_loop_rounds 1 ?_
 rw [rounds_succ]
 go_wp2
 go_ret
 exact ⟨rfl,(Below.refl _ _).alloc (Nat.le_refl _) _⟩
theorem nm_any (b off len cap:Nat) (zs:am3) (w:World) (hreach:len<=4294967296) (hz:len<=zs.length) (hb:b<w.heap.size)
  (hc:∀ j,j<zs.length->w.cell? ⟨b,off+j,none⟩=some (.int .i64 (zs.getD j 0))) (hwz:∀ n∈zs,(Lit.int .i64 n).wf=true) :
  Calls Tryz.prog 73 #[.slice (some ⟨b,off,none⟩) len cap] w λe w'=>∃ v,e=.returned v/\w'.ownsRow (w.heap.size+1) 2 1 v len ((nst zs len).2.map (Value.int .i64))/\Below w.heap.size w w':=by
 have hmm:=@run_makeMap Tryz.prog
 obtain ⟨i0,hi,hz0,hz1,hz2⟩:=info_parts nm_info
 go_enter Tryz.func73,Tryz.ntmps73
 go_wp2
 go_loopw [4,12] (λv i wr=>∃ (k:Nat) (D:DataW Unit),k<=len/\i=.int .i64 k/\wr.ownsMap Tryz.prog 2 (plainElem Tryz.prog 2) w.heap.size k D/\ND D (nst zs k).1 /\
   wr.ownsRow (w.heap.size+1) 2 1 v k ((nst zs k).2.map (Value.int .i64))/\Below w.heap.size w wr/\w.heap.size+1<=wr.heap.size)
  (λ_ i _=>len - (intOf i).toNat)
 case atStart=>exact ⟨0,.map [],Nat.zero_le _,rfl,World.ownsMap_made _ _ _ _,ND.nil,World.ownsRow_nil _ _ _ _,(Below.refl _ _).alloc (Nat.le_refl _) _,by simp⟩
 case round=>
  obtain ⟨k,D,hk,rfl,hown,hD,hrow,hnx,hws⟩:=hrel
  obtain ⟨x,hx⟩:∃ x,x=zs.getD k 0:=⟨_,rfl⟩
  have hwx:(Lit.int .i64 x).wf=true:=by rw [hx];exact ak3 hwz k
  have hcx:k<len->wr.cell? ⟨b,off+k,none⟩=some (.int .i64 x):=λ_=>by rw [hx];exact (hnx.cell (by exact hb)).trans (hc k (by omega))
  have hkey:keyOf Tryz.prog 2 (.int .i64 x)=some (.int .i64 x):=keyOf_int_mk Tryz.underlying2 hwx
  have hl1:=abX zs k
  have hs1:Maps.size D<=k:=by rw [hD.size];exact hl1
  have hht:=hown.tidy nm_law
  have n1:nst zs (k+1)=(bif (nst zs k).1.contains x then (nst zs k).1 else (nst zs k).1++[x],(nst zs k).2++[(((bif (nst zs k).1.contains x then (nst zs k).1 else (nst zs k).1++[x]).idxOf x:Nat):Int)]):=by rw [hx];rfl
  clear hx
  go_wp2_with (first
   | (at_lookup;first
     | (refine wpList_lookup_own_ok_int _ rfl _ _ 123 rfl 2 2 .i64 nm_law Tryz.underlying123 Tryz.underlying2 (nm_zero _) w.heap.size k _ rfl hown _ _ rfl hkey ?_;intro c hat hwc)
     | (refine wpList_lookup_own_int _ rfl _ _ 123 rfl 2 2 .i64 nm_law Tryz.underlying123 Tryz.underlying2 (nm_zero _) w.heap.size (k+1) _ rfl hown1 _ _ rfl hkey ?_;intro c2 hat2 hwc2)
     | (refine wpList_lookup_own_int _ rfl _ _ 123 rfl 2 2 .i64 nm_law Tryz.underlying123 Tryz.underlying2 (nm_zero _) w.heap.size k _ rfl hown _ _ rfl hkey ?_;intro c2 hat2 hwc2))
   | (at_len;refine wpList_len_own _ rfl _ 123 rfl 2 2 Tryz.underlying123 _ w.heap.size k _ rfl hown ?_)
   | (at_mapUpdate;refine wpList_mapUpdate_own _ rfl _ _ _ 123 rfl 2 2 nm_law Tryz.underlying123 (plainElem Tryz.prog 2) w.heap.size k _ rfl hown (by unfold maxLen;omega) _ _ _ rfl rfl hkey _ [] (plainElem_int Tryz.underlying2 (WalkArith.wf_i64 (by omega))) ?_;intro w1 hown1 hgrow1)
   | (at_builtin;first
     | (refine wpList_append_own _ rfl _ _ 34 rfl (w.heap.size+1) 2 i0 (.int .i64 0) 1 8 Tryz.underlying34 hi hz0 hz1 hz2 rfl (by decide) _ _ _ rfl ((hrow.kept hgrow1 (Or.inr (JE hrow (Nat.lt_succ_self _)).symm)).alloc _) ⟨w1.heap.size,0,none⟩ 1 1 [.int .i64 c2] rfl rfl (cell_one_new _ _ _) (ints_oneCell .i64 [c2]) (by unfold maxLen;omega) (by omega) (by have:=hgrow1.size;simp at this ⊢;omega) ?_;intro v' w2 hown' hgrow2 hnil2)
     | (refine wpList_append_own _ rfl _ _ 34 rfl (w.heap.size+1) 2 i0 (.int .i64 0) 1 8 Tryz.underlying34 hi hz0 hz1 hz2 rfl (by decide) _ _ _ rfl (hrow.alloc _) ⟨wr.heap.size,0,none⟩ 1 1 [.int .i64 c2] rfl rfl (cell_one_new _ _ _) (ints_oneCell .i64 [c2]) (by unfold maxLen;omega) (by omega) (by simp;omega) ?_;intro v' w2 hown' hgrow2 hnil2))
   | go_in)
  ·have hlt:k<len:=by assumption
   have ht:(!Maps.has D (Lit.int .i64 x))=true:=by assumption
   have hc0:(nst zs k).1.contains x=false:=by rw [<- hD.has x];simpa using ht
   have hr1:=hrow.kept hgrow1 (Or.inr (JE hrow (Nat.lt_succ_self _)).symm)
   have s1:=hgrow1.size
   have s2:=hgrow2.size
   simp at s1 s2
   have hD1:=hD.new hht hc0
   rw [hD1.at_ x (by simp) _] at hat2
   have e2:c2=(((nst zs k).1++[x]).idxOf x:Nat):=by injection hat2 with q;injection q with _ q;exact q.symm
   rw [hc0,cond_false] at n1
   go_roundw
   case rel=>
    refine ⟨k+1,_,by omega,by go_num,(hown1.alloc _).kept hgrow2 (JE hr1 (Nat.lt_succ_self _)),by rw [n1];exact hD1,?_,?_,by omega⟩
    ·rw [n1,List.map_append,<-e2];exact hown'
    ·exact (((hnx.grown hgrow1 hnx.size (λj hj=>by cases hj;exact Nat.le_refl _)).alloc (by omega) _).grown hgrow2 (by simp;omega) (λj hj=>Nat.le_trans (Nat.le_succ _) (hr1.lt j hj).1))
   case measure=>simp [intOf];omega
  ·have hlt:k<len:=by assumption
   have ht:(!Maps.has D (Lit.int .i64 x))=false:=by assumption
   have hc1:(nst zs k).1.contains x=true:=by rw [<- hD.has x];simpa using ht
   have s2:=hgrow2.size
   simp at s2
   rw [hD.at_ x hc1 _] at hat2
   have e2:c2=((nst zs k).1.idxOf x:Nat):=by injection hat2 with q;injection q with _ q;exact q.symm
   rw [hc1,cond_true] at n1
   go_roundw
   case rel=>
    refine ⟨k+1,_,by omega,by go_num,((hown.alloc _).kept hgrow2 (JE hrow (Nat.lt_succ_self _))).mono (Nat.le_succ _),by rw [n1];exact hD,?_,?_,by omega⟩
    ·rw [n1,List.map_append,<-e2];exact hown'
    ·exact ((hnx.alloc hnx.size _).grown hgrow2 (by simp;omega) (λj hj=>Nat.le_trans (Nat.le_succ _) (hrow.lt j hj).1))
   case measure=>simp [intOf];omega
  ·have:k=len:=by omega
   subst this
   go_ret
   exact ⟨_,rfl,hrow,hnx⟩
theorem nm_ok:NumOk Tryz.prog 73 2:=⟨nm_none,nm_any⟩
def gr.tw (F:Nat) (aa:Sl) (H:Hp):OA:=EB aa H
def gr.mk (g:am7) (args:anb) (H:Hp):OA:=match args with
 | [.sl aa]=>g aa H
 | _=>none
theorem gr.T {F:Nat} {aa:Sl} {H:Hp} {v:AV} {H':Hp} (h:gr.tw F aa H=some (v,H')):Go.AE.T Tryz.prog 73 [.sl aa] H v H':=
 nm_ok.T (ak4 Tryz.func73 (by kernel_rfl) (by kernel_rfl)) h
theorem gr.mk_T {F:Nat} {args:anb} {H:Hp} {v:AV} {H':Hp} (h:gr.mk (gr.tw F) args H=some (v,H')):Go.AE.T Tryz.prog 73 args H v H':=by
 unfold gr.mk at h
 split at h
 ·exact gr.T h
 ·cases h
theorem gr.k:Ok Tryz.prog 73 (gr.mk (gr.tw F)):=λ_ _ _ _ h=>gr.mk_T h
def eu.l29 (F:Nat) (dX:am7) (gu:am_) (gv:ani) (gw:am7) :Nat->Nat->Nat->Sl->Sl->Int->Int->Hp->OA
 | 0,_,_,_,_,_,_,_=>none
 | fG+1,jA,FB,Cv,FC,qU,n_,H26=>(bif (decide (n_<qU)) then ((Sl.idx FC n_ 2).bind λp40=>(Hp.ldI H26 .i64 p40.1 p40.2).bind λn41=>(Hp.ldI H26 .i64 p40.1 (p40.2+1)).bind λn42=>(Hp.new H26 [.int .i64 0,.int .i64 0]).bind λH43=>(Hp.st H43 H26.length 0 (.int .i64 n41)).bind λH44=>(Hp.st H44 H26.length (0+1) (.int .i64 n42)).bind λH45=>(Hp.ldI H45 .i64 H26.length 0).bind λn46=>(Hp.ldSl H45 jA (FB+1)).bind λs47=>(Sl.idx s47 n_ 2).bind λp48=>(Hp.ldI H45 .i64 p48.1 p48.2).bind λn49=>(gv Cv n46 n49 H45).bind λr50=>eu.l29 F dX gu gv gw fG jA FB Cv FC qU (wrap .i64 (n_+1)) r50.2) else ((gw Cv H26).bind λr51=>((r51.1).asSl).bind λs52=>some ((.sl s52),r51.2)))
termination_by structural n=>n
def eu.twX (dX:am7) (gu:am_) (gv:ani) (gw:am7) (aa:Sl) (ac:Int) (ah:Sl) (aF:Sl) (H:Hp):OA:=(Hp.new H [(.sl aa),(.int .i64 ac)]).bind λH5=>(Hp.new H5 [(.sl ah),(.sl aF)]).bind λH6=>(Hp.ldSl H6 H.length 0).bind λs7=>(dX s7 H6).bind λr8=>((r8.1).asI .i64).bind λn9=>(gu n9 r8.2).bind λr10=>((r10.1).asSl).bind λs11=>(Hp.ldSl r10.2 H5.length 0).bind λs12=>eu.l29 F dX gu gv gw F H5.length 0 s11 s12 (s12.n:Int) 0 r10.2
def eu.tw:=eu.twX F (fl.tw F) (eE.tw F) (da.tw F) (gr.tw F)
def eu.lh29 (dX:am7) (gu:am_) (gv:ani) (gw:am7) (ks:am6) (n:Nat) (tm:Tm) (H:Hp):OA:=match ks,tm 3,tm 5,tm 13,tm 14,tm 15 with
 | [],(.ptr jA FB),(.sl Cv),(.sl FC),(.int .i64 qU),(.int .i64 n_)=>eu.l29 F dX gu gv gw n jA FB Cv FC qU n_ H
 | _,_,_,_,_,_=>none
def eu.lh (dX:am7) (gu:am_) (gv:ani) (gw:am7) (p:Nat) (ks:am6) (n:Nat) (tm:Tm) (H:Hp):OA:=bif p.beq 29 then eu.lh29 F dX gu gv gw ks n tm H else (none)
def eu.pn:Nat->List Nat:=dM [(5,[9])]
def eu.tb:Nat->List (List Nat):=dM [(5,[[],[],[1],[],[3],[],[3,4,5],[3,4,5,6],[3,4,5,6,7],[0,1,2,3,4,5,6,7,8]])]
def eu.cs (F:Nat) (dX:am7) (gu:am_) (gv:ani) (gw:am7):Cs:=[(52,mk3 dX),(71,mk11 gu),(72,mk19 gv),(73,gr.mk gw)]
theorem eu.loops (dX:am7) (gu:am_) (gv:ani) (gw:am7):LO (bl (eu.cs F dX gu gv gw)) eu.pn (eu.lh F dX gu gv gw) F Tryz.f94:=
 (ae.rt (ae.rt (ae.lt (ae.rt (ae.block (ae.la (λn tm H r h=>by change eu.lh29 F dX gu gv gw [] n tm H=_ at h;unfold eu.lh29 at h;split at h;have e:c_ tm [(3,_),(5,_),(13,_),(14,_),(15,_)]:=⟨‹_›,‹_›,‹_›,‹_›,‹_›,trivial⟩;obtain _ | k29:=n;cases h;exact ⟨_,rfl,by rw [<- db e];exact Eq.trans (by kernel_rfl) h⟩;cases h) λk29=>ae.no))))))
theorem eu.eqX (dX:am7) (gu:am_) (gv:ani) (gw:am7) (aa:Sl) (ac:Int) (ah:Sl) (aF:Sl) (H:Hp):EX (bl (eu.cs F dX gu gv gw)) eu.pn (eu.lh F dX gu gv gw) F Tryz.f94 [(.agg [(.sl aa),(.int .i64 ac)]),(.agg [(.sl ah),(.sl aF)])] H=eu.twX F dX gu gv gw aa ac ah aF H:=by kernel_rfl
theorem eu.k:Ok Tryz.prog 94 (mk18 (eu.tw F)):=by
 intro args H v H' h
 unfold mk18 at h
 split at h
 ·exact okT (TB:=eu.tb) Tryz.func94 (aR (fl.k F) (aR (eE.k F) (aR (da.k F) (aR (gr.k F) cD)))) (eu.loops F (fl.tw F) (eE.tw F) (da.tw F) (gr.tw F)) ((eu.eqX F (fl.tw F) (eE.tw F) (da.tw F) (gr.tw F) _ _ _ _ H).trans h) (by kernel_rfl)
 ·cases h
def ee.l61 (F:Nat) :Nat->Sl->Int->Int->Hp->OA
 | 0,_,_,_,_=>none
 | fB+1,qT,mH,pI,H13=>(bif (decide (pI<(qT.n:Int))) then ((Sl.idx qT pI 1).bind λp16=>(Hp.ldI H13 .i64 p16.1 p16.2).bind λn17=>ee.l61 F fB qT (if n17>mH then n17 else mH) (wrap .i64 (pI+1)) H13) else (some ((.int .i64 mH),H13)))
def ee.j1 (Up:Sl) (H5:Hp):OA:=(Sl.idx Up 0 1).bind λp6=>(Hp.ldI H5 .i64 p6.1 p6.2).bind λn7=>ee.l61 F F Up n7 1 H5
def ee.twX (aa:Sl) (H:Hp):OA:=(bif (decide ((aa.n:Int)<1)) then (none) else (ee.j1 F aa H))
def ee.tw:=ee.twX F
def ee.lh61 (ks:am6) (n:Nat) (tm:Tm) (H:Hp):OA:=match ks,tm 0,tm 3,tm 4 with
 | [],(.sl qT),(.int .i64 mH),(.int .i64 pI)=>ee.l61 F n qT mH pI H
 | _,_,_,_=>none
def ee.lh (p:Nat) (ks:am6) (n:Nat) (tm:Tm) (H:Hp):OA:=bif p.beq 61 then ee.lh61 F ks n tm H else (none)
theorem ee.loops:LO (bl []) bf (ee.lh F) F Tryz.f95:=
 (ae.rt (ae.rt (ae.rt (ae.lt (ae.rt (ae.block (ae.la (λn tm H r h=>by change ee.lh61 F [] n tm H=_ at h;unfold ee.lh61 at h;split at h;have e:c_ tm [(0,_),(3,_),(4,_)]:=⟨‹_›,‹_›,‹_›,trivial⟩;obtain _ | k61:=n;cases h;exact ⟨_,rfl,by rw [<- db e];exact Eq.trans (by kernel_rfl) h⟩;cases h) λk61=>ae.no)))))))
theorem ee.k:Ok Tryz.prog 95 (mk3 (ee.tw F)):=by
 intro args H v H' h
 unfold mk3 at h
 split at h
 ·exact okT (PN:=bf) (LH:=(ee.lh F)) (F:=F) (TB:=bf) Tryz.func95 cD (ee.loops F) (Eq.trans (by kernel_rfl) h) (by kernel_rfl)
 ·cases h
def ic.twX (F:Nat) (zt:am7) (aa:Sl) (H:Hp):OA:=(bif ((aa.n:Int)==0) then (some ((.int .i64 0),H)) else ((zt aa H).bind λr2=>((r2.1).asI .i64).bind λn3=>some ((.int .i64 (wrap .i64 (n3+1))),r2.2)))
def ic.tw:=ic.twX F (ee.tw F)
def ic.cs (F:Nat) (zt:am7):Cs:=[(95,mk3 zt)]
theorem ic.eqX (zt:am7) (aa:Sl) (H:Hp):EX (bl (ic.cs F zt)) bf lh0 F Tryz.f74 [(.sl aa)] H=ic.twX F zt aa H:=by kernel_rfl
theorem ic.k:Ok Tryz.prog 74 (mk3 (ic.tw F)):=by
 intro args H v H' h
 unfold mk3 at h
 split at h
 ·exact okT (TB:=bf) Tryz.func74 (aR (ee.k F) cD) ae.no ((ic.eqX F (ee.tw F) _ H).trans h) (by kernel_rfl)
 ·cases h
def gM.twX (F:Nat) (dX:am7) (jf:ang) (zu:am7) (zw:am8) (zx:anJ) (zy:am7) (zA:anJ) (jp:am7) (aa:Sl) (ac:Int) (H:Hp):OA:=(Hp.new H [(.sl aa),(.int .i64 ac)]).bind λH3=>(Hp.new H3 [.sl ⟨none,0,.ex 0⟩,.sl ⟨none,0,.ex 0⟩]).bind λH4=>(Hp.ldSl H4 H.length 0).bind λs5=>(dX s5 H4).bind λr6=>((r6.1).asI .i64).bind λn7=>(bif (decide (n7>10)) then ((Hp.st r6.2 H3.length 0 (.sl (⟨none,0,.ex 0⟩:Sl))).bind λH8=>(Hp.st H8 H3.length (0+1) (.sl (⟨none,0,.ex 0⟩:Sl))).bind λH9=>(Hp.ldSl H9 H3.length 0).bind λs10=>(Hp.ldSl H9 H3.length (0+1)).bind λs11=>some ((.tup [(.agg [(.sl s10),(.sl s11)]),(.bool false)]),H9)) else ((Hp.ldI r6.2 .i64 H.length 1).bind λn12=>(jf n12 0 8 r6.2).bind λr13=>((r13.1).asB).bind λb14=>(bif (!b14) then ((Hp.st r13.2 H3.length 0 (.sl (⟨none,0,.ex 0⟩:Sl))).bind λH15=>(Hp.st H15 H3.length (0+1) (.sl (⟨none,0,.ex 0⟩:Sl))).bind λH16=>(Hp.ldSl H16 H3.length 0).bind λs17=>(Hp.ldSl H16 H3.length (0+1)).bind λs18=>some ((.tup [(.agg [(.sl s17),(.sl s18)]),(.bool false)]),H16)) else ((Hp.ldSl r13.2 H.length 0).bind λs19=>(zu s19 r13.2).bind λr20=>((r20.1).asB).bind λb21=>(bif b21 then ((Hp.st r20.2 H3.length 0 (.sl (⟨none,0,.ex 0⟩:Sl))).bind λH22=>(Hp.st H22 H3.length (0+1) (.sl (⟨none,0,.ex 0⟩:Sl))).bind λH23=>(Hp.ldSl H23 H3.length 0).bind λs24=>(Hp.ldSl H23 H3.length (0+1)).bind λs25=>some ((.tup [(.agg [(.sl s24),(.sl s25)]),(.bool false)]),H23)) else ((Hp.ldSl r20.2 H.length 0).bind λs26=>(Hp.ldI r20.2 .i64 H.length (0+1)).bind λn27=>(zw s26 n27 r20.2).bind λr28=>((r28.1).asTup 2).bind λl29=>(l29[0]?).bind λv30=>((v30).asAgg 2).bind λl31=>(l31[0]?).bind λv32=>((v32).asSl).bind λs33=>(l31[1]?).bind λv34=>((v34).asSl).bind λs35=>(l29[1]?).bind λv36=>((v36).asB).bind λb37=>(Hp.new r28.2 [.sl ⟨none,0,.ex 0⟩,.sl ⟨none,0,.ex 0⟩]).bind λH38=>(Hp.st H38 r28.2.length 0 (.sl s33)).bind λH39=>(Hp.st H39 r28.2.length (0+1) (.sl s35)).bind λH40=>(bif (!b37) then ((Hp.st H40 H3.length 0 (.sl (⟨none,0,.ex 0⟩:Sl))).bind λH41=>(Hp.st H41 H3.length (0+1) (.sl (⟨none,0,.ex 0⟩:Sl))).bind λH42=>(Hp.ldSl H42 H3.length 0).bind λs43=>(Hp.ldSl H42 H3.length (0+1)).bind λs44=>some ((.tup [(.agg [(.sl s43),(.sl s44)]),(.bool false)]),H42)) else ((Hp.ldSl H40 H.length 0).bind λs45=>(Hp.ldI H40 .i64 H.length (0+1)).bind λn46=>(Hp.ldSl H40 r28.2.length 0).bind λs47=>(Hp.ldSl H40 r28.2.length (0+1)).bind λs48=>(zx s45 n46 s47 s48 H40).bind λr49=>((r49.1).asSl).bind λs50=>(if bo H40 r49.2 then ((zy s50 r49.2).bind λr51=>((r51.1).asI .i64).bind λn52=>(if bo r49.2 r51.2 then ((Hp.ldSl r51.2 H.length 0).bind λs53=>(Hp.ldI r51.2 .i64 H.length (0+1)).bind λn54=>(Hp.ldSl r51.2 r28.2.length 0).bind λs55=>(Hp.ldSl r51.2 r28.2.length (0+1)).bind λs56=>(zA s53 n54 s55 s56 r51.2).bind λr57=>((r57.1).asSl).bind λs58=>(jp s58 r57.2).bind λr59=>((r59.1).asI .i64).bind λn60=>(bif (n52 != (wrap .i64 (n7+(wrap .i64 (2 * n60))))) then ((Hp.st r59.2 H3.length 0 (.sl (⟨none,0,.ex 0⟩:Sl))).bind λH61=>(Hp.st H61 H3.length (0+1) (.sl (⟨none,0,.ex 0⟩:Sl))).bind λH62=>(Hp.ldSl H62 H3.length 0).bind λs63=>(Hp.ldSl H62 H3.length (0+1)).bind λs64=>some ((.tup [(.agg [(.sl s63),(.sl s64)]),(.bool false)]),H62)) else ((Hp.ldSl r59.2 r28.2.length 0).bind λs65=>(Hp.ldSl r59.2 r28.2.length (0+1)).bind λs66=>(Hp.st r59.2 H3.length 0 (.sl s65)).bind λH67=>(Hp.st H67 H3.length (0+1) (.sl s66)).bind λH68=>(Hp.ldSl H68 H3.length 0).bind λs69=>(Hp.ldSl H68 H3.length (0+1)).bind λs70=>some ((.tup [(.agg [(.sl s69),(.sl s70)]),(.bool true)]),H68)))) else none)) else none)))))))))
def gM.tw:=gM.twX F (fl.tw F) (gq.tw F) (jQ.tw F) (cG.tw F) (bH.tw F) (md.tw F) (eu.tw F) (ic.tw F)
def gM.pn:Nat->List Nat:=dM [(5,[10,11])]
def gM.tb:Nat->List (List Nat):=dM [(5,[[],[0],[0,1],[0,1,2],[0,1,2],[0,1,2,3,4],[0,1,2,3,4,5],[0,1,2],[0,1,2],[0,1,2],[0,1,2,3,4,5,6,8,9],[0,1,2,3,4,5,6,8,9,10],[0,1,2,3,4,5,6,8,9,10,11],[0,1,2,3,4,5,6,7,8,9,10,11,12],[0,1,2,3,4,5,6,7,8,9,10,11,12,13],[0,1,2,3,4,5,6,7,8,9,10,11,12,13,14]])]
def gM.cs (F:Nat) (dX:am7) (jf:ang) (zu:am7) (zw:am8) (zx:anJ) (zy:am7) (zA:anJ) (jp:am7):Cs:=[(52,mk3 dX),(70,mk5 jf),(89,mk15 zu),(91,mk4 zw),(93,mk18 zx),(92,mk3 zy),(94,mk18 zA),(74,mk3 jp)]
theorem gM.eqX (dX:am7) (jf:ang) (zu:am7) (zw:am8) (zx:anJ) (zy:am7) (zA:anJ) (jp:am7) (aa:Sl) (ac:Int) (H:Hp):EX (bl (gM.cs F dX jf zu zw zx zy zA jp)) gM.pn lh0 F Tryz.f69 [(.agg [(.sl aa),(.int .i64 ac)])] H=gM.twX F dX jf zu zw zx zy zA jp aa ac H:=by kernel_rfl
theorem gM.k:Ok Tryz.prog 69 (mk4 (gM.tw F)):=by
 intro args H v H' h
 unfold mk4 at h
 split at h
 ·exact okT (TB:=gM.tb) Tryz.func69 (aR (fl.k F) (aR (gq.k F) (aR (jQ.k F) (aR (cG.k F) (aR (bH.k F) (aR (md.k F) (aR (eu.k F) (aR (ic.k F) cD)))))))) ae.no ((gM.eqX F (fl.tw F) (gq.tw F) (jQ.tw F) (cG.tw F) (bH.tw F) (md.tw F) (eu.tw F) (ic.tw F) _ _ H).trans h) (by kernel_rfl)
 ·cases h
def jq.twX (F:Nat) (zB:am8) (aa:Sl) (ac:Int) (H:Hp):OA:=(Hp.new H [(.sl aa),(.int .i64 ac)]).bind λH3=>(Hp.ldSl H3 H.length 0).bind λs4=>(Hp.ldI H3 .i64 H.length (0+1)).bind λn5=>(zB s4 n5 H3).bind λr6=>((r6.1).asTup 2).bind λl7=>(l7[0]?).bind λv8=>((v8).asAgg 2).bind λl9=>(l9[0]?).bind λv10=>((v10).asSl).bind λs11=>(l9[1]?).bind λv12=>((v12).asSl).bind λs13=>(l7[1]?).bind λv14=>((v14).asB).bind λb15=>(Hp.new r6.2 [.sl ⟨none,0,.ex 0⟩,.sl ⟨none,0,.ex 0⟩]).bind λH16=>(Hp.st H16 r6.2.length 0 (.sl s11)).bind λH17=>(Hp.st H17 r6.2.length (0+1) (.sl s13)).bind λH18=>some ((.bool b15),H18)
def jq.tw:=jq.twX F (gM.tw F)
def jq.cs (F:Nat) (zB:am8):Cs:=[(69,mk4 zB)]
theorem jq.eqX (zB:am8) (aa:Sl) (ac:Int) (H:Hp):EX (bl (jq.cs F zB)) bf lh0 F Tryz.f48 [(.agg [(.sl aa),(.int .i64 ac)])] H=jq.twX F zB aa ac H:=by kernel_rfl
theorem jq.k:Ok Tryz.prog 48 (mk4 (jq.tw F)):=by
 intro args H v H' h
 unfold mk4 at h
 split at h
 ·exact okT (TB:=bf) Tryz.func48 (aR (gM.k F) cD) ae.no ((jq.eqX F (gM.tw F) _ _ H).trans h) (by kernel_rfl)
 ·cases h
def mf.twX (F:Nat) (aa:Sl) (ac:Int) (H:Hp):OA:=(Hp.new H [(.sl aa),(.int .i64 ac)]).bind λH3=>(Hp.ldSl H3 H.length 0).bind λs4=>(bif ((s4.n:Int)==0) then ((Hp.ldI H3 .i64 H.length 1).bind λn5=>some ((.bool (n5==0)),H3)) else (some ((.bool false),H3)))
def mf.tw:=mf.twX F
theorem mf.k:Ok Tryz.prog 59 (mk4 (mf.tw F)):=by
 intro args H v H' h
 unfold mk4 at h
 split at h
 ·exact ok0 Tryz.func59 (Eq.trans (by kernel_rfl) h) (by kernel_rfl) (by kernel_rfl)
 ·cases h
def jZ.twX (F:Nat) (zC:am8) (zD:am8) (aa:Sl) (ac:Int) (H:Hp):OA:=(Hp.new H [(.sl aa),(.int .i64 ac)]).bind λH3=>(Hp.ldSl H3 H.length 0).bind λs4=>(Hp.ldI H3 .i64 H.length (0+1)).bind λn5=>(zC s4 n5 H3).bind λr6=>((r6.1).asB).bind λb7=>(bif (!b7) then (some ((.int .i64 1),r6.2)) else ((Hp.ldSl r6.2 H.length 0).bind λs8=>(Hp.ldI r6.2 .i64 H.length (0+1)).bind λn9=>(zD s8 n9 r6.2).bind λr10=>((r10.1).asB).bind λb11=>(bif b11 then (some ((.int .i64 5),r10.2)) else (some ((.int .i64 0),r10.2)))))
def jZ.tw:=jZ.twX F (jq.tw F) (mf.tw F)
def jZ.cs (F:Nat) (zC:am8) (zD:am8):Cs:=[(48,mk4 zC),(59,mk4 zD)]
theorem jZ.eqX (zC:am8) (zD:am8) (aa:Sl) (ac:Int) (H:Hp):EX (bl (jZ.cs F zC zD)) bf lh0 F Tryz.f34 [(.agg [(.sl aa),(.int .i64 ac)])] H=jZ.twX F zC zD aa ac H:=by kernel_rfl
theorem jZ.k:Ok Tryz.prog 34 (mk4 (jZ.tw F)):=by
 intro args H v H' h
 unfold mk4 at h
 split at h
 ·exact okT (TB:=bf) Tryz.func34 (aR (jq.k F) (aR (mf.k F) cD)) ae.no ((jZ.eqX F (jq.tw F) (mf.tw F) _ _ H).trans h) (by kernel_rfl)
 ·cases h
def dz.j1 (F:Nat) (dX:am7) (gu:am_) (gv:ani) (gw:am7) (jp:am7) (FD:Nat) (ad6:Nat) (ad7:Sl) (H47:Hp):OA:=(gw ad7 H47).bind λr48=>((r48.1).asSl).bind λs49=>(jp s49 r48.2).bind λr50=>((r50.1).asI .i64).bind λn51=>(if bo r48.2 r50.2 then ((Hp.ldI r50.2 .i64 FD (ad6+1)).bind λn52=>some ((.tup [(.sl s49),(.int .i64 (wrap .i64 (n51+n52)))]),r50.2)) else none)
def dz.l29 (F:Nat) (dX:am7) (gu:am_) (gv:ani) (gw:am7) (jp:am7) :Nat->Nat->Nat->Sl->Sl->Int->Int->Hp->OA
 | 0,_,_,_,_,_,_,_=>none
 | fG+1,ua,eY,Cw,FE,qV,pJ,H20=>(bif (decide (pJ<qV)) then ((Sl.idx FE pJ 5).bind λp53=>(Hp.ldI H20 .i64 p53.1 p53.2).bind λn54=>(Hp.ldI H20 .i64 p53.1 (p53.2+1)).bind λn55=>(Hp.ldI H20 .i64 p53.1 (p53.2+2)).bind λn56=>(Hp.ldI H20 .i64 p53.1 (p53.2+3)).bind λn57=>(Hp.ldI H20 .i64 p53.1 (p53.2+4)).bind λn58=>(Hp.new H20 [.int .i64 0,.int .i64 0,.int .i64 0,.int .i64 0,.int .i64 0]).bind λH59=>(Hp.st H59 H20.length 0 (.int .i64 n54)).bind λH60=>(Hp.st H60 H20.length (0+1) (.int .i64 n55)).bind λH61=>(Hp.st H61 H20.length (0+1+1) (.int .i64 n56)).bind λH62=>(Hp.st H62 H20.length (0+1+1+1) (.int .i64 n57)).bind λH63=>(Hp.st H63 H20.length (0+1+1+1+1) (.int .i64 n58)).bind λH64=>(Hp.ldI H64 .i64 H20.length 1).bind λn65=>(Hp.ldI H64 .i64 H20.length 3).bind λn66=>(gv Cw n65 n66 H64).bind λr67=>dz.l29 F dX gu gv gw jp fG ua eY Cw FE qV (wrap .i64 (pJ+1)) r67.2) else (dz.j1 F dX gu gv gw jp ua eY Cw H20))
termination_by structural n=>n
def dz.twX (dX:am7) (gu:am_) (gv:ani) (gw:am7) (jp:am7) (aa:Sl) (ac:Int) (H:Hp):OA:=(Hp.new H [(.sl aa),(.int .i64 ac)]).bind λH3=>(Hp.ldSl H3 H.length 0).bind λs4=>(dX s4 H3).bind λr5=>((r5.1).asI .i64).bind λn6=>(gu (wrap .i64 (2 * n6)) r5.2).bind λr7=>((r7.1).asSl).bind λs8=>(Hp.ldSl r7.2 H.length 0).bind λs9=>dz.l29 F dX gu gv gw jp F H.length 0 s8 s9 (s9.n:Int) 0 r7.2
def dz.tw:=dz.twX F (fl.tw F) (eE.tw F) (da.tw F) (gr.tw F) (ic.tw F)
def dz.lh29 (dX:am7) (gu:am_) (gv:ani) (gw:am7) (jp:am7) (ks:am6) (n:Nat) (tm:Tm) (H:Hp):OA:=match ks,tm 1,tm 4,tm 14,tm 15,tm 16 with
 | [],(.ptr ua eY),(.sl Cw),(.sl FE),(.int .i64 qV),(.int .i64 pJ)=>dz.l29 F dX gu gv gw jp n ua eY Cw FE qV pJ H
 | _,_,_,_,_,_=>none
def dz.lh (dX:am7) (gu:am_) (gv:ani) (gw:am7) (jp:am7) (p:Nat) (ks:am6) (n:Nat) (tm:Tm) (H:Hp):OA:=bif p.beq 29 then dz.lh29 F dX gu gv gw jp ks n tm H else (none)
def dz.tb:Nat->List (List Nat):=dM [(8,[[],[],[1],[],[3],[1,2,3,4],[0,1,2],[0,1,2,3,4,5,6]])]
def dz.cs (F:Nat) (dX:am7) (gu:am_) (gv:ani) (gw:am7) (jp:am7):Cs:=[(52,mk3 dX),(71,mk11 gu),(72,mk19 gv),(73,gr.mk gw),(74,mk3 jp)]
theorem dz.loops (dX:am7) (gu:am_) (gv:ani) (gw:am7) (jp:am7):LO (bl (dz.cs F dX gu gv gw jp)) bf (dz.lh F dX gu gv gw jp) F Tryz.f50:=
 (ae.rt (ae.rt (ae.lt (ae.rt (ae.block (ae.la (λn tm H r h=>by change dz.lh29 F dX gu gv gw jp [] n tm H=_ at h;unfold dz.lh29 at h;split at h;have e:c_ tm [(1,_),(4,_),(14,_),(15,_),(16,_)]:=⟨‹_›,‹_›,‹_›,‹_›,‹_›,trivial⟩;obtain _ | k29:=n;cases h;exact ⟨_,rfl,by rw [<- db e];exact Eq.trans (by kernel_rfl) h⟩;cases h) λk29=>ae.no))))))
theorem dz.eqX (dX:am7) (gu:am_) (gv:ani) (gw:am7) (jp:am7) (aa:Sl) (ac:Int) (H:Hp):EX (bl (dz.cs F dX gu gv gw jp)) bf (dz.lh F dX gu gv gw jp) F Tryz.f50 [(.agg [(.sl aa),(.int .i64 ac)])] H=dz.twX F dX gu gv gw jp aa ac H:=by kernel_rfl
theorem dz.k:Ok Tryz.prog 50 (mk4 (dz.tw F)):=by
 intro args H v H' h
 unfold mk4 at h
 split at h
 ·exact okT (TB:=dz.tb) Tryz.func50 (aR (fl.k F) (aR (eE.k F) (aR (da.k F) (aR (gr.k F) (aR (ic.k F) cD))))) (dz.loops F (fl.tw F) (eE.tw F) (da.tw F) (gr.tw F) (ic.tw F)) ((dz.eqX F (fl.tw F) (eE.tw F) (da.tw F) (gr.tw F) (ic.tw F) _ _ H).trans h) (by kernel_rfl)
 ·cases h
def gl.twX (F:Nat) (aa:Int) (au:Int) (H:Hp):OA:=(Hp.new H [.int .i64 0,.int .i64 0,.sl ⟨none,0,.ex 0⟩]).bind λH3=>(Hp.mk H3 [.int .i64 0] 8 (wrap .i64 (aa * au)) (wrap .i64 (aa * au))).bind λm4=>(Hp.st m4.2 H.length 0 (.int .i64 aa)).bind λH5=>(Hp.st H5 H.length (0+1) (.int .i64 au)).bind λH6=>(Hp.st H6 H.length (0+1+1) (.sl m4.1)).bind λH7=>(Hp.ldI H7 .i64 H.length 0).bind λn8=>(Hp.ldI H7 .i64 H.length (0+1)).bind λn9=>(Hp.ldSl H7 H.length (0+2)).bind λs10=>some ((.agg [(.int .i64 n8),(.int .i64 n9),(.sl s10)]),H7)
def gl.tw:=gl.twX F
theorem gl.k:Ok Tryz.prog 51 (mk8 (gl.tw F)):=by
 intro args H v H' h
 unfold mk8 at h
 split at h
 ·exact ok0 Tryz.func51 (Eq.trans (by kernel_rfl) h) (by kernel_rfl) (by kernel_rfl)
 ·cases h
def bY.twX (F:Nat) (aa:Int) (ac:Int) (aZ:Sl) (aF:Int) (ch:Int) (H:Hp):OA:=(Hp.new H [(.int .i64 aa),(.int .i64 ac),(.sl aZ)]).bind λH6=>(Hp.ldSl H6 H.length 2).bind λs7=>(Hp.ldI H6 .i64 H.length 1).bind λn8=>(Sl.idx s7 (wrap .i64 ((wrap .i64 (aF * n8))+ch)) 1).bind λp9=>some ((.ptr p9.1 p9.2),H6)
def bY.tw:=bY.twX F
theorem bY.k:Ok Tryz.prog 53 (mk9 (bY.tw F)):=by
 intro args H v H' h
 unfold mk9 at h
 split at h
 ·exact ok0 Tryz.func53 (Eq.trans (by kernel_rfl) h) (by kernel_rfl) (by kernel_rfl)
 ·cases h
def eB.l61 (F:Nat) (mL:am8) (dX:am7) (dQ:ana) (aj:am4) :Nat->Nat->Nat->Sl->Nat->Nat->Sl->Int->Int->Hp->OA
 | 0,_,_,_,_,_,_,_,_,_=>none
 | fB+1,pK,sT,zE,mg,oa,FF,qW,mh,H42=>(bif (decide (mh<qW)) then ((Sl.idx FF mh 5).bind λp94=>(Hp.ldI H42 .i64 p94.1 p94.2).bind λn95=>(Hp.ldI H42 .i64 p94.1 (p94.2+1)).bind λn96=>(Hp.ldI H42 .i64 p94.1 (p94.2+2)).bind λn97=>(Hp.ldI H42 .i64 p94.1 (p94.2+3)).bind λn98=>(Hp.ldI H42 .i64 p94.1 (p94.2+4)).bind λn99=>(Hp.new H42 [.int .i64 0,.int .i64 0,.int .i64 0,.int .i64 0,.int .i64 0]).bind λH100=>(Hp.st H100 H42.length 0 (.int .i64 n95)).bind λH101=>(Hp.st H101 H42.length (0+1) (.int .i64 n96)).bind λH102=>(Hp.st H102 H42.length (0+1+1) (.int .i64 n97)).bind λH103=>(Hp.st H103 H42.length (0+1+1+1) (.int .i64 n98)).bind λH104=>(Hp.st H104 H42.length (0+1+1+1+1) (.int .i64 n99)).bind λH105=>(Hp.ldI H105 .i64 mg oa).bind λn106=>(Hp.ldI H105 .i64 mg (oa+1)).bind λn107=>(Hp.ldSl H105 mg (oa+2)).bind λs108=>(Hp.ldI H105 .i64 H42.length 1).bind λn109=>(Sl.idx zE n109 1).bind λp110=>(Hp.ldI H105 .i64 p110.1 p110.2).bind λn111=>(aj n106 n107 s108 mh n111 H105).bind λr112=>((r112.1).asP).bind λp113=>(Hp.ldI r112.2 .i64 p113.1 p113.2).bind λn114=>(Hp.st r112.2 p113.1 p113.2 (.int .i64 (wrap .i64 (n114+2)))).bind λH115=>(Hp.ldI H115 .i64 mg oa).bind λn116=>(Hp.ldI H115 .i64 mg (oa+1)).bind λn117=>(Hp.ldSl H115 mg (oa+2)).bind λs118=>(Hp.ldI H115 .i64 H42.length 0).bind λn119=>(Sl.idx zE n119 1).bind λp120=>(Hp.ldI H115 .i64 p120.1 p120.2).bind λn121=>(aj n116 n117 s118 mh n121 H115).bind λr122=>((r122.1).asP).bind λp123=>(Hp.ldI r122.2 .i64 p123.1 p123.2).bind λn124=>(Hp.st r122.2 p123.1 p123.2 (.int .i64 (wrap .i64 (n124 - 1)))).bind λH125=>(Hp.ldI H125 .i64 mg oa).bind λn126=>(Hp.ldI H125 .i64 mg (oa+1)).bind λn127=>(Hp.ldSl H125 mg (oa+2)).bind λs128=>(Hp.ldI H125 .i64 H42.length 2).bind λn129=>(Sl.idx zE n129 1).bind λp130=>(Hp.ldI H125 .i64 p130.1 p130.2).bind λn131=>(aj n126 n127 s128 mh n131 H125).bind λr132=>((r132.1).asP).bind λp133=>(Hp.ldI r132.2 .i64 p133.1 p133.2).bind λn134=>(Hp.st r132.2 p133.1 p133.2 (.int .i64 (wrap .i64 (n134 - 1)))).bind λH135=>eB.l61 F mL dX dQ aj fB pK sT zE mg oa FF qW (wrap .i64 (mh+1)) H135) else ((Hp.ldI H42 .i64 mg oa).bind λn136=>(Hp.ldI H42 .i64 mg (oa+1)).bind λn137=>(Hp.ldSl H42 mg (oa+2)).bind λs138=>(Hp.st H42 pK sT (.int .i64 n136)).bind λH139=>(Hp.st H139 pK (sT+1) (.int .i64 n137)).bind λH140=>(Hp.st H140 pK (sT+1+1) (.sl s138)).bind λH141=>(Hp.ldI H141 .i64 pK sT).bind λn142=>(Hp.ldI H141 .i64 pK (sT+1)).bind λn143=>(Hp.ldSl H141 pK (sT+2)).bind λs144=>some ((.agg [(.int .i64 n142),(.int .i64 n143),(.sl s144)]),H141)))
termination_by structural n=>n
def eB.twX (mL:am8) (dX:am7) (dQ:ana) (aj:am4) (aa:Sl) (ac:Int) (H:Hp):OA:=(Hp.new H [(.sl aa),(.int .i64 ac)]).bind λH3=>(Hp.new H3 [.int .i64 0,.int .i64 0,.sl ⟨none,0,.ex 0⟩]).bind λH4=>(Hp.ldSl H4 H.length 0).bind λs5=>(Hp.ldI H4 .i64 H.length (0+1)).bind λn6=>(mL s5 n6 H4).bind λr7=>((r7.1).asTup 2).bind λl8=>(l8[0]?).bind λv9=>((v9).asSl).bind λs10=>(l8[1]?).bind λv11=>((v11).asI .i64).bind λn12=>(Hp.ldSl r7.2 H.length 0).bind λs13=>(dX s13 r7.2).bind λr14=>((r14.1).asI .i64).bind λn15=>(dQ n15 n12 r14.2).bind λr16=>((r16.1).asAgg 3).bind λl17=>(l17[0]?).bind λv18=>((v18).asI .i64).bind λn19=>(l17[1]?).bind λv20=>((v20).asI .i64).bind λn21=>(l17[2]?).bind λv22=>((v22).asSl).bind λs23=>(Hp.new r16.2 [.int .i64 0,.int .i64 0,.sl ⟨none,0,.ex 0⟩]).bind λH24=>(Hp.st H24 r16.2.length 0 (.int .i64 n19)).bind λH25=>(Hp.st H25 r16.2.length (0+1) (.int .i64 n21)).bind λH26=>(Hp.st H26 r16.2.length (0+1+1) (.sl s23)).bind λH27=>(Hp.ldSl H27 H.length 0).bind λs28=>eB.l61 F mL dX dQ aj F H3.length 0 s10 r16.2.length 0 s28 (s28.n:Int) 0 H27
def eB.tw:=eB.twX F (dz.tw F) (fl.tw F) (gl.tw F) (bY.tw F)
def eB.lh61 (mL:am8) (dX:am7) (dQ:ana) (aj:am4) (ks:am6) (n:Nat) (tm:Tm) (H:Hp):OA:=match ks,tm 2,tm 3,tm 5,tm 19,tm 20,tm 21 with
 | [],(.ptr pK sT),(.sl zE),(.ptr mg oa),(.sl FF),(.int .i64 qW),(.int .i64 mh)=>eB.l61 F mL dX dQ aj n pK sT zE mg oa FF qW mh H
 | _,_,_,_,_,_,_=>none
def eB.lh (mL:am8) (dX:am7) (dQ:ana) (aj:am4) (p:Nat) (ks:am6) (n:Nat) (tm:Tm) (H:Hp):OA:=bif p.beq 61 then eB.lh61 F mL dX dQ aj ks n tm H else (none)
def eB.pn:Nat->List Nat:=dM [(6,[7,12]),(7,[7,12]),(8,[7,12])]
def eB.tb:Nat->List (List Nat):=dM [(6,[[],[],[],[],[3],[2,3,4],[2,3,4,5],[0,1,2,3,4,5,6],[0,1,2,3,4,5,6,7],[0,1,2,3,4,5,6,7,8],[0,1,2,3,4,5,6,7,8,9],[0,1,2,3,4,5,6,7,8,9,10],[0,1,2,3,4,5,6,7,8,9,10,11]]),(7,[[],[],[],[],[3],[2,3,4],[2,3,4,5],[0,1,2,3,4,5,6],[0,1,2,3,4,5,6,7],[0,1,2,3,4,5,6,7,8],[0,1,2,3,4,5,6,7,8,9],[0,1,2,3,4,5,6,7,8,9,10],[0,1,2,3,4,5,6,7,8,9,10,11]]),(8,[[],[],[],[],[3],[2,3,4],[2,3,4,5],[0,1,2,3,4,5,6],[0,1,2,3,4,5,6,7],[0,1,2,3,4,5,6,7,8],[0,1,2,3,4,5,6,7,8,9],[0,1,2,3,4,5,6,7,8,9,10],[0,1,2,3,4,5,6,7,8,9,10,11]])]
def eB.cs (F:Nat) (mL:am8) (dX:am7) (dQ:ana) (aj:am4):Cs:=[(50,mk4 mL),(52,mk3 dX),(51,mk8 dQ),(53,mk9 aj)]
theorem eB.loops (mL:am8) (dX:am7) (dQ:ana) (aj:am4):LO (bl (eB.cs F mL dX dQ aj)) eB.pn (eB.lh F mL dX dQ aj) F Tryz.f25:=
 (ae.rt (ae.rt (ae.rt (ae.lt (ae.rt (ae.block (ae.la (λn tm H r h=>by change eB.lh61 F mL dX dQ aj [] n tm H=_ at h;unfold eB.lh61 at h;split at h;have e:c_ tm [(2,_),(3,_),(5,_),(19,_),(20,_),(21,_)]:=⟨‹_›,‹_›,‹_›,‹_›,‹_›,‹_›,trivial⟩;obtain _ | k61:=n;cases h;exact ⟨_,rfl,by rw [<- db e];exact Eq.trans (by kernel_rfl) h⟩;cases h) λk61=>ae.no)))))))
theorem eB.eqX (mL:am8) (dX:am7) (dQ:ana) (aj:am4) (aa:Sl) (ac:Int) (H:Hp):EX (bl (eB.cs F mL dX dQ aj)) eB.pn (eB.lh F mL dX dQ aj) F Tryz.f25 [(.agg [(.sl aa),(.int .i64 ac)])] H=eB.twX F mL dX dQ aj aa ac H:=by kernel_rfl
theorem eB.k:Ok Tryz.prog 25 (mk4 (eB.tw F)):=by
 intro args H v H' h
 unfold mk4 at h
 split at h
 ·exact okT (TB:=eB.tb) Tryz.func25 (aR (dz.k F) (aR (fl.k F) (aR (gl.k F) (aR (bY.k F) cD)))) (eB.loops F (dz.tw F) (fl.tw F) (gl.tw F) (bY.tw F)) ((eB.eqX F (dz.tw F) (fl.tw F) (gl.tw F) (bY.tw F) _ _ H).trans h) (by kernel_rfl)
 ·cases h
def jB.twX (F:Nat) (aa:Sl) (H:Hp):OA:=some ((.int .i64 (aa.n:Int)),H)
def jB.tw:=jB.twX F
theorem jB.k:Ok Tryz.prog 27 (mk3 (jB.tw F)):=by
 intro args H v H' h
 unfold mk3 at h
 split at h
 ·exact ok0 Tryz.func27 (Eq.trans (by kernel_rfl) h) (by kernel_rfl) (by kernel_rfl)
 ·cases h
def jC.twX (F:Nat) (jf:ang) (aa:Int) (H:Hp):OA:=(jf aa (-1000000000000) 1000000000000 H).bind λr2=>((r2.1).asB).bind λb3=>some ((.bool (!b3)),r2.2)
def jC.tw:=jC.twX F (gq.tw F)
def jC.cs (F:Nat) (jf:ang):Cs:=[(70,mk5 jf)]
theorem jC.eqX (jf:ang) (aa:Int) (H:Hp):EX (bl (jC.cs F jf)) bf lh0 F Tryz.f79 [(.int .i64 aa)] H=jC.twX F jf aa H:=by kernel_rfl
theorem jC.k:Ok Tryz.prog 79 (mk11 (jC.tw F)):=by
 intro args H v H' h
 unfold mk11 at h
 split at h
 ·exact okT (TB:=bf) Tryz.func79 (aR (gq.k F) cD) ae.no ((jC.eqX F (gq.tw F) _ H).trans h) (by kernel_rfl)
 ·cases h
def eV.l13 (F:Nat) (mM:am_) :Nat->Sl->Int->Int->Hp->OA
 | 0,_,_,_,_=>none
 | jc+1,l_,fm,ed,H6=>(bif (decide (ed<fm)) then ((Sl.idx l_ ed 1).bind λp11=>(Hp.ldI H6 .i64 p11.1 p11.2).bind λn12=>(mM n12 H6).bind λr13=>((r13.1).asB).bind λb14=>(bif b14 then (some ((.int .i64 ed),r13.2)) else (eV.l13 F mM jc l_ fm (wrap .i64 (ed+1)) r13.2))) else (some ((.int .i64 (-1)),H6)))
def eV.twX (mM:am_) (aa:Sl) (H:Hp):OA:=eV.l13 F mM F aa (aa.n:Int) 0 H
def eV.tw:=eV.twX F (jC.tw F)
def eV.lh13 (mM:am_) (ks:am6) (n:Nat) (tm:Tm) (H:Hp):OA:=match ks,tm 0,tm 1,tm 7,tm 8 with
 | [],(.sl l_),(.fn 79 []),(.int .i64 fm),(.int .i64 ed)=>eV.l13 F mM n l_ fm ed H
 | _,_,_,_,_=>none
def eV.lh (mM:am_) (p:Nat) (ks:am6) (n:Nat) (tm:Tm) (H:Hp):OA:=bif p.beq 13 then eV.lh13 F mM ks n tm H else (none)
def mk20 (g:am7) (args:anb) (H:Hp):OA:=match args with
 | [(.sl aa),(.fn 79 [])]=>g aa H
 | _=>none
theorem mk20_E (g:am7) (aa:Sl) (H:Hp):mk20 g [(.sl aa),(.fn 79 [])] H=g aa H:=rfl
def eV.cs (F:Nat) (mM:am_):Cs:=[(79,mk11 mM)]
theorem eV.loops (mM:am_):LO (bl (eV.cs F mM)) bf (eV.lh F mM) F Tryz.f103:=
 (ae.rt (ae.lt (ae.rt (ae.block (ae.la (λn tm H r h=>by change eV.lh13 F mM [] n tm H=_ at h;unfold eV.lh13 at h;split at h;have e:c_ tm [(0,_),(1,_),(7,_),(8,_)]:=⟨‹_›,‹_›,‹_›,‹_›,trivial⟩;obtain _ | k13:=n;cases h;exact ⟨_,rfl,by rw [<- db e];exact Eq.trans (by kernel_rfl) h⟩;cases h) λk13=>ae.no)))))
theorem eV.eqX (mM:am_) (aa:Sl) (H:Hp):EX (bl (eV.cs F mM)) bf (eV.lh F mM) F Tryz.f103 [(.sl aa),(.fn 79 [])] H=eV.twX F mM aa H:=by kernel_rfl
theorem eV.k:Ok Tryz.prog 103 (mk20 (eV.tw F)):=by
 intro args H v H' h
 unfold mk20 at h
 split at h
 ·exact okT (TB:=bf) Tryz.func103 (aR (jC.k F) cD) (eV.loops F (jC.tw F)) ((eV.eqX F (jC.tw F) _ H).trans h) (by kernel_rfl)
 ·cases h
def jS.twX (F:Nat) (zF:am7) (aa:Sl) (H:Hp):OA:=(zF aa H).bind λr2=>((r2.1).asI .i64).bind λn3=>some ((.bool (decide (n3>=0))),r2.2)
def jS.tw:=jS.twX F (eV.tw F)
def jS.cs (F:Nat) (zF:am7):Cs:=[(103,mk20 zF)]
theorem jS.eqX (zF:am7) (aa:Sl) (H:Hp):EX (bl (jS.cs F zF)) bf lh0 F Tryz.f78 [(.sl aa),(.fn 79 [])] H=jS.twX F zF aa H:=by kernel_rfl
theorem jS.k:Ok Tryz.prog 78 (mk20 (jS.tw F)):=by
 intro args H v H' h
 unfold mk20 at h
 split at h
 ·exact okT (TB:=bf) Tryz.func78 (aR (eV.k F) cD) ae.no ((jS.eqX F (eV.tw F) _ H).trans h) (by kernel_rfl)
 ·cases h
def fY.twX (F:Nat) (jf:ang) (pL:am7) (zG:am7) (aa:Int) (ac:Int) (aZ:Sl) (H:Hp):OA:=(Hp.new H [(.int .i64 aa),(.int .i64 ac),(.sl aZ)]).bind λH4=>(Hp.ldI H4 .i64 H.length 0).bind λn5=>(jf n5 0 48 H4).bind λr6=>((r6.1).asB).bind λb7=>(bif b7 then ((Hp.ldI r6.2 .i64 H.length 1).bind λn8=>(jf n8 0 48 r6.2).bind λr9=>((r9.1).asB).bind λb10=>(bif b10 then ((Hp.ldSl r9.2 H.length 2).bind λs11=>(pL s11 r9.2).bind λr12=>((r12.1).asI .i64).bind λn13=>(if bo r9.2 r12.2 then ((Hp.ldI r12.2 .i64 H.length 0).bind λn14=>(Hp.ldI r12.2 .i64 H.length 1).bind λn15=>(bif (n13==(wrap .i64 (n14 * n15))) then ((Hp.ldSl r12.2 H.length 2).bind λs16=>(zG s16 r12.2).bind λr17=>((r17.1).asB).bind λb18=>some ((.bool (!b18)),r17.2)) else (some ((.bool false),r12.2)))) else none)) else (some ((.bool false),r9.2)))) else (some ((.bool false),r6.2)))
def fY.tw:=fY.twX F (gq.tw F) (jB.tw F) (jS.tw F)
def fY.pn:Nat->List Nat:=dM [(1,[2,6,22])]
def fY.tb:Nat->List (List Nat):=dM [(1,[[],[0],[0,1],[0,1,2],[0,1,2,3],[0,1,2,3,4],[0,1,2,3,4,5],[0,1,2,3,4,5,6],[0,1,2,3,4,5,6,7],[0,1,2,3,4,5,6,7,8],[0,1,2,3,4,5,6,7,8,9],[0,1,2,3,4,5,6,7,8,9,10],[0,1,2,3,4,5,6,7,8],[0,1,2,3,4,5,6,7,8,12],[0,1,2,3,4,5,6,7,8],[0,1,2,3,4,5,6,7,8,14],[0,1,2,3,4,5,6,7,8,12,13,14,15],[0,1,2,3,4,5,6,7,8,9,10,11,12,13,14,15,16],[0,1,2,3,4,5,6,7,8,9,10,11,12,13,14,15,16,17],[0,1,2,3,4,5,6,7,8,9,10,11,12,13,14,15,16,17,18],[0,1,2,3,4,5,6,7,8,9,10,11,12,13,14,15,16,17,18,19],[0,1,2,3,4,5,6,7,8,9,10,11,12,13,14,15,16,17,18,19,20],[0,1,2,3,4,5,6,7,8,9,10,11,12,13,14,15,16,17,18,19,20,21],[0,1,2,3,4,5,6,7,8,9,10,11,12,13,14,15,16,17,18,19,20,21,22],[0,1,2,3,4,5,6,7,8,9,10,11,12,13,14,15,16,17,18,19,20,21,22,23],[0,1,2,3,4,5,6,7,8,9,10,11,12,13,14,15,16,17,18,19,20,21,22,23,24]])]
def fY.cs (F:Nat) (jf:ang) (pL:am7) (zG:am7):Cs:=[(70,mk5 jf),(27,mk3 pL),(78,mk20 zG)]
theorem fY.eqX (jf:ang) (pL:am7) (zG:am7) (aa:Int) (ac:Int) (aZ:Sl) (H:Hp):EX (bl (fY.cs F jf pL zG)) fY.pn lh0 F Tryz.f60 [(.agg [(.int .i64 aa),(.int .i64 ac),(.sl aZ)])] H=fY.twX F jf pL zG aa ac aZ H:=by kernel_rfl
theorem fY.k:Ok Tryz.prog 60 (mk10 (fY.tw F)):=by
 intro args H v H' h
 unfold mk10 at h
 split at h
 ·exact okT (TB:=fY.tb) Tryz.func60 (aR (gq.k F) (aR (jB.k F) (aR (jS.k F) cD))) ae.no ((fY.eqX F (gq.tw F) (jB.tw F) (jS.tw F) _ _ _ H).trans h) (by kernel_rfl)
 ·cases h
def bZ.j3 (F:Nat) (gF:anc) (dQ:ana) (aj:am4) (C61_:anK) (FG:Nat) (ad8:Nat) (FH:Nat) (ad9:Nat) (FI:Nat) (ad_:Nat) (zH:Int) (zI:Int) (H197:Hp):OA:=C61_ FG ad8 FH ad9 FI ad_ zH (wrap .i64 (zI+1)) H197
def bZ.j4 (gF:anc) (dQ:ana) (aj:am4) (C61_:anK) (FJ:Nat) (aea:Nat) (FK:Nat) (aeb:Nat) (FL:Nat) (aec:Nat) (zJ:Int) (zK:Int) (H179:Hp):OA:=bZ.j3 F gF dQ aj C61_ FJ aea FK aeb FL aec zJ zK H179
def bZ.l3931 (F:Nat) (gF:anc) (dQ:ana) (aj:am4) (C61_:anK):Nat->Nat->Nat->Nat->Nat->Nat->Nat->Int->Int->Int->Int->Int->Hp->OA
 | 0,_,_,_,_,_,_,_,_,_,_,_,_=>none
 | Fs+1,qX,vC,ub,FM,qY,vD,qZ,q_,pM,ra,ob,H149=>(bif (decide (ob<ra)) then ((Hp.ldI H149 .i64 qY vD).bind λn198=>(Hp.ldI H149 .i64 qY (vD+1)).bind λn199=>(Hp.ldSl H149 qY (vD+2)).bind λs200=>(aj n198 n199 s200 ob pM H149).bind λr201=>((r201.1).asP).bind λp202=>(if bo H149 r201.2 then ((Hp.ldI r201.2 .i64 qX vC).bind λn203=>(Hp.ldI r201.2 .i64 qX (vC+1)).bind λn204=>(Hp.ldSl r201.2 qX (vC+2)).bind λs205=>(aj n203 n204 s205 pM ob r201.2).bind λr206=>((r206.1).asP).bind λp207=>(Hp.ldI r206.2 .i64 p207.1 p207.2).bind λn208=>(Hp.st r206.2 p202.1 p202.2 (.int .i64 n208)).bind λH209=>bZ.l3931 F gF dQ aj C61_ Fs qX vC ub FM qY vD qZ q_ pM ra (wrap .i64 (ob+1)) H209) else none)) else (bZ.j4 F gF dQ aj C61_ qX vC ub FM qY vD qZ q_ H149))
termination_by structural n=>n
def bZ.l61 (F:Nat) (gF:anc) (dQ:ana) (aj:am4) :Nat->Nat->Nat->Nat->Nat->Nat->Nat->Int->Int->Hp->OA
 | 0,_,_,_,_,_,_,_,_,_=>none
 | fB+1,uc,FN,pN,sU,r_,zL,rb,pO,H44=>(bif (decide (pO<rb)) then ((Hp.ldI H44 .i64 uc (FN+1)).bind λn132=>bZ.l3931 F gF dQ aj (bZ.l61 F gF dQ aj fB) F uc FN pN sU r_ zL rb pO pO n132 0 H44) else ((Hp.ldI H44 .i64 r_ zL).bind λn210=>(Hp.ldI H44 .i64 r_ (zL+1)).bind λn211=>(Hp.ldSl H44 r_ (zL+2)).bind λs212=>(Hp.st H44 pN sU (.int .i64 n210)).bind λH213=>(Hp.st H213 pN (sU+1) (.int .i64 n211)).bind λH214=>(Hp.st H214 pN (sU+1+1) (.sl s212)).bind λH215=>(Hp.ldI H215 .i64 pN sU).bind λn216=>(Hp.ldI H215 .i64 pN (sU+1)).bind λn217=>(Hp.ldSl H215 pN (sU+2)).bind λs218=>some ((.agg [(.int .i64 n216),(.int .i64 n217),(.sl s218)]),H215)))
termination_by structural n=>n
def bZ.twX (gF:anc) (dQ:ana) (aj:am4) (aa:Int) (ac:Int) (aZ:Sl) (H:Hp):OA:=(Hp.new H [(.int .i64 aa),(.int .i64 ac),(.sl aZ)]).bind λH4=>(Hp.new H4 [.int .i64 0,.int .i64 0,.sl ⟨none,0,.ex 0⟩]).bind λH5=>(Hp.ldI H5 .i64 H.length 0).bind λn6=>(Hp.ldI H5 .i64 H.length (0+1)).bind λn7=>(Hp.ldSl H5 H.length (0+2)).bind λs8=>(gF n6 n7 s8 H5).bind λr9=>((r9.1).asB).bind λb10=>(bif (!b10) then ((Hp.st r9.2 H4.length 0 (.int .i64 0)).bind λH11=>(Hp.st H11 H4.length (0+1) (.int .i64 0)).bind λH12=>(Hp.st H12 H4.length (0+1+1) (.sl (⟨none,0,.ex 0⟩:Sl))).bind λH13=>(Hp.ldI H13 .i64 H4.length 0).bind λn14=>(Hp.ldI H13 .i64 H4.length (0+1)).bind λn15=>(Hp.ldSl H13 H4.length (0+2)).bind λs16=>some ((.agg [(.int .i64 n14),(.int .i64 n15),(.sl s16)]),H13)) else ((Hp.ldI r9.2 .i64 H.length 1).bind λn17=>(Hp.ldI r9.2 .i64 H.length 0).bind λn18=>(dQ n17 n18 r9.2).bind λr19=>((r19.1).asAgg 3).bind λl20=>(l20[0]?).bind λv21=>((v21).asI .i64).bind λn22=>(l20[1]?).bind λv23=>((v23).asI .i64).bind λn24=>(l20[2]?).bind λv25=>((v25).asSl).bind λs26=>(Hp.new r19.2 [.int .i64 0,.int .i64 0,.sl ⟨none,0,.ex 0⟩]).bind λH27=>(Hp.st H27 r19.2.length 0 (.int .i64 n22)).bind λH28=>(Hp.st H28 r19.2.length (0+1) (.int .i64 n24)).bind λH29=>(Hp.st H29 r19.2.length (0+1+1) (.sl s26)).bind λH30=>(Hp.ldI H30 .i64 H.length 0).bind λn31=>bZ.l61 F gF dQ aj F H.length 0 H4.length 0 r19.2.length 0 n31 0 H30))
def bZ.tw:=bZ.twX F (fY.tw F) (gl.tw F) (bY.tw F)
def bZ.lh61 (gF:anc) (dQ:ana) (aj:am4) (ks:am6) (n:Nat) (tm:Tm) (H:Hp):OA:=match ks,tm 1,tm 2,tm 3,tm 16,tm 17 with
 | [],(.ptr uc FN),(.ptr pN sU),(.ptr r_ zL),(.int .i64 rb),(.int .i64 pO)=>bZ.l61 F gF dQ aj n uc FN pN sU r_ zL rb pO H
 | _,_,_,_,_,_=>none
def bZ.lh3931 (gF:anc) (dQ:ana) (aj:am4) (ks:am6) (n:Nat) (tm:Tm) (H:Hp):OA:=match ks,tm 1,tm 2,tm 3,tm 4,tm 16,tm 17,tm 21,tm 22 with
 | [fB],(.ptr qX vC),(.ptr ub FM),(.ptr qY vD),(.int .i64 pM),(.int .i64 qZ),(.int .i64 q_),(.int .i64 ra),(.int .i64 ob)=>bZ.l3931 F gF dQ aj (bZ.l61 F gF dQ aj fB) n qX vC ub FM qY vD qZ q_ pM ra ob H
 | _,_,_,_,_,_,_,_,_=>none
def bZ.lh (gF:anc) (dQ:ana) (aj:am4) (p:Nat) (ks:am6) (n:Nat) (tm:Tm) (H:Hp):OA:=bif p.beq 3931 then bZ.lh3931 F gF dQ aj ks n tm H else (bif p.beq 61 then bZ.lh61 F gF dQ aj ks n tm H else (none))
def bZ.pn:Nat->List Nat:=dM [(10,[7,11])]
def bZ.tb:Nat->List (List Nat):=dM [(10,[[],[],[],[0,1,2],[],[],[],[0,1,2,3,4,5,6],[0,1,2,3,4,5,6,7],[0,1,2,3,4,5,6,7,8],[0,1,2,3,4,5,6,7,8,9],[0,1,2,3,4,5,6,7,8,9,10]])]
def bZ.cs (F:Nat) (gF:anc) (dQ:ana) (aj:am4):Cs:=[(60,mk10 gF),(51,mk8 dQ),(53,mk9 aj)]
theorem bZ.loops (gF:anc) (dQ:ana) (aj:am4):LO (bl (bZ.cs F gF dQ aj)) bZ.pn (bZ.lh F gF dQ aj) F Tryz.f35:=
 (ae.rt (ae.rt (ae.rt (ae.lt (ae.rt (ae.block (ae.la (λn tm H r h=>by change bZ.lh61 F gF dQ aj [] n tm H=_ at h;unfold bZ.lh61 at h;split at h;have e:c_ tm [(1,_),(2,_),(3,_),(16,_),(17,_)]:=⟨‹_›,‹_›,‹_›,‹_›,‹_›,trivial⟩;obtain _ | k61:=n;cases h;exact ⟨_,rfl,by rw [<- db e];exact Eq.trans (by kernel_rfl) h⟩;cases h) λk61=>(ae.rt (ae.rt (ae.lt (ae.block (ae.rt (ae.rt (ae.block (ae.la (λn tm H r h=>by change bZ.lh3931 F gF dQ aj [k61] n tm H=_ at h;unfold bZ.lh3931 at h;split at h;have e:c_ tm [(1,_),(2,_),(3,_),(4,_),(16,_),(17,_),(21,_),(22,_)]:=⟨‹_›,‹_›,‹_›,‹_›,‹_›,‹_›,‹_›,‹_›,trivial⟩;cases (show [k61]=_ from ‹_›);obtain _ | k3931:=n;cases h;exact ⟨_,rfl,by rw [<- db e];exact Eq.trans (by kernel_rfl) h⟩;cases h) λk3931=>ae.no)))))))))))))))
theorem bZ.eqX (gF:anc) (dQ:ana) (aj:am4) (aa:Int) (ac:Int) (aZ:Sl) (H:Hp):EX (bl (bZ.cs F gF dQ aj)) bZ.pn (bZ.lh F gF dQ aj) F Tryz.f35 [(.agg [(.int .i64 aa),(.int .i64 ac),(.sl aZ)])] H=bZ.twX F gF dQ aj aa ac aZ H:=by kernel_rfl
theorem bZ.k:Ok Tryz.prog 35 (mk10 (bZ.tw F)):=by
 intro args H v H' h
 unfold mk10 at h
 split at h
 ·exact okT (TB:=bZ.tb) Tryz.func35 (aR (fY.k F) (aR (gl.k F) (aR (bY.k F) cD))) (bZ.loops F (fY.tw F) (gl.tw F) (bY.tw F)) ((bZ.eqX F (fY.tw F) (gl.tw F) (bY.tw F) _ _ _ H).trans h) (by kernel_rfl)
 ·cases h
def dY.l29 (F:Nat) (dQ:ana) (aj:am4) :Nat->Nat->Nat->Nat->Nat->Int->Int->Hp->OA
 | 0,_,_,_,_,_,_,_=>none
 | fG+1,eT,lW,jM,jA,rc,oc,H22=>(bif (decide (oc<rc)) then ((Hp.ldI H22 .i64 jM jA).bind λn38=>(Hp.ldI H22 .i64 jM (jA+1)).bind λn39=>(Hp.ldSl H22 jM (jA+2)).bind λs40=>(aj n38 n39 s40 oc oc H22).bind λr41=>((r41.1).asP).bind λp42=>(Hp.st r41.2 p42.1 p42.2 (.int .i64 1)).bind λH43=>dY.l29 F dQ aj fG eT lW jM jA rc (wrap .i64 (oc+1)) H43) else ((Hp.ldI H22 .i64 jM jA).bind λn44=>(Hp.ldI H22 .i64 jM (jA+1)).bind λn45=>(Hp.ldSl H22 jM (jA+2)).bind λs46=>(Hp.st H22 eT lW (.int .i64 n44)).bind λH47=>(Hp.st H47 eT (lW+1) (.int .i64 n45)).bind λH48=>(Hp.st H48 eT (lW+1+1) (.sl s46)).bind λH49=>(Hp.ldI H49 .i64 eT lW).bind λn50=>(Hp.ldI H49 .i64 eT (lW+1)).bind λn51=>(Hp.ldSl H49 eT (lW+2)).bind λs52=>some ((.agg [(.int .i64 n50),(.int .i64 n51),(.sl s52)]),H49)))
termination_by structural n=>n
def dY.twX (dQ:ana) (aj:am4) (aa:Int) (H:Hp):OA:=(Hp.new H [.int .i64 0,.int .i64 0,.sl ⟨none,0,.ex 0⟩]).bind λH2=>(dQ aa aa H2).bind λr3=>((r3.1).asAgg 3).bind λl4=>(l4[0]?).bind λv5=>((v5).asI .i64).bind λn6=>(l4[1]?).bind λv7=>((v7).asI .i64).bind λn8=>(l4[2]?).bind λv9=>((v9).asSl).bind λs10=>(Hp.new r3.2 [.int .i64 0,.int .i64 0,.sl ⟨none,0,.ex 0⟩]).bind λH11=>(Hp.st H11 r3.2.length 0 (.int .i64 n6)).bind λH12=>(Hp.st H12 r3.2.length (0+1) (.int .i64 n8)).bind λH13=>(Hp.st H13 r3.2.length (0+1+1) (.sl s10)).bind λH14=>dY.l29 F dQ aj F H.length 0 r3.2.length 0 aa 0 H14
def dY.tw:=dY.twX F (gl.tw F) (bY.tw F)
def dY.lh29 (dQ:ana) (aj:am4) (ks:am6) (n:Nat) (tm:Tm) (H:Hp):OA:=match ks,tm 2,tm 3,tm 8,tm 9 with
 | [],(.ptr eT lW),(.ptr jM jA),(.int .i64 rc),(.int .i64 oc)=>dY.l29 F dQ aj n eT lW jM jA rc oc H
 | _,_,_,_,_=>none
def dY.lh (dQ:ana) (aj:am4) (p:Nat) (ks:am6) (n:Nat) (tm:Tm) (H:Hp):OA:=bif p.beq 29 then dY.lh29 F dQ aj ks n tm H else (none)
def dY.cs (F:Nat) (dQ:ana) (aj:am4):Cs:=[(51,mk8 dQ),(53,mk9 aj)]
theorem dY.loops (dQ:ana) (aj:am4):LO (bl (dY.cs F dQ aj)) bf (dY.lh F dQ aj) F Tryz.f96:=
 (ae.rt (ae.rt (ae.lt (ae.rt (ae.block (ae.la (λn tm H r h=>by change dY.lh29 F dQ aj [] n tm H=_ at h;unfold dY.lh29 at h;split at h;have e:c_ tm [(2,_),(3,_),(8,_),(9,_)]:=⟨‹_›,‹_›,‹_›,‹_›,trivial⟩;obtain _ | k29:=n;cases h;exact ⟨_,rfl,by rw [<- db e];exact Eq.trans (by kernel_rfl) h⟩;cases h) λk29=>ae.no))))))
theorem dY.eqX (dQ:ana) (aj:am4) (aa:Int) (H:Hp):EX (bl (dY.cs F dQ aj)) bf (dY.lh F dQ aj) F Tryz.f96 [(.int .i64 aa)] H=dY.twX F dQ aj aa H:=by kernel_rfl
theorem dY.k:Ok Tryz.prog 96 (mk11 (dY.tw F)):=by
 intro args H v H' h
 unfold mk11 at h
 split at h
 ·exact okT (TB:=bf) Tryz.func96 (aR (gl.k F) (aR (bY.k F) cD)) (dY.loops F (gl.tw F) (bY.tw F)) ((dY.eqX F (gl.tw F) (bY.tw F) _ H).trans h) (by kernel_rfl)
 ·cases h
def mi.twX (F:Nat) (aa:Sl) (H:Hp):OA:=(bif (aa.a.isNone) then (some ((.sl (⟨none,0,.ex 0⟩:Sl)),H)) else ((Hp.new H []).bind λH2=>(Sl.row H2 aa 1).bind λxs4=>(Hp.app H2 1 8 (⟨some (H.length,0),0,.ex 0⟩:Sl) aa.n xs4).bind λa3=>some ((.sl a3.1),a3.2)))
def mi.tw:=mi.twX F
theorem mi.k:Ok Tryz.prog 114 (mk3 (mi.tw F)):=by
 intro args H v H' h
 unfold mk3 at h
 split at h
 ·exact ok0 Tryz.func114 (Eq.trans (by kernel_rfl) h) (by kernel_rfl) (by kernel_rfl)
 ·cases h
def jT.twX (F:Nat) (zM:am7) (aa:Int) (ac:Int) (aZ:Sl) (H:Hp):OA:=(Hp.new H [(.int .i64 aa),(.int .i64 ac),(.sl aZ)]).bind λH4=>(Hp.new H4 [.int .i64 0,.int .i64 0,.sl ⟨none,0,.ex 0⟩]).bind λH5=>(Hp.ldSl H5 H.length 2).bind λs6=>(zM s6 H5).bind λr7=>((r7.1).asSl).bind λs8=>(Hp.st r7.2 H.length 2 (.sl s8)).bind λH9=>(Hp.ldI H9 .i64 H.length 0).bind λn10=>(Hp.ldI H9 .i64 H.length (0+1)).bind λn11=>(Hp.ldSl H9 H.length (0+2)).bind λs12=>(Hp.st H9 H4.length 0 (.int .i64 n10)).bind λH13=>(Hp.st H13 H4.length (0+1) (.int .i64 n11)).bind λH14=>(Hp.st H14 H4.length (0+1+1) (.sl s12)).bind λH15=>(Hp.ldI H15 .i64 H4.length 0).bind λn16=>(Hp.ldI H15 .i64 H4.length (0+1)).bind λn17=>(Hp.ldSl H15 H4.length (0+2)).bind λs18=>some ((.agg [(.int .i64 n16),(.int .i64 n17),(.sl s18)]),H15)
def jT.tw:=jT.twX F (mi.tw F)
def jT.cs (F:Nat) (zM:am7):Cs:=[(114,mk3 zM)]
theorem jT.eqX (zM:am7) (aa:Int) (ac:Int) (aZ:Sl) (H:Hp):EX (bl (jT.cs F zM)) bf lh0 F Tryz.f97 [(.agg [(.int .i64 aa),(.int .i64 ac),(.sl aZ)])] H=jT.twX F zM aa ac aZ H:=by kernel_rfl
theorem jT.k:Ok Tryz.prog 97 (mk10 (jT.tw F)):=by
 intro args H v H' h
 unfold mk10 at h
 split at h
 ·exact okT (TB:=bf) Tryz.func97 (aR (mi.k F) cD) ae.no ((jT.eqX F (mi.tw F) _ _ _ H).trans h) (by kernel_rfl)
 ·cases h
def mj.twX (F:Nat) (sV:am_) (zN:anc) (aa:Int) (ac:Int) (aZ:Sl) (H:Hp):OA:=(Hp.new H [(.int .i64 aa),(.int .i64 ac),(.sl aZ)]).bind λH4=>(Hp.ldI H4 .i64 H.length 0).bind λn5=>(sV n5 H4).bind λr6=>((r6.1).asAgg 3).bind λl7=>(l7[0]?).bind λv8=>((v8).asI .i64).bind λn9=>(l7[1]?).bind λv10=>((v10).asI .i64).bind λn11=>(l7[2]?).bind λv12=>((v12).asSl).bind λs13=>(if bo H4 r6.2 then ((Hp.ldI r6.2 .i64 H.length 0).bind λn14=>(sV n14 r6.2).bind λr15=>((r15.1).asAgg 3).bind λl16=>(l16[0]?).bind λv17=>((v17).asI .i64).bind λn18=>(l16[1]?).bind λv19=>((v19).asI .i64).bind λn20=>(l16[2]?).bind λv21=>((v21).asSl).bind λs22=>(if bo r6.2 r15.2 then ((Hp.ldI r15.2 .i64 H.length 0).bind λn23=>(Hp.ldI r15.2 .i64 H.length (0+1)).bind λn24=>(Hp.ldSl r15.2 H.length (0+2)).bind λs25=>(zN n23 n24 s25 r15.2).bind λr26=>((r26.1).asAgg 3).bind λl27=>(l27[0]?).bind λv28=>((v28).asI .i64).bind λn29=>(l27[1]?).bind λv30=>((v30).asI .i64).bind λn31=>(l27[2]?).bind λv32=>((v32).asSl).bind λs33=>(if bo r15.2 r26.2 then ((Hp.ldI r26.2 .i64 H.length 1).bind λn34=>(sV n34 r26.2).bind λr35=>((r35.1).asAgg 3).bind λl36=>(l36[0]?).bind λv37=>((v37).asI .i64).bind λn38=>(l36[1]?).bind λv39=>((v39).asI .i64).bind λn40=>(l36[2]?).bind λv41=>((v41).asSl).bind λs42=>(if bo r26.2 r35.2 then ((Hp.ldI r35.2 .i64 H.length 1).bind λn43=>(sV n43 r35.2).bind λr44=>((r44.1).asAgg 3).bind λl45=>(l45[0]?).bind λv46=>((v46).asI .i64).bind λn47=>(l45[1]?).bind λv48=>((v48).asI .i64).bind λn49=>(l45[2]?).bind λv50=>((v50).asSl).bind λs51=>(Hp.new r44.2 [(.int .i64 n9),(.int .i64 n11),(.sl s13),(.int .i64 n18),(.int .i64 n20),(.sl s22),(.int .i64 n29),(.int .i64 n31),(.sl s33),(.int .i64 n38),(.int .i64 n40),(.sl s42),(.int .i64 n47),(.int .i64 n49),(.sl s51),(.bool false)]).bind λH52=>some ((.ptr r44.2.length 0),H52)) else none)) else none)) else none)) else none)
def mj.tw:=mj.twX F (dY.tw F) (jT.tw F)
def mj.pn:Nat->List Nat:=dM [(1,[13])]
def mj.tb:Nat->List (List Nat):=dM [(1,[[],[0],[0,1],[],[3],[0,1,2,3,4],[],[0,1,2,3,4,5,6],[],[8],[0,1,2,3,4,5,6,7,8,9],[],[11],[0,1,2,3,4,5,6,7,8,9,10,11,12],[0,1,2,3,4,5,6,7,8,9,10,11,12,13],[0,1,2,3,4,5,6,7,8,9,10,11,12,13,14],[0,1,2,3,4,5,6,7,8,9,10,11,12,13,14,15],[0,1,2,3,4,5,6,7,8,9,10,11,12,13,14,15,16]])]
def mj.cs (F:Nat) (sV:am_) (zN:anc):Cs:=[(96,mk11 sV),(97,mk10 zN)]
theorem mj.eqX (sV:am_) (zN:anc) (aa:Int) (ac:Int) (aZ:Sl) (H:Hp):EX (bl (mj.cs F sV zN)) mj.pn lh0 F Tryz.f75 [(.agg [(.int .i64 aa),(.int .i64 ac),(.sl aZ)])] H=mj.twX F sV zN aa ac aZ H:=by kernel_rfl
theorem mj.k:Ok Tryz.prog 75 (mk10 (mj.tw F)):=by
 intro args H v H' h
 unfold mk10 at h
 split at h
 ·exact okT (TB:=mj.tb) Tryz.func75 (aR (dY.k F) (aR (jT.k F) cD)) ae.no ((mj.eqX F (dY.tw F) (jT.tw F) _ _ _ H).trans h) (by kernel_rfl)
 ·cases h
def fC.twX (F:Nat) (aa:Int) (H:Hp):OA:=(bif (decide (aa<0)) then (some ((.int .i64 (wrap .i64 (0 - aa))),H)) else (some ((.int .i64 aa),H)))
def fC.tw:=fC.twX F
theorem fC.k:Ok Tryz.prog 55 (mk11 (fC.tw F)):=by
 intro args H v H' h
 unfold mk11 at h
 split at h
 ·exact ok0 Tryz.func55 (Eq.trans (by kernel_rfl) h) (by kernel_rfl) (by kernel_rfl)
 ·cases h
def bu.j5 (F:Nat) (aj:am4) (eZ:am_) (zO:Int) (zP:Int) (zQ:Bool) (H134:Hp):OA:=some ((.tup [(.int .i64 zO),(.int .i64 zP),(.bool zQ)]),H134)
def bu.j7 (F:Nat) (aj:am4) (eZ:am_) (C29_:anT) (zR:Int) (zS:Int) (zT:Int) (zU:Bool) (FO:Nat) (aed:Nat) (zV:Int) (H205:Hp):OA:=C29_ zR zS zT zU FO aed (wrap .i64 (zV+1)) H205
def bu.j8 (aj:am4) (eZ:am_) (C29_:anT) (zW:Int) (zX:Int) (zY:Int) (zZ:Bool) (FP:Nat) (aee:Nat) (z_:Int) (H192:Hp):OA:=bu.j7 F aj eZ C29_ zW zX zY zZ FP aee z_ H192
def bu.j9 (F:Nat) (aj:am4) (eZ:am_) (C469_:aos) (Aa:Int) (Ab:Int) (tV:Int) (pw:Bool) (FQ:Nat) (aef:Nat) (Ac:Int) (Ad:Int) (H237:Hp):OA:=C469_ Aa Ab tV pw FQ aef Ac (wrap .i64 (Ad+1)) H237
def bu.l469 (F:Nat) (aj:am4) (eZ:am_) (C29_:anT):Nat->Int->Int->Int->Bool->Nat->Nat->Int->Int->Hp->OA
 | 0,_,_,_,_,_,_,_,_,_=>none
 | sH+1,nl,od,oe,og,mN,oY,kt,ku,H147=>(Hp.ldI H147 .i64 mN (oY+1)).bind λn206=>(bif (decide (ku<n206)) then ((Hp.ldI H147 .i64 mN oY).bind λn207=>(Hp.ldI H147 .i64 mN (oY+1)).bind λn208=>(Hp.ldSl H147 mN (oY+2)).bind λs209=>(aj n207 n208 s209 kt ku H147).bind λr210=>((r210.1).asP).bind λp211=>(Hp.ldI r210.2 .i64 p211.1 p211.2).bind λn212=>(eZ n212 r210.2).bind λr213=>((r213.1).asI .i64).bind λn214=>(bif (n214 != 0) then ((bif (!og) then (bu.l469 F aj eZ C29_ sH nl kt ku true mN oY kt (wrap .i64 (ku+1)) r213.2) else ((Hp.ldI r213.2 .i64 mN oY).bind λn215=>(Hp.ldI r213.2 .i64 mN (oY+1)).bind λn216=>(Hp.ldSl r213.2 mN (oY+2)).bind λs217=>(aj n215 n216 s217 od oe r213.2).bind λr218=>((r218.1).asP).bind λp219=>(Hp.ldI r218.2 .i64 p219.1 p219.2).bind λn220=>(eZ n220 r218.2).bind λr221=>((r221.1).asI .i64).bind λn222=>(bif (decide (n214<n222)) then (bu.j9 F aj eZ (bu.l469 F aj eZ C29_ sH) nl kt ku true mN oY kt ku r221.2) else (bu.j9 F aj eZ (bu.l469 F aj eZ C29_ sH) nl od oe og mN oY kt ku r221.2))))) else (bu.l469 F aj eZ C29_ sH nl od oe og mN oY kt (wrap .i64 (ku+1)) r213.2))) else (bu.j8 F aj eZ C29_ nl od oe og mN oY kt H147))
termination_by structural n=>n
def bu.l29 (F:Nat) (aj:am4) (eZ:am_) :Nat->Int->Int->Int->Bool->Nat->Nat->Int->Hp->OA
 | 0,_,_,_,_,_,_,_,_=>none
 | fG+1,eY,gK,fS,rd,ud,FR,rh,H20=>(Hp.ldI H20 .i64 ud FR).bind λn135=>(bif (decide (rh<n135)) then (bu.l469 F aj eZ (bu.l29 F aj eZ fG) F eY gK fS rd ud FR rh eY H20) else (bu.j5 F aj eZ gK fS rd H20))
termination_by structural n=>n
def bu.twX (aj:am4) (eZ:am_) (aa:Nat) (ac:Nat) (ah:Int) (H:Hp):OA:=(Hp.ldI H .i64 aa (ac+6)).bind λn4=>(Hp.ldI H .i64 aa ((ac+6)+1)).bind λn5=>(Hp.ldSl H aa ((ac+6)+2)).bind λs6=>(Hp.new H [.int .i64 0,.int .i64 0,.sl ⟨none,0,.ex 0⟩]).bind λH7=>(Hp.st H7 H.length 0 (.int .i64 n4)).bind λH8=>(Hp.st H8 H.length (0+1) (.int .i64 n5)).bind λH9=>(Hp.st H9 H.length (0+1+1) (.sl s6)).bind λH10=>bu.l29 F aj eZ F ah 0 0 false H.length 0 ah H10
def bu.tw:=bu.twX F (bY.tw F) (fC.tw F)
def bu.lh29 (aj:am4) (eZ:am_) (ks:am6) (n:Nat) (tm:Tm) (H:Hp):OA:=match ks,tm 1,tm 4,tm 5,tm 6,tm 7,tm 8 with
 | [],(.int .i64 eY),(.int .i64 gK),(.int .i64 fS),(.bool rd),(.ptr ud FR),(.int .i64 rh)=>bu.l29 F aj eZ n eY gK fS rd ud FR rh H
 | _,_,_,_,_,_,_=>none
def bu.lh469 (aj:am4) (eZ:am_) (ks:am6) (n:Nat) (tm:Tm) (H:Hp):OA:=match ks,tm 1,tm 4,tm 5,tm 6,tm 7,tm 8,tm 9 with
 | [fG],(.int .i64 nl),(.int .i64 od),(.int .i64 oe),(.bool og),(.ptr mN oY),(.int .i64 kt),(.int .i64 ku)=>bu.l469 F aj eZ (bu.l29 F aj eZ fG) n nl od oe og mN oY kt ku H
 | _,_,_,_,_,_,_,_=>none
def bu.lh (aj:am4) (eZ:am_) (p:Nat) (ks:am6) (n:Nat) (tm:Tm) (H:Hp):OA:=bif p.beq 469 then bu.lh469 F aj eZ ks n tm H else (bif p.beq 29 then bu.lh29 F aj eZ ks n tm H else (none))
def bu.cs (F:Nat) (aj:am4) (eZ:am_):Cs:=[(53,mk9 aj),(55,mk11 eZ)]
theorem bu.loops (aj:am4) (eZ:am_):LO (bl (bu.cs F aj eZ)) bf (bu.lh F aj eZ) F Tryz.f115:=
 (ae.rt (ae.rt (ae.lt (ae.rt (ae.block (ae.la (λn tm H r h=>by change bu.lh29 F aj eZ [] n tm H=_ at h;unfold bu.lh29 at h;split at h;have e:c_ tm [(1,_),(4,_),(5,_),(6,_),(7,_),(8,_)]:=⟨‹_›,‹_›,‹_›,‹_›,‹_›,‹_›,trivial⟩;obtain _ | k29:=n;cases h;exact ⟨_,rfl,by rw [<- db e];exact Eq.trans (by kernel_rfl) h⟩;cases h) λk29=>(ae.rt (ae.lt (ae.block (ae.rt (ae.block (ae.la (λn tm H r h=>by change bu.lh469 F aj eZ [k29] n tm H=_ at h;unfold bu.lh469 at h;split at h;have e:c_ tm [(1,_),(4,_),(5,_),(6,_),(7,_),(8,_),(9,_)]:=⟨‹_›,‹_›,‹_›,‹_›,‹_›,‹_›,‹_›,trivial⟩;cases (show [k29]=_ from ‹_›);obtain _ | k469:=n;cases h;exact ⟨_,rfl,by rw [<- db e];exact Eq.trans (by kernel_rfl) h⟩;cases h) λk469=>ae.no))))))))))))
theorem bu.eqX (aj:am4) (eZ:am_) (aa:Nat) (ac:Nat) (ah:Int) (H:Hp):EX (bl (bu.cs F aj eZ)) bf (bu.lh F aj eZ) F Tryz.f115 [(.ptr aa ac),(.int .i64 ah)] H=bu.twX F aj eZ aa ac ah H:=by kernel_rfl
theorem bu.k:Ok Tryz.prog 115 (mk12 (bu.tw F)):=by
 intro args H v H' h
 unfold mk12 at h
 split at h
 ·exact okT (TB:=bf) Tryz.func115 (aR (bY.k F) (aR (fC.k F) cD)) (bu.loops F (bY.tw F) (fC.tw F)) ((bu.eqX F (bY.tw F) (fC.tw F) _ _ _ H).trans h) (by kernel_rfl)
 ·cases h
def dI.l7 (F:Nat) (aj:am4) :Nat->Int->Int->Nat->Nat->Int->Int->Hp->OA
 | 0,_,_,_,_,_,_,_=>none
 | mJ+1,kv,kw,dy,ml,kx,iz,H17=>(bif (decide (iz<kx)) then ((Hp.ldI H17 .i64 dy ml).bind λn32=>(Hp.ldI H17 .i64 dy (ml+1)).bind λn33=>(Hp.ldSl H17 dy (ml+2)).bind λs34=>(aj n32 n33 s34 kv iz H17).bind λr35=>((r35.1).asP).bind λp36=>(if bo H17 r35.2 then ((Hp.ldI r35.2 .i64 dy ml).bind λn37=>(Hp.ldI r35.2 .i64 dy (ml+1)).bind λn38=>(Hp.ldSl r35.2 dy (ml+2)).bind λs39=>(aj n37 n38 s39 kw iz r35.2).bind λr40=>((r40.1).asP).bind λp41=>(Hp.ldI r40.2 .i64 p41.1 p41.2).bind λn42=>(Hp.ldI r40.2 .i64 p36.1 p36.2).bind λn43=>(Hp.st r40.2 p36.1 p36.2 (.int .i64 n42)).bind λH44=>(Hp.st H44 p41.1 p41.2 (.int .i64 n43)).bind λH45=>dI.l7 F aj mJ kv kw dy ml kx (wrap .i64 (iz+1)) H45) else none)) else (some ((.tup []),H17)))
termination_by structural n=>n
def dI.twX (aj:am4) (aa:Int) (ac:Int) (aZ:Sl) (aF:Int) (ch:Int) (H:Hp):OA:=(Hp.new H [(.int .i64 aa),(.int .i64 ac),(.sl aZ)]).bind λH6=>(Hp.ldI H6 .i64 H.length 1).bind λn7=>dI.l7 F aj F aF ch H.length 0 n7 0 H6
def dI.tw:=dI.twX F (bY.tw F)
def dI.lh7 (aj:am4) (ks:am6) (n:Nat) (tm:Tm) (H:Hp):OA:=match ks,tm 1,tm 2,tm 3,tm 10,tm 11 with
 | [],(.int .i64 kv),(.int .i64 kw),(.ptr dy ml),(.int .i64 kx),(.int .i64 iz)=>dI.l7 F aj n kv kw dy ml kx iz H
 | _,_,_,_,_,_=>none
def dI.lh (aj:am4) (p:Nat) (ks:am6) (n:Nat) (tm:Tm) (H:Hp):OA:=bif p.beq 7 then dI.lh7 F aj ks n tm H else (none)
def dI.pn:Nat->List Nat:=dM [(4,[7]),(5,[9,11])]
def dI.tb:Nat->List (List Nat):=dM [(4,[[],[],[],[0,1,2],[],[],[],[0,1,2,3,4,5,6],[0,1,2,3,4,5,6,7],[0,1,2,3,4,5,6,7,8]]),(5,[[],[],[],[2],[2,3],[],[5],[5,6],[0,2,3,4,5,6,7],[0,2,3,4,5,6,7,8],[0,1,2,3,4,5,6,7,8,9],[0,1,2,3,4,5,6,7,8,9,10]])]
def dI.cs (F:Nat) (aj:am4):Cs:=[(53,mk9 aj)]
theorem dI.loops (aj:am4):LO (bl (dI.cs F aj)) dI.pn (dI.lh F aj) F Tryz.f116:=
 (ae.rt (ae.rt (ae.block (ae.la (λn tm H r h=>by change dI.lh7 F aj [] n tm H=_ at h;unfold dI.lh7 at h;split at h;have e:c_ tm [(1,_),(2,_),(3,_),(10,_),(11,_)]:=⟨‹_›,‹_›,‹_›,‹_›,‹_›,trivial⟩;obtain _ | k7:=n;cases h;exact ⟨_,rfl,by rw [<- db e];exact Eq.trans (by kernel_rfl) h⟩;cases h) λk7=>ae.no))))
theorem dI.eqX (aj:am4) (aa:Int) (ac:Int) (aZ:Sl) (aF:Int) (ch:Int) (H:Hp):EX (bl (dI.cs F aj)) dI.pn (dI.lh F aj) F Tryz.f116 [(.agg [(.int .i64 aa),(.int .i64 ac),(.sl aZ)]),(.int .i64 aF),(.int .i64 ch)] H=dI.twX F aj aa ac aZ aF ch H:=by kernel_rfl
theorem dI.k:Ok Tryz.prog 116 (mk9 (dI.tw F)):=by
 intro args H v H' h
 unfold mk9 at h
 split at h
 ·exact okT (TB:=dI.tb) Tryz.func116 (aR (bY.k F) cD) (dI.loops F (bY.tw F)) ((dI.eqX F (bY.tw F) _ _ _ _ _ H).trans h) (by kernel_rfl)
 ·cases h
def dJ.l7 (F:Nat) (aj:am4) :Nat->Int->Int->Nat->Nat->Int->Int->Hp->OA
 | 0,_,_,_,_,_,_,_=>none
 | mJ+1,kv,kw,dy,ml,kx,iz,H17=>(bif (decide (iz<kx)) then ((Hp.ldI H17 .i64 dy ml).bind λn32=>(Hp.ldI H17 .i64 dy (ml+1)).bind λn33=>(Hp.ldSl H17 dy (ml+2)).bind λs34=>(aj n32 n33 s34 iz kv H17).bind λr35=>((r35.1).asP).bind λp36=>(if bo H17 r35.2 then ((Hp.ldI r35.2 .i64 dy ml).bind λn37=>(Hp.ldI r35.2 .i64 dy (ml+1)).bind λn38=>(Hp.ldSl r35.2 dy (ml+2)).bind λs39=>(aj n37 n38 s39 iz kw r35.2).bind λr40=>((r40.1).asP).bind λp41=>(Hp.ldI r40.2 .i64 p41.1 p41.2).bind λn42=>(Hp.ldI r40.2 .i64 p36.1 p36.2).bind λn43=>(Hp.st r40.2 p36.1 p36.2 (.int .i64 n42)).bind λH44=>(Hp.st H44 p41.1 p41.2 (.int .i64 n43)).bind λH45=>dJ.l7 F aj mJ kv kw dy ml kx (wrap .i64 (iz+1)) H45) else none)) else (some ((.tup []),H17)))
termination_by structural n=>n
def dJ.twX (aj:am4) (aa:Int) (ac:Int) (aZ:Sl) (aF:Int) (ch:Int) (H:Hp):OA:=(Hp.new H [(.int .i64 aa),(.int .i64 ac),(.sl aZ)]).bind λH6=>(Hp.ldI H6 .i64 H.length 0).bind λn7=>dJ.l7 F aj F aF ch H.length 0 n7 0 H6
def dJ.tw:=dJ.twX F (bY.tw F)
def dJ.lh7 (aj:am4) (ks:am6) (n:Nat) (tm:Tm) (H:Hp):OA:=match ks,tm 1,tm 2,tm 3,tm 10,tm 11 with
 | [],(.int .i64 kv),(.int .i64 kw),(.ptr dy ml),(.int .i64 kx),(.int .i64 iz)=>dJ.l7 F aj n kv kw dy ml kx iz H
 | _,_,_,_,_,_=>none
def dJ.lh (aj:am4) (p:Nat) (ks:am6) (n:Nat) (tm:Tm) (H:Hp):OA:=bif p.beq 7 then dJ.lh7 F aj ks n tm H else (none)
def dJ.pn:Nat->List Nat:=dM [(4,[7]),(5,[9,11])]
def dJ.tb:Nat->List (List Nat):=dM [(4,[[],[],[],[0,1,2],[],[],[],[0,1,2,3,4,5,6],[0,1,2,3,4,5,6,7],[0,1,2,3,4,5,6,7,8]]),(5,[[],[],[],[2],[2,3],[],[5],[5,6],[0,2,3,4,5,6,7],[0,2,3,4,5,6,7,8],[0,1,2,3,4,5,6,7,8,9],[0,1,2,3,4,5,6,7,8,9,10]])]
def dJ.cs (F:Nat) (aj:am4):Cs:=[(53,mk9 aj)]
theorem dJ.loops (aj:am4):LO (bl (dJ.cs F aj)) dJ.pn (dJ.lh F aj) F Tryz.f117:=
 (ae.rt (ae.rt (ae.block (ae.la (λn tm H r h=>by change dJ.lh7 F aj [] n tm H=_ at h;unfold dJ.lh7 at h;split at h;have e:c_ tm [(1,_),(2,_),(3,_),(10,_),(11,_)]:=⟨‹_›,‹_›,‹_›,‹_›,‹_›,trivial⟩;obtain _ | k7:=n;cases h;exact ⟨_,rfl,by rw [<- db e];exact Eq.trans (by kernel_rfl) h⟩;cases h) λk7=>ae.no))))
theorem dJ.eqX (aj:am4) (aa:Int) (ac:Int) (aZ:Sl) (aF:Int) (ch:Int) (H:Hp):EX (bl (dJ.cs F aj)) dJ.pn (dJ.lh F aj) F Tryz.f117 [(.agg [(.int .i64 aa),(.int .i64 ac),(.sl aZ)]),(.int .i64 aF),(.int .i64 ch)] H=dJ.twX F aj aa ac aZ aF ch H:=by kernel_rfl
theorem dJ.k:Ok Tryz.prog 117 (mk9 (dJ.tw F)):=by
 intro args H v H' h
 unfold mk9 at h
 split at h
 ·exact okT (TB:=dJ.tb) Tryz.func117 (aR (bY.k F) cD) (dJ.loops F (bY.tw F)) ((dJ.eqX F (bY.tw F) _ _ _ _ _ H).trans h) (by kernel_rfl)
 ·cases h
def fU.twX (F:Nat) (aa:Int) (ac:Int) (aZ:Sl) (aF:Int) (H:Hp):OA:=(Hp.new H [(.int .i64 aa),(.int .i64 ac),(.sl aZ)]).bind λH5=>(Hp.ldSl H5 H.length 2).bind λs6=>(Hp.ldI H5 .i64 H.length 1).bind λn7=>(Hp.ldI H5 .i64 H.length 1).bind λn8=>(Sl.cut s6 1 (wrap .i64 (aF * n7)) (wrap .i64 ((wrap .i64 (aF+1)) * n8))).bind λs9=>some ((.sl s9),H5)
def fU.tw:=fU.twX F
def mk21 (g:ank) (args:anb) (H:Hp):OA:=match args with
 | [(.agg [(.int .i64 aa),(.int .i64 ac),(.sl aZ)]),(.int .i64 aF)]=>g aa ac aZ aF H
 | _=>none
theorem mk21_E (g:ank) (aa:Int) (ac:Int) (aZ:Sl) (aF:Int) (H:Hp):mk21 g [(.agg [(.int .i64 aa),(.int .i64 ac),(.sl aZ)]),(.int .i64 aF)] H=g aa ac aZ aF H:=rfl
theorem fU.k:Ok Tryz.prog 118 (mk21 (fU.tw F)):=by
 intro args H v H' h
 unfold mk21 at h
 split at h
 ·exact ok0 Tryz.func118 (Eq.trans (by kernel_rfl) h) (by kernel_rfl) (by kernel_rfl)
 ·cases h
def cb.l32747 (F:Nat) (gy:am9) (fZ:am4) (f_:am4) (aj:am4) (cZ:ank) :Nat->Nat->Nat->Int->Int->Int->Hp->OA
 | 0,_,_,_,_,_,_=>none
 | aeg+1,sW,sX,pP,ri,oh,H159=>(bif (decide (oh<ri)) then ((Hp.ldI H159 .i64 sW (sX+3)).bind λn172=>(Hp.ldI H159 .i64 sW ((sX+3)+1)).bind λn173=>(Hp.ldSl H159 sW ((sX+3)+2)).bind λs174=>(aj n172 n173 s174 oh pP H159).bind λr175=>((r175.1).asP).bind λp176=>(if bo H159 r175.2 then ((Hp.ldI r175.2 .i64 sW (sX+3)).bind λn177=>(Hp.ldI r175.2 .i64 sW ((sX+3)+1)).bind λn178=>(Hp.ldSl r175.2 sW ((sX+3)+2)).bind λs179=>(aj n177 n178 s179 oh pP r175.2).bind λr180=>((r180.1).asP).bind λp181=>(Hp.ldI r180.2 .i64 p181.1 p181.2).bind λn182=>(Hp.st r180.2 p176.1 p176.2 (.int .i64 (wrap .i64 (0 - n182)))).bind λH183=>cb.l32747 F gy fZ f_ aj cZ aeg sW sX pP ri (wrap .i64 (oh+1)) H183) else none)) else (some ((.bool true),H159)))
termination_by structural n=>n
def cb.j3 (gy:am9) (fZ:am4) (f_:am4) (aj:am4) (cZ:ank) (Uq:Nat) (Ur:Nat) (Ae:Int) (H142:Hp):OA:=(Hp.ldI H142 .i64 Uq (Ur+3)).bind λn143=>cb.l32747 F gy fZ f_ aj cZ F Uq Ur Ae n143 0 H142
def cb.j4 (F:Nat) (gy:am9) (fZ:am4) (f_:am4) (aj:am4) (cZ:ank) (C32745_:aoa) (aeh:Nat) (aei:Nat) (aej:Int) (aek:Sl) (ael:Int) (aem:Int) (H242:Hp):OA:=C32745_ aeh aei aej aek ael (wrap .i64 (aem+1)) H242
def cb.j5 (gy:am9) (fZ:am4) (f_:am4) (aj:am4) (cZ:ank) (C32745_:aoa) (aen:Nat) (aeo:Nat) (aep:Int) (aeq:Sl) (aer:Int) (aes:Int) (H224:Hp):OA:=cb.j4 F gy fZ f_ aj cZ C32745_ aen aeo aep aeq aer aes H224
def cb.l2095707 (F:Nat) (gy:am9) (fZ:am4) (f_:am4) (aj:am4) (cZ:ank) (C32745_:aoa):Nat->Nat->Nat->Int->Sl->Int->Int->Sl->Int->Int->Hp->OA
 | 0,_,_,_,_,_,_,_,_,_,_=>none
 | aet+1,FS,FT,FU,FV,FW,FX,Cx,FY,Af,H202=>(bif (decide (Af<FY)) then ((Sl.idx Cx Af 1).bind λp243=>(Hp.ldI H202 .i64 p243.1 p243.2).bind λn244=>(Sl.idx Cx Af 1).bind λp245=>(Hp.st H202 p245.1 p245.2 (.int .i64 (wrap .i64 (0 - n244)))).bind λH246=>cb.l2095707 F gy fZ f_ aj cZ C32745_ aet FS FT FU FV FW FX Cx FY (wrap .i64 (Af+1)) H246) else (cb.j5 F gy fZ f_ aj cZ C32745_ FS FT FU FV FW FX H202))
termination_by structural n=>n
def cb.l32745 (F:Nat) (gy:am9) (fZ:am4) (f_:am4) (aj:am4) (cZ:ank) :Nat->Nat->Nat->Int->Sl->Int->Int->Hp->OA
 | 0,_,_,_,_,_,_,_=>none
 | J_+1,rj,rl,j_,FZ,F_,Cy,H65=>(bif (decide (Cy<F_)) then ((Sl.idx FZ Cy 1).bind λp184=>(Hp.ldSl H65 p184.1 p184.2).bind λs185=>cb.l2095707 F gy fZ f_ aj cZ (cb.l32745 F gy fZ f_ aj cZ J_) F rj rl j_ FZ F_ Cy s185 (s185.n:Int) 0 H65) else (cb.j3 F gy fZ f_ aj cZ rj rl j_ H65))
termination_by structural n=>n
def cb.twX (gy:am9) (fZ:am4) (f_:am4) (aj:am4) (cZ:ank) (aa:Nat) (ac:Nat) (ah:Int) (H:Hp):OA:=(gy aa ac ah H).bind λr4=>((r4.1).asTup 3).bind λl5=>(l5[0]?).bind λv6=>((v6).asI .i64).bind λn7=>(l5[1]?).bind λv8=>((v8).asI .i64).bind λn9=>(l5[2]?).bind λv10=>((v10).asB).bind λb11=>(bif (!b11) then (some ((.bool false),r4.2)) else ((Hp.ldI r4.2 .i64 aa (ac+6)).bind λn12=>(Hp.ldI r4.2 .i64 aa ((ac+6)+1)).bind λn13=>(Hp.ldSl r4.2 aa ((ac+6)+2)).bind λs14=>(fZ n12 n13 s14 n7 ah r4.2).bind λr15=>(Hp.ldI r15.2 .i64 aa ac).bind λn16=>(Hp.ldI r15.2 .i64 aa (ac+1)).bind λn17=>(Hp.ldSl r15.2 aa (ac+2)).bind λs18=>(fZ n16 n17 s18 n7 ah r15.2).bind λr19=>(Hp.ldI r19.2 .i64 aa (ac+3)).bind λn20=>(Hp.ldI r19.2 .i64 aa ((ac+3)+1)).bind λn21=>(Hp.ldSl r19.2 aa ((ac+3)+2)).bind λs22=>(f_ n20 n21 s22 n7 ah r19.2).bind λr23=>(Hp.ldI r23.2 .i64 aa (ac+6)).bind λn24=>(Hp.ldI r23.2 .i64 aa ((ac+6)+1)).bind λn25=>(Hp.ldSl r23.2 aa ((ac+6)+2)).bind λs26=>(f_ n24 n25 s26 n9 ah r23.2).bind λr27=>(Hp.ldI r27.2 .i64 aa (ac+9)).bind λn28=>(Hp.ldI r27.2 .i64 aa ((ac+9)+1)).bind λn29=>(Hp.ldSl r27.2 aa ((ac+9)+2)).bind λs30=>(f_ n28 n29 s30 n9 ah r27.2).bind λr31=>(Hp.ldI r31.2 .i64 aa (ac+12)).bind λn32=>(Hp.ldI r31.2 .i64 aa ((ac+12)+1)).bind λn33=>(Hp.ldSl r31.2 aa ((ac+12)+2)).bind λs34=>(fZ n32 n33 s34 n9 ah r31.2).bind λr35=>(Hp.ldI r35.2 .i64 aa (ac+6)).bind λn36=>(Hp.ldI r35.2 .i64 aa ((ac+6)+1)).bind λn37=>(Hp.ldSl r35.2 aa ((ac+6)+2)).bind λs38=>(aj n36 n37 s38 ah ah r35.2).bind λr39=>((r39.1).asP).bind λp40=>(Hp.ldI r39.2 .i64 p40.1 p40.2).bind λn41=>(bif (decide (n41<0)) then ((Hp.ldI r39.2 .i64 aa (ac+6)).bind λn42=>(Hp.ldI r39.2 .i64 aa ((ac+6)+1)).bind λn43=>(Hp.ldSl r39.2 aa ((ac+6)+2)).bind λs44=>(cZ n42 n43 s44 ah r39.2).bind λr45=>((r45.1).asSl).bind λs46=>(if bo r39.2 r45.2 then ((Hp.ldI r45.2 .i64 aa ac).bind λn47=>(Hp.ldI r45.2 .i64 aa (ac+1)).bind λn48=>(Hp.ldSl r45.2 aa (ac+2)).bind λs49=>(cZ n47 n48 s49 ah r45.2).bind λr50=>((r50.1).asSl).bind λs51=>(Hp.new r50.2 [(.sl s46),(.sl s51)]).bind λH52=>cb.l32745 F gy fZ f_ aj cZ F aa ac ah (⟨some (r50.2.length,0),2,.ex 2⟩:Sl) ((⟨some (r50.2.length,0),2,.ex 2⟩:Sl).n:Int) 0 H52) else none)) else (some ((.bool true),r39.2)))))
def cb.tw:=cb.twX F (bu.tw F) (dI.tw F) (dJ.tw F) (bY.tw F) (fU.tw F)
def cb.lh32745 (gy:am9) (fZ:am4) (f_:am4) (aj:am4) (cZ:ank) (ks:am6) (n:Nat) (tm:Tm) (H:Hp):OA:=match ks,tm 0,tm 1,tm 94,tm 95,tm 96 with
 | [],(.ptr rj rl),(.int .i64 j_),(.sl FZ),(.int .i64 F_),(.int .i64 Cy)=>cb.l32745 F gy fZ f_ aj cZ n rj rl j_ FZ F_ Cy H
 | _,_,_,_,_,_=>none
def cb.lh32747 (gy:am9) (fZ:am4) (f_:am4) (aj:am4) (cZ:ank) (ks:am6) (n:Nat) (tm:Tm) (H:Hp):OA:=match ks,tm 0,tm 1,tm 120,tm 121 with
 | [],(.ptr sW sX),(.int .i64 pP),(.int .i64 ri),(.int .i64 oh)=>cb.l32747 F gy fZ f_ aj cZ n sW sX pP ri oh H
 | _,_,_,_,_=>none
def cb.lh2095707 (gy:am9) (fZ:am4) (f_:am4) (aj:am4) (cZ:ank) (ks:am6) (n:Nat) (tm:Tm) (H:Hp):OA:=match ks,tm 0,tm 1,tm 9,tm 94,tm 95,tm 96,tm 101,tm 102 with
 | [J_],(.ptr FS FT),(.int .i64 FU),(.sl Cx),(.sl FV),(.int .i64 FW),(.int .i64 FX),(.int .i64 FY),(.int .i64 Af)=>cb.l2095707 F gy fZ f_ aj cZ (cb.l32745 F gy fZ f_ aj cZ J_) n FS FT FU FV FW FX Cx FY Af H
 | _,_,_,_,_,_,_,_,_=>none
def cb.lh (gy:am9) (fZ:am4) (f_:am4) (aj:am4) (cZ:ank) (p:Nat) (ks:am6) (n:Nat) (tm:Tm) (H:Hp):OA:=bif p.beq 2095707 then cb.lh2095707 F gy fZ f_ aj cZ ks n tm H else (bif p.beq 32747 then cb.lh32747 F gy fZ f_ aj cZ ks n tm H else (bif p.beq 32745 then cb.lh32745 F gy fZ f_ aj cZ ks n tm H else (none)))
def cb.pn:Nat->List Nat:=dM [(11,[13]),(23,[15,20])]
def cb.tb:Nat->List (List Nat):=dM [(11,[[],[0],[0,1],[0,1,2],[0,1,2,3],[],[0,1,2,3,4,5],[],[7],[7,8],[7,8,9],[7,8,9,10],[],[0,1,2,3,4,5,6,7,8,9,10,11,12],[0,1,2,3,4,5,6,7,8,9,10,11,12,13],[0,1,2,3,4,5,6,7,8,9,10,11,12,13,14],[]]),(23,[[],[0],[0,1],[0,1,2],[0,1,2,3],[],[],[0,1,2,3,4,5,6],[],[8],[8,9],[8,9,10],[8,9,10,11],[],[],[0,1,2,3,4,5,6,7,8,9,10,11,12,13,14],[0,1,2,3,4,5,6,7,8,9,10,11,12,13,14,15],[0,1,2,3,4,5,6,7,8,9,10,11,12,13,14,15,16],[0,1,2,3,4,5,6,7,8,9,10,11,12,13,14,15,16,17],[0,1,2,3,4,5,6,7,8,9,10,11,12,13,14,15,16,17,18],[0,1,2,3,4,5,6,7,8,9,10,11,12,13,14,15,16,17,18,19]])]
def cb.cs (F:Nat) (gy:am9) (fZ:am4) (f_:am4) (aj:am4) (cZ:ank):Cs:=[(115,mk12 gy),(116,mk9 fZ),(117,mk9 f_),(53,mk9 aj),(118,mk21 cZ)]
theorem cb.loops (gy:am9) (fZ:am4) (f_:am4) (aj:am4) (cZ:ank):LO (bl (cb.cs F gy fZ f_ aj cZ)) cb.pn (cb.lh F gy fZ f_ aj cZ) F Tryz.f98:=
 (ae.rt (ae.rt (ae.rt (ae.rt (ae.rt (ae.rt (ae.rt (ae.rt (ae.rt (ae.lt (ae.rt (ae.cond (ae.seq (ae.rt (ae.block (ae.la (λn tm H r h=>by change cb.lh32745 F gy fZ f_ aj cZ [] n tm H=_ at h;unfold cb.lh32745 at h;split at h;have e:c_ tm [(0,_),(1,_),(94,_),(95,_),(96,_)]:=⟨‹_›,‹_›,‹_›,‹_›,‹_›,trivial⟩;obtain _ | k32745:=n;cases h;exact ⟨_,rfl,by rw [<- db e];exact Eq.trans (by kernel_rfl) h⟩;cases h) λk32745=>(ae.rt (ae.rt (ae.lt (ae.block (ae.rt (ae.rt (ae.block (ae.la (λn tm H r h=>by change cb.lh2095707 F gy fZ f_ aj cZ [k32745] n tm H=_ at h;unfold cb.lh2095707 at h;split at h;have e:c_ tm [(0,_),(1,_),(9,_),(94,_),(95,_),(96,_),(101,_),(102,_)]:=⟨‹_›,‹_›,‹_›,‹_›,‹_›,‹_›,‹_›,‹_›,trivial⟩;cases (show [k32745]=_ from ‹_›);obtain _ | k2095707:=n;cases h;exact ⟨_,rfl,by rw [<- db e];exact Eq.trans (by kernel_rfl) h⟩;cases h) λk2095707=>ae.no))))))))))) (ae.rt (ae.block (ae.la (λn tm H r h=>by change cb.lh32747 F gy fZ f_ aj cZ [] n tm H=_ at h;unfold cb.lh32747 at h;split at h;have e:c_ tm [(0,_),(1,_),(120,_),(121,_)]:=⟨‹_›,‹_›,‹_›,‹_›,trivial⟩;obtain _ | k32747:=n;cases h;exact ⟨_,rfl,by rw [<- db e];exact Eq.trans (by kernel_rfl) h⟩;cases h) λk32747=>ae.no)))) ae.no))))))))))))
theorem cb.eqX (gy:am9) (fZ:am4) (f_:am4) (aj:am4) (cZ:ank) (aa:Nat) (ac:Nat) (ah:Int) (H:Hp):EX (bl (cb.cs F gy fZ f_ aj cZ)) cb.pn (cb.lh F gy fZ f_ aj cZ) F Tryz.f98 [(.ptr aa ac),(.int .i64 ah)] H=cb.twX F gy fZ f_ aj cZ aa ac ah H:=by kernel_rfl
theorem cb.k:Ok Tryz.prog 98 (mk12 (cb.tw F)):=by
 intro args H v H' h
 unfold mk12 at h
 split at h
 ·exact okT (TB:=cb.tb) Tryz.func98 (aR (bu.k F) (aR (dI.k F) (aR (dJ.k F) (aR (bY.k F) (aR (fU.k F) cD))))) (cb.loops F (bu.tw F) (dI.tw F) (dJ.tw F) (bY.tw F) (fU.tw F)) ((cb.eqX F (bu.tw F) (dI.tw F) (dJ.tw F) (bY.tw F) (fU.tw F) _ _ _ H).trans h) (by kernel_rfl)
 ·cases h
def ji.twX (F:Nat) (aa:Int) (au:Int) (H:Hp):OA:=(if au=0 then none else ((if au=0 then none else ((bif (decide ((Int.tmod aa au)<0)) then (some ((.int .i64 (wrap .i64 ((wrap .i64 (Int.tdiv aa au)) - 1))),H)) else (some ((.int .i64 (wrap .i64 (Int.tdiv aa au))),H)))))))
def ji.tw:=ji.twX F
theorem ji.k:Ok Tryz.prog 119 (mk8 (ji.tw F)):=by
 intro args H v H' h
 unfold mk8 at h
 split at h
 ·exact ok0 Tryz.func119 (Eq.trans (by kernel_rfl) h) (by kernel_rfl) (by kernel_rfl)
 ·cases h
def iK.twX (F:Nat) (eZ:am_) (aa:Int) (au:Int) (eA:Int) (H:Hp):OA:=(bif (aa != 0) then ((eZ au H).bind λr4=>((r4.1).asI .i64).bind λn5=>(eZ aa r4.2).bind λr6=>((r6.1).asI .i64).bind λn7=>(if n7=0 then none else ((bif (decide (n5>(wrap .i64 (Int.tdiv eA n7)))) then (some ((.tup [(.int .i64 0),(.bool false)]),r6.2)) else (some ((.tup [(.int .i64 (wrap .i64 (aa * au))),(.bool true)]),r6.2)))))) else (some ((.tup [(.int .i64 (wrap .i64 (aa * au))),(.bool true)]),H)))
def iK.tw:=iK.twX F (fC.tw F)
def iK.cs (F:Nat) (eZ:am_):Cs:=[(55,mk11 eZ)]
theorem iK.eqX (eZ:am_) (aa:Int) (au:Int) (eA:Int) (H:Hp):EX (bl (iK.cs F eZ)) bf lh0 F Tryz.f29 [(.int .i64 aa),(.int .i64 au),(.int .i64 eA)] H=iK.twX F eZ aa au eA H:=by kernel_rfl
theorem iK.k:Ok Tryz.prog 29 (mk5 (iK.tw F)):=by
 intro args H v H' h
 unfold mk5 at h
 split at h
 ·exact okT (TB:=bf) Tryz.func29 (aR (fC.k F) cD) ae.no ((iK.eqX F (fC.tw F) _ _ _ H).trans h) (by kernel_rfl)
 ·cases h
def il.twX (F:Nat) (Ag:ang) (eZ:am_) (aa:Nat) (ac:Nat) (ah:Nat) (aF:Nat) (ch:Int) (nm:Int) (H:Hp):OA:=(Ag ch nm 2000000000000 H).bind λr7=>((r7.1).asTup 2).bind λl8=>(l8[0]?).bind λv9=>((v9).asI .i64).bind λn10=>(l8[1]?).bind λv11=>((v11).asB).bind λb12=>(Hp.ldI r7.2 .i64 ah aF).bind λn13=>(Hp.st r7.2 ah aF (.int .i64 (wrap .i64 (n13+n10)))).bind λH14=>(bif (!b12) then ((Hp.st H14 aa (ac+15) (.bool true)).bind λH15=>(Hp.st H15 ah aF (.int .i64 0)).bind λH16=>some ((.tup []),H16)) else ((Hp.ldI H14 .i64 ah aF).bind λn17=>(eZ n17 H14).bind λr18=>((r18.1).asI .i64).bind λn19=>(bif (decide (n19>1000000000000)) then ((Hp.st r18.2 aa (ac+15) (.bool true)).bind λH20=>(Hp.st H20 ah aF (.int .i64 0)).bind λH21=>some ((.tup []),H21)) else (some ((.tup []),r18.2)))))
def il.tw:=il.twX F (iK.tw F) (fC.tw F)
def mk22 (g:anr) (args:anb) (H:Hp):OA:=match args with
 | [(.ptr aa ac),(.ptr ah aF),(.int .i64 ch),(.int .i64 nm)]=>g aa ac ah aF ch nm H
 | _=>none
theorem mk22_E (g:anr) (aa:Nat) (ac:Nat) (ah:Nat) (aF:Nat) (ch:Int) (nm:Int) (H:Hp):mk22 g [(.ptr aa ac),(.ptr ah aF),(.int .i64 ch),(.int .i64 nm)] H=g aa ac ah aF ch nm H:=rfl
def il.cs (F:Nat) (Ag:ang) (eZ:am_):Cs:=[(29,mk5 Ag),(55,mk11 eZ)]
theorem il.eqX (Ag:ang) (eZ:am_) (aa:Nat) (ac:Nat) (ah:Nat) (aF:Nat) (ch:Int) (nm:Int) (H:Hp):EX (bl (il.cs F Ag eZ)) bf lh0 F Tryz.f129 [(.ptr aa ac),(.ptr ah aF),(.int .i64 ch),(.int .i64 nm)] H=il.twX F Ag eZ aa ac ah aF ch nm H:=by kernel_rfl
theorem il.k:Ok Tryz.prog 129 (mk22 (il.tw F)):=by
 intro args H v H' h
 unfold mk22 at h
 split at h
 ·exact okT (TB:=bf) Tryz.func129 (aR (iK.k F) (aR (fC.k F) cD)) ae.no ((il.eqX F (iK.tw F) (fC.tw F) _ _ _ _ _ _ H).trans h) (by kernel_rfl)
 ·cases h
def dG.l7 (F:Nat) (aj:am4) (gG:anr) :Nat->Nat->Nat->Int->Int->Int->Nat->Nat->Int->Int->Hp->OA
 | 0,_,_,_,_,_,_,_,_,_,_=>none
 | mJ+1,iI,mO,eT,ig,fT,eD,mm,jr,gS,H23=>(bif (decide (gS<jr)) then ((Hp.ldI H23 .i64 eD mm).bind λn36=>(Hp.ldI H23 .i64 eD (mm+1)).bind λn37=>(Hp.ldSl H23 eD (mm+2)).bind λs38=>(aj n36 n37 s38 eT gS H23).bind λr39=>((r39.1).asP).bind λp40=>(if bo H23 r39.2 then ((Hp.ldI r39.2 .i64 eD mm).bind λn41=>(Hp.ldI r39.2 .i64 eD (mm+1)).bind λn42=>(Hp.ldSl r39.2 eD (mm+2)).bind λs43=>(aj n41 n42 s43 ig gS r39.2).bind λr44=>((r44.1).asP).bind λp45=>(Hp.ldI r44.2 .i64 p45.1 p45.2).bind λn46=>(gG iI mO p40.1 p40.2 n46 fT r44.2).bind λr47=>dG.l7 F aj gG mJ iI mO eT ig fT eD mm jr (wrap .i64 (gS+1)) r47.2) else none)) else (some ((.tup []),H23)))
termination_by structural n=>n
def dG.twX (aj:am4) (gG:anr) (aa:Nat) (ac:Nat) (ah:Int) (aF:Int) (fh:Sl) (dt:Int) (eX:Int) (eQ:Int) (H:Hp):OA:=(Hp.new H [(.int .i64 ah),(.int .i64 aF),(.sl fh)]).bind λH9=>(Hp.ldI H9 .i64 H.length 1).bind λn10=>dG.l7 F aj gG F aa ac dt eX eQ H.length 0 n10 0 H9
def dG.tw:=dG.twX F (bY.tw F) (il.tw F)
def dG.lh7 (aj:am4) (gG:anr) (ks:am6) (n:Nat) (tm:Tm) (H:Hp):OA:=match ks,tm 0,tm 2,tm 3,tm 4,tm 6,tm 12,tm 13 with
 | [],(.ptr iI mO),(.int .i64 eT),(.int .i64 ig),(.int .i64 fT),(.ptr eD mm),(.int .i64 jr),(.int .i64 gS)=>dG.l7 F aj gG n iI mO eT ig fT eD mm jr gS H
 | _,_,_,_,_,_,_,_=>none
def dG.lh (aj:am4) (gG:anr) (p:Nat) (ks:am6) (n:Nat) (tm:Tm) (H:Hp):OA:=bif p.beq 7 then dG.lh7 F aj gG ks n tm H else (none)
def dG.pn:Nat->List Nat:=dM [(4,[8,12])]
def dG.tb:Nat->List (List Nat):=dM [(4,[[],[],[],[],[1,2,3],[],[],[],[1,2,3,4,5,6,7],[1,2,3,4,5,6,7,8],[1,2,3,4,5,6,7,8,9],[],[0,1,2,3,4,5,6,7,8,9,10,11]])]
def dG.cs (F:Nat) (aj:am4) (gG:anr):Cs:=[(53,mk9 aj),(129,mk22 gG)]
theorem dG.loops (aj:am4) (gG:anr):LO (bl (dG.cs F aj gG)) dG.pn (dG.lh F aj gG) F Tryz.f123:=
 (ae.rt (ae.rt (ae.block (ae.la (λn tm H r h=>by change dG.lh7 F aj gG [] n tm H=_ at h;unfold dG.lh7 at h;split at h;have e:c_ tm [(0,_),(2,_),(3,_),(4,_),(6,_),(12,_),(13,_)]:=⟨‹_›,‹_›,‹_›,‹_›,‹_›,‹_›,‹_›,trivial⟩;obtain _ | k7:=n;cases h;exact ⟨_,rfl,by rw [<- db e];exact Eq.trans (by kernel_rfl) h⟩;cases h) λk7=>ae.no))))
theorem dG.eqX (aj:am4) (gG:anr) (aa:Nat) (ac:Nat) (ah:Int) (aF:Int) (fh:Sl) (dt:Int) (eX:Int) (eQ:Int) (H:Hp):EX (bl (dG.cs F aj gG)) dG.pn (dG.lh F aj gG) F Tryz.f123 [(.ptr aa ac),(.agg [(.int .i64 ah),(.int .i64 aF),(.sl fh)]),(.int .i64 dt),(.int .i64 eX),(.int .i64 eQ)] H=dG.twX F aj gG aa ac ah aF fh dt eX eQ H:=by kernel_rfl
theorem dG.k:Ok Tryz.prog 123 (mk13 (dG.tw F)):=by
 intro args H v H' h
 unfold mk13 at h
 split at h
 ·exact okT (TB:=dG.tb) Tryz.func123 (aR (bY.k F) (aR (il.k F) cD)) (dG.loops F (bY.tw F) (il.tw F)) ((dG.eqX F (bY.tw F) (il.tw F) _ _ _ _ _ _ _ _ H).trans h) (by kernel_rfl)
 ·cases h
def dH.l7 (F:Nat) (aj:am4) (gG:anr) :Nat->Nat->Nat->Int->Int->Int->Nat->Nat->Int->Int->Hp->OA
 | 0,_,_,_,_,_,_,_,_,_,_=>none
 | mJ+1,iI,mO,eT,ig,fT,eD,mm,jr,gS,H23=>(bif (decide (gS<jr)) then ((Hp.ldI H23 .i64 eD mm).bind λn36=>(Hp.ldI H23 .i64 eD (mm+1)).bind λn37=>(Hp.ldSl H23 eD (mm+2)).bind λs38=>(aj n36 n37 s38 gS eT H23).bind λr39=>((r39.1).asP).bind λp40=>(if bo H23 r39.2 then ((Hp.ldI r39.2 .i64 eD mm).bind λn41=>(Hp.ldI r39.2 .i64 eD (mm+1)).bind λn42=>(Hp.ldSl r39.2 eD (mm+2)).bind λs43=>(aj n41 n42 s43 gS ig r39.2).bind λr44=>((r44.1).asP).bind λp45=>(Hp.ldI r44.2 .i64 p45.1 p45.2).bind λn46=>(gG iI mO p40.1 p40.2 n46 fT r44.2).bind λr47=>dH.l7 F aj gG mJ iI mO eT ig fT eD mm jr (wrap .i64 (gS+1)) r47.2) else none)) else (some ((.tup []),H23)))
termination_by structural n=>n
def dH.twX (aj:am4) (gG:anr) (aa:Nat) (ac:Nat) (ah:Int) (aF:Int) (fh:Sl) (dt:Int) (eX:Int) (eQ:Int) (H:Hp):OA:=(Hp.new H [(.int .i64 ah),(.int .i64 aF),(.sl fh)]).bind λH9=>(Hp.ldI H9 .i64 H.length 0).bind λn10=>dH.l7 F aj gG F aa ac dt eX eQ H.length 0 n10 0 H9
def dH.tw:=dH.twX F (bY.tw F) (il.tw F)
def dH.lh7 (aj:am4) (gG:anr) (ks:am6) (n:Nat) (tm:Tm) (H:Hp):OA:=match ks,tm 0,tm 2,tm 3,tm 4,tm 6,tm 12,tm 13 with
 | [],(.ptr iI mO),(.int .i64 eT),(.int .i64 ig),(.int .i64 fT),(.ptr eD mm),(.int .i64 jr),(.int .i64 gS)=>dH.l7 F aj gG n iI mO eT ig fT eD mm jr gS H
 | _,_,_,_,_,_,_,_=>none
def dH.lh (aj:am4) (gG:anr) (p:Nat) (ks:am6) (n:Nat) (tm:Tm) (H:Hp):OA:=bif p.beq 7 then dH.lh7 F aj gG ks n tm H else (none)
def dH.pn:Nat->List Nat:=dM [(4,[8,12])]
def dH.tb:Nat->List (List Nat):=dM [(4,[[],[],[],[],[1,2,3],[],[],[],[1,2,3,4,5,6,7],[1,2,3,4,5,6,7,8],[1,2,3,4,5,6,7,8,9],[],[0,1,2,3,4,5,6,7,8,9,10,11]])]
def dH.cs (F:Nat) (aj:am4) (gG:anr):Cs:=[(53,mk9 aj),(129,mk22 gG)]
theorem dH.loops (aj:am4) (gG:anr):LO (bl (dH.cs F aj gG)) dH.pn (dH.lh F aj gG) F Tryz.f124:=
 (ae.rt (ae.rt (ae.block (ae.la (λn tm H r h=>by change dH.lh7 F aj gG [] n tm H=_ at h;unfold dH.lh7 at h;split at h;have e:c_ tm [(0,_),(2,_),(3,_),(4,_),(6,_),(12,_),(13,_)]:=⟨‹_›,‹_›,‹_›,‹_›,‹_›,‹_›,‹_›,trivial⟩;obtain _ | k7:=n;cases h;exact ⟨_,rfl,by rw [<- db e];exact Eq.trans (by kernel_rfl) h⟩;cases h) λk7=>ae.no))))
theorem dH.eqX (aj:am4) (gG:anr) (aa:Nat) (ac:Nat) (ah:Int) (aF:Int) (fh:Sl) (dt:Int) (eX:Int) (eQ:Int) (H:Hp):EX (bl (dH.cs F aj gG)) dH.pn (dH.lh F aj gG) F Tryz.f124 [(.ptr aa ac),(.agg [(.int .i64 ah),(.int .i64 aF),(.sl fh)]),(.int .i64 dt),(.int .i64 eX),(.int .i64 eQ)] H=dH.twX F aj gG aa ac ah aF fh dt eX eQ H:=by kernel_rfl
theorem dH.k:Ok Tryz.prog 124 (mk13 (dH.tw F)):=by
 intro args H v H' h
 unfold mk13 at h
 split at h
 ·exact okT (TB:=dH.tb) Tryz.func124 (aR (bY.k F) (aR (il.k F) cD)) (dH.loops F (bY.tw F) (il.tw F)) ((dH.eqX F (bY.tw F) (il.tw F) _ _ _ _ _ _ _ _ H).trans h) (by kernel_rfl)
 ·cases h
def fV.twX (F:Nat) (oZ:anj) (o_:anj) (aa:Nat) (ac:Nat) (ah:Int) (cH:Int) (d_:Int) (H:Hp):OA:=(Hp.ldI H .i64 aa (ac+6)).bind λn6=>(Hp.ldI H .i64 aa ((ac+6)+1)).bind λn7=>(Hp.ldSl H aa ((ac+6)+2)).bind λs8=>(oZ aa ac n6 n7 s8 ah cH d_ H).bind λr9=>(Hp.ldI r9.2 .i64 aa ac).bind λn10=>(Hp.ldI r9.2 .i64 aa (ac+1)).bind λn11=>(Hp.ldSl r9.2 aa (ac+2)).bind λs12=>(oZ aa ac n10 n11 s12 ah cH d_ r9.2).bind λr13=>(Hp.ldI r13.2 .i64 aa (ac+3)).bind λn14=>(Hp.ldI r13.2 .i64 aa ((ac+3)+1)).bind λn15=>(Hp.ldSl r13.2 aa ((ac+3)+2)).bind λs16=>(o_ aa ac n14 n15 s16 cH ah (wrap .i64 (0 - d_)) r13.2).bind λr17=>some ((.tup []),r17.2)
def fV.tw:=fV.twX F (dG.tw F) (dH.tw F)
def fV.cs (F:Nat) (oZ:anj) (o_:anj):Cs:=[(123,mk13 oZ),(124,mk13 o_)]
theorem fV.eqX (oZ:anj) (o_:anj) (aa:Nat) (ac:Nat) (ah:Int) (cH:Int) (d_:Int) (H:Hp):EX (bl (fV.cs F oZ o_)) bf lh0 F Tryz.f102 [(.ptr aa ac),(.int .i64 ah),(.int .i64 cH),(.int .i64 d_)] H=fV.twX F oZ o_ aa ac ah cH d_ H:=by kernel_rfl
theorem fV.k:Ok Tryz.prog 102 (mk14 (fV.tw F)):=by
 intro args H v H' h
 unfold mk14 at h
 split at h
 ·exact okT (TB:=bf) Tryz.func102 (aR (dG.k F) (aR (dH.k F) cD)) ae.no ((fV.eqX F (dG.tw F) (dH.tw F) _ _ _ _ _ H).trans h) (by kernel_rfl)
 ·cases h
def iA.twX (F:Nat) (o_:anj) (oZ:anj) (aa:Nat) (ac:Nat) (ah:Int) (cH:Int) (d_:Int) (H:Hp):OA:=(Hp.ldI H .i64 aa (ac+6)).bind λn6=>(Hp.ldI H .i64 aa ((ac+6)+1)).bind λn7=>(Hp.ldSl H aa ((ac+6)+2)).bind λs8=>(o_ aa ac n6 n7 s8 ah cH d_ H).bind λr9=>(Hp.ldI r9.2 .i64 aa (ac+9)).bind λn10=>(Hp.ldI r9.2 .i64 aa ((ac+9)+1)).bind λn11=>(Hp.ldSl r9.2 aa ((ac+9)+2)).bind λs12=>(o_ aa ac n10 n11 s12 ah cH d_ r9.2).bind λr13=>(Hp.ldI r13.2 .i64 aa (ac+12)).bind λn14=>(Hp.ldI r13.2 .i64 aa ((ac+12)+1)).bind λn15=>(Hp.ldSl r13.2 aa ((ac+12)+2)).bind λs16=>(oZ aa ac n14 n15 s16 cH ah (wrap .i64 (0 - d_)) r13.2).bind λr17=>some ((.tup []),r17.2)
def iA.tw:=iA.twX F (dH.tw F) (dG.tw F)
def iA.cs (F:Nat) (o_:anj) (oZ:anj):Cs:=[(124,mk13 o_),(123,mk13 oZ)]
theorem iA.eqX (o_:anj) (oZ:anj) (aa:Nat) (ac:Nat) (ah:Int) (cH:Int) (d_:Int) (H:Hp):EX (bl (iA.cs F o_ oZ)) bf lh0 F Tryz.f120 [(.ptr aa ac),(.int .i64 ah),(.int .i64 cH),(.int .i64 d_)] H=iA.twX F o_ oZ aa ac ah cH d_ H:=by kernel_rfl
theorem iA.k:Ok Tryz.prog 120 (mk14 (iA.tw F)):=by
 intro args H v H' h
 unfold mk14 at h
 split at h
 ·exact okT (TB:=bf) Tryz.func120 (aR (dH.k F) (aR (dG.k F) cD)) ae.no ((iA.eqX F (dH.tw F) (dG.tw F) _ _ _ _ _ H).trans h) (by kernel_rfl)
 ·cases h
def bh.j3 (F:Nat) (aj:am4) (gH:ana) (dV:anf) (gN:anf) (C15_:an4) (aeu:Nat) (aev:Nat) (Ah:Int) (Ga:Nat) (aew:Nat) (Ai:Int) (H119:Hp):OA:=C15_ aeu aev Ah Ga aew (wrap .i64 (Ai+1)) H119
def bh.l15 (F:Nat) (aj:am4) (gH:ana) (dV:anf) (gN:anf) :Nat->Nat->Nat->Int->Nat->Nat->Int->Hp->OA
 | 0,_,_,_,_,_,_,_=>none
 | Us+1,rj,rl,j_,kr,nV,nn,H61=>(Hp.ldI H61 .i64 kr (nV+1)).bind λn91=>(bif (decide (nn<n91)) then ((Hp.ldB H61 rj (rl+15)).bind λb92=>(bif (!b92) then ((Hp.ldI H61 .i64 kr nV).bind λn93=>(Hp.ldI H61 .i64 kr (nV+1)).bind λn94=>(Hp.ldSl H61 kr (nV+2)).bind λs95=>(aj n93 n94 s95 j_ nn H61).bind λr96=>((r96.1).asP).bind λp97=>(if bo H61 r96.2 then ((Hp.ldI r96.2 .i64 p97.1 p97.2).bind λn98=>(Hp.ldI r96.2 .i64 kr nV).bind λn99=>(Hp.ldI r96.2 .i64 kr (nV+1)).bind λn100=>(Hp.ldSl r96.2 kr (nV+2)).bind λs101=>(aj n99 n100 s101 j_ j_ r96.2).bind λr102=>((r102.1).asP).bind λp103=>(if bo r96.2 r102.2 then ((Hp.ldI r102.2 .i64 p103.1 p103.2).bind λn104=>(gH n98 n104 r102.2).bind λr105=>((r105.1).asI .i64).bind λn106=>(bif (n106 != 0) then ((gN rj rl nn j_ (wrap .i64 (0 - n106)) r105.2).bind λr107=>bh.j3 F aj gH dV gN (bh.l15 F aj gH dV gN Us) rj rl j_ kr nV nn r107.2) else (bh.j3 F aj gH dV gN (bh.l15 F aj gH dV gN Us) rj rl j_ kr nV nn r105.2))) else none)) else none)) else (some ((.tup []),H61)))) else (some ((.tup []),H61)))
termination_by structural n=>n
def bh.j4 (aj:am4) (gH:ana) (dV:anf) (gN:anf) (aex:Nat) (aey:Nat) (ue:Int) (Gb:Nat) (aez:Nat) (H52:Hp):OA:=bh.l15 F aj gH dV gN F aex aey ue Gb aez (wrap .i64 (ue+1)) H52
def bh.j5 (F:Nat) (aj:am4) (gH:ana) (dV:anf) (gN:anf) (C13_:an4) (aeA:Nat) (aeB:Nat) (Aj:Int) (xR:Nat) (tT:Nat) (Ak:Int) (H146:Hp):OA:=C13_ aeA aeB Aj xR tT (wrap .i64 (Ak+1)) H146
def bh.l13 (F:Nat) (aj:am4) (gH:ana) (dV:anf) (gN:anf) :Nat->Nat->Nat->Int->Nat->Nat->Int->Hp->OA
 | 0,_,_,_,_,_,_,_=>none
 | jc+1,iI,mO,eY,gK,pQ,jD,H17=>(Hp.ldI H17 .i64 gK pQ).bind λn120=>(bif (decide (jD<n120)) then ((Hp.ldB H17 iI (mO+15)).bind λb121=>(bif (!b121) then ((Hp.ldI H17 .i64 gK pQ).bind λn122=>(Hp.ldI H17 .i64 gK (pQ+1)).bind λn123=>(Hp.ldSl H17 gK (pQ+2)).bind λs124=>(aj n122 n123 s124 jD eY H17).bind λr125=>((r125.1).asP).bind λp126=>(if bo H17 r125.2 then ((Hp.ldI r125.2 .i64 p126.1 p126.2).bind λn127=>(Hp.ldI r125.2 .i64 gK pQ).bind λn128=>(Hp.ldI r125.2 .i64 gK (pQ+1)).bind λn129=>(Hp.ldSl r125.2 gK (pQ+2)).bind λs130=>(aj n128 n129 s130 eY eY r125.2).bind λr131=>((r131.1).asP).bind λp132=>(if bo r125.2 r131.2 then ((Hp.ldI r131.2 .i64 p132.1 p132.2).bind λn133=>(gH n127 n133 r131.2).bind λr134=>((r134.1).asI .i64).bind λn135=>(bif (n135 != 0) then ((dV iI mO jD eY (wrap .i64 (0 - n135)) r134.2).bind λr136=>bh.j5 F aj gH dV gN (bh.l13 F aj gH dV gN jc) iI mO eY gK pQ jD r136.2) else (bh.j5 F aj gH dV gN (bh.l13 F aj gH dV gN jc) iI mO eY gK pQ jD r134.2))) else none)) else none)) else (bh.j4 F aj gH dV gN iI mO eY gK pQ H17))) else (bh.j4 F aj gH dV gN iI mO eY gK pQ H17))
termination_by structural n=>n
def bh.twX (aj:am4) (gH:ana) (dV:anf) (gN:anf) (aa:Nat) (ac:Nat) (ah:Int) (H:Hp):OA:=(Hp.ldI H .i64 aa (ac+6)).bind λn4=>(Hp.ldI H .i64 aa ((ac+6)+1)).bind λn5=>(Hp.ldSl H aa ((ac+6)+2)).bind λs6=>(Hp.new H [.int .i64 0,.int .i64 0,.sl ⟨none,0,.ex 0⟩]).bind λH7=>(Hp.st H7 H.length 0 (.int .i64 n4)).bind λH8=>(Hp.st H8 H.length (0+1) (.int .i64 n5)).bind λH9=>(Hp.st H9 H.length (0+1+1) (.sl s6)).bind λH10=>bh.l13 F aj gH dV gN F aa ac ah H.length 0 (wrap .i64 (ah+1)) H10
def bh.tw:=bh.twX F (bY.tw F) (ji.tw F) (fV.tw F) (iA.tw F)
def bh.lh13 (aj:am4) (gH:ana) (dV:anf) (gN:anf) (ks:am6) (n:Nat) (tm:Tm) (H:Hp):OA:=match ks,tm 0,tm 1,tm 4,tm 5 with
 | [],(.ptr iI mO),(.int .i64 eY),(.ptr gK pQ),(.int .i64 jD)=>bh.l13 F aj gH dV gN n iI mO eY gK pQ jD H
 | _,_,_,_,_=>none
def bh.lh15 (aj:am4) (gH:ana) (dV:anf) (gN:anf) (ks:am6) (n:Nat) (tm:Tm) (H:Hp):OA:=match ks,tm 0,tm 1,tm 4,tm 7 with
 | [],(.ptr rj rl),(.int .i64 j_),(.ptr kr nV),(.int .i64 nn)=>bh.l15 F aj gH dV gN n rj rl j_ kr nV nn H
 | _,_,_,_,_=>none
def bh.lh (aj:am4) (gH:ana) (dV:anf) (gN:anf) (p:Nat) (ks:am6) (n:Nat) (tm:Tm) (H:Hp):OA:=bif p.beq 15 then bh.lh15 F aj gH dV gN ks n tm H else (bif p.beq 13 then bh.lh13 F aj gH dV gN ks n tm H else (none))
def bh.pn:Nat->List Nat:=dM [(4,[12]),(10,[12])]
def bh.tb:Nat->List (List Nat):=dM [(4,[[],[],[],[0,1,2],[0,1,2,3],[0,1,2,3,4],[],[],[],[0,1,2,3,6,7,8],[0,1,2,3,6,7,8,9],[0,1,2,3,6,7,8,9,10],[0,1,2,3,4,5,6,7,8,9,10,11],[0,1,2,3,4,5,6,7,8,9,10,11,12]]),(10,[[],[],[],[0,1,2],[0,1,2,3],[0,1,2,3,4],[],[],[],[0,1,2,3,6,7,8],[0,1,2,3,6,7,8,9],[0,1,2,3,6,7,8,9,10],[0,1,2,3,4,5,6,7,8,9,10,11],[0,1,2,3,4,5,6,7,8,9,10,11,12]])]
def bh.cs (F:Nat) (aj:am4) (gH:ana) (dV:anf) (gN:anf):Cs:=[(53,mk9 aj),(119,mk8 gH),(102,mk14 dV),(120,mk14 gN)]
theorem bh.loops (aj:am4) (gH:ana) (dV:anf) (gN:anf):LO (bl (bh.cs F aj gH dV gN)) bh.pn (bh.lh F aj gH dV gN) F Tryz.f99:=
 (ae.rt (ae.seq (ae.rt (ae.block (ae.la (λn tm H r h=>by change bh.lh13 F aj gH dV gN [] n tm H=_ at h;unfold bh.lh13 at h;split at h;have e:c_ tm [(0,_),(1,_),(4,_),(5,_)]:=⟨‹_›,‹_›,‹_›,‹_›,trivial⟩;obtain _ | k13:=n;cases h;exact ⟨_,rfl,by rw [<- db e];exact Eq.trans (by kernel_rfl) h⟩;cases h) λk13=>ae.no))) (ae.rt (ae.block (ae.la (λn tm H r h=>by change bh.lh15 F aj gH dV gN [] n tm H=_ at h;unfold bh.lh15 at h;split at h;have e:c_ tm [(0,_),(1,_),(4,_),(7,_)]:=⟨‹_›,‹_›,‹_›,‹_›,trivial⟩;obtain _ | k15:=n;cases h;exact ⟨_,rfl,by rw [<- db e];exact Eq.trans (by kernel_rfl) h⟩;cases h) λk15=>ae.no)))))
theorem bh.eqX (aj:am4) (gH:ana) (dV:anf) (gN:anf) (aa:Nat) (ac:Nat) (ah:Int) (H:Hp):EX (bl (bh.cs F aj gH dV gN)) bh.pn (bh.lh F aj gH dV gN) F Tryz.f99 [(.ptr aa ac),(.int .i64 ah)] H=bh.twX F aj gH dV gN aa ac ah H:=by kernel_rfl
theorem bh.k:Ok Tryz.prog 99 (mk12 (bh.tw F)):=by
 intro args H v H' h
 unfold mk12 at h
 split at h
 ·exact okT (TB:=bh.tb) Tryz.func99 (aR (bY.k F) (aR (ji.k F) (aR (fV.k F) (aR (iA.k F) cD)))) (bh.loops F (bY.tw F) (ji.tw F) (fV.tw F) (iA.tw F)) ((bh.eqX F (bY.tw F) (ji.tw F) (fV.tw F) (iA.tw F) _ _ _ H).trans h) (by kernel_rfl)
 ·cases h
def k_.twX (F:Nat) (aa:Int) (H:Hp):OA:=some ((.bool (aa != 0)),H)
def k_.tw:=k_.twX F
theorem k_.k:Ok Tryz.prog 121 (mk11 (k_.tw F)):=by
 intro args H v H' h
 unfold mk11 at h
 split at h
 ·exact ok0 Tryz.func121 (Eq.trans (by kernel_rfl) h) (by kernel_rfl) (by kernel_rfl)
 ·cases h
def e_.l13 (F:Nat) (mP:am_) :Nat->Sl->Int->Int->Hp->OA
 | 0,_,_,_,_=>none
 | jc+1,l_,fm,ed,H6=>(bif (decide (ed<fm)) then ((Sl.idx l_ ed 1).bind λp11=>(Hp.ldI H6 .i64 p11.1 p11.2).bind λn12=>(mP n12 H6).bind λr13=>((r13.1).asB).bind λb14=>(bif b14 then (some ((.int .i64 ed),r13.2)) else (e_.l13 F mP jc l_ fm (wrap .i64 (ed+1)) r13.2))) else (some ((.int .i64 (-1)),H6)))
def e_.twX (mP:am_) (aa:Sl) (H:Hp):OA:=e_.l13 F mP F aa (aa.n:Int) 0 H
def e_.tw:=e_.twX F (k_.tw F)
def e_.lh13 (mP:am_) (ks:am6) (n:Nat) (tm:Tm) (H:Hp):OA:=match ks,tm 0,tm 1,tm 7,tm 8 with
 | [],(.sl l_),(.fn 121 []),(.int .i64 fm),(.int .i64 ed)=>e_.l13 F mP n l_ fm ed H
 | _,_,_,_,_=>none
def e_.lh (mP:am_) (p:Nat) (ks:am6) (n:Nat) (tm:Tm) (H:Hp):OA:=bif p.beq 13 then e_.lh13 F mP ks n tm H else (none)
def mk23 (g:am7) (args:anb) (H:Hp):OA:=match args with
 | [(.sl aa),(.fn 121 [])]=>g aa H
 | _=>none
theorem mk23_E (g:am7) (aa:Sl) (H:Hp):mk23 g [(.sl aa),(.fn 121 [])] H=g aa H:=rfl
def e_.cs (F:Nat) (mP:am_):Cs:=[(121,mk11 mP)]
theorem e_.loops (mP:am_):LO (bl (e_.cs F mP)) bf (e_.lh F mP) F Tryz.f103:=
 (ae.rt (ae.lt (ae.rt (ae.block (ae.la (λn tm H r h=>by change e_.lh13 F mP [] n tm H=_ at h;unfold e_.lh13 at h;split at h;have e:c_ tm [(0,_),(1,_),(7,_),(8,_)]:=⟨‹_›,‹_›,‹_›,‹_›,trivial⟩;obtain _ | k13:=n;cases h;exact ⟨_,rfl,by rw [<- db e];exact Eq.trans (by kernel_rfl) h⟩;cases h) λk13=>ae.no)))))
theorem e_.eqX (mP:am_) (aa:Sl) (H:Hp):EX (bl (e_.cs F mP)) bf (e_.lh F mP) F Tryz.f103 [(.sl aa),(.fn 121 [])] H=e_.twX F mP aa H:=by kernel_rfl
theorem e_.k:Ok Tryz.prog 103 (mk23 (e_.tw F)):=by
 intro args H v H' h
 unfold mk23 at h
 split at h
 ·exact okT (TB:=bf) Tryz.func103 (aR (k_.k F) cD) (e_.loops F (k_.tw F)) ((e_.eqX F (k_.tw F) _ H).trans h) (by kernel_rfl)
 ·cases h
def js.twX (F:Nat) (Al:am7) (aa:Sl) (H:Hp):OA:=(Al aa H).bind λr2=>((r2.1).asI .i64).bind λn3=>some ((.bool (decide (n3>=0))),r2.2)
def js.tw:=js.twX F (e_.tw F)
def js.cs (F:Nat) (Al:am7):Cs:=[(103,mk23 Al)]
theorem js.eqX (Al:am7) (aa:Sl) (H:Hp):EX (bl (js.cs F Al)) bf lh0 F Tryz.f78 [(.sl aa),(.fn 121 [])] H=js.twX F Al aa H:=by kernel_rfl
theorem js.k:Ok Tryz.prog 78 (mk23 (js.tw F)):=by
 intro args H v H' h
 unfold mk23 at h
 split at h
 ·exact okT (TB:=bf) Tryz.func78 (aR (e_.k F) cD) ae.no ((js.eqX F (e_.tw F) _ H).trans h) (by kernel_rfl)
 ·cases h
def dw.j1 (F:Nat) (aj:am4) (cZ:ank) (ly:am7) (ug:Int) (Am:Nat) (Ka:Nat) (H34:Hp):OA:=(Hp.ldI H34 .i64 Am Ka).bind λn35=>(Hp.ldI H34 .i64 Am (Ka+1)).bind λn36=>(Hp.ldSl H34 Am (Ka+2)).bind λs37=>(cZ n35 n36 s37 ug H34).bind λr38=>((r38.1).asSl).bind λs39=>(Sl.cut s39 1 (wrap .i64 (ug+1)) (s39.n:Int)).bind λs40=>(ly s40 r38.2).bind λr41=>((r41.1).asB).bind λb42=>some ((.bool (!b42)),r41.2)
def dw.l29 (F:Nat) (aj:am4) (cZ:ank) (ly:am7) :Nat->Int->Nat->Nat->Int->Hp->OA
 | 0,_,_,_,_,_=>none
 | fG+1,eY,fS,jD,pR,H18=>(Hp.ldI H18 .i64 fS jD).bind λn43=>(bif (decide (pR<n43)) then ((Hp.ldI H18 .i64 fS jD).bind λn44=>(Hp.ldI H18 .i64 fS (jD+1)).bind λn45=>(Hp.ldSl H18 fS (jD+2)).bind λs46=>(aj n44 n45 s46 pR eY H18).bind λr47=>((r47.1).asP).bind λp48=>(Hp.ldI r47.2 .i64 p48.1 p48.2).bind λn49=>(bif (n49 != 0) then (some ((.bool false),r47.2)) else (dw.l29 F aj cZ ly fG eY fS jD (wrap .i64 (pR+1)) r47.2))) else (dw.j1 F aj cZ ly eY fS jD H18))
termination_by structural n=>n
def dw.twX (aj:am4) (cZ:ank) (ly:am7) (aa:Nat) (ac:Nat) (ah:Int) (H:Hp):OA:=(Hp.ldI H .i64 aa (ac+6)).bind λn4=>(Hp.ldI H .i64 aa ((ac+6)+1)).bind λn5=>(Hp.ldSl H aa ((ac+6)+2)).bind λs6=>(Hp.new H [.int .i64 0,.int .i64 0,.sl ⟨none,0,.ex 0⟩]).bind λH7=>(Hp.st H7 H.length 0 (.int .i64 n4)).bind λH8=>(Hp.st H8 H.length (0+1) (.int .i64 n5)).bind λH9=>(Hp.st H9 H.length (0+1+1) (.sl s6)).bind λH10=>dw.l29 F aj cZ ly F ah H.length 0 (wrap .i64 (ah+1)) H10
def dw.tw:=dw.twX F (bY.tw F) (fU.tw F) (js.tw F)
def dw.lh29 (aj:am4) (cZ:ank) (ly:am7) (ks:am6) (n:Nat) (tm:Tm) (H:Hp):OA:=match ks,tm 1,tm 5,tm 6 with
 | [],(.int .i64 eY),(.ptr fS jD),(.int .i64 pR)=>dw.l29 F aj cZ ly n eY fS jD pR H
 | _,_,_,_=>none
def dw.lh (aj:am4) (cZ:ank) (ly:am7) (p:Nat) (ks:am6) (n:Nat) (tm:Tm) (H:Hp):OA:=bif p.beq 29 then dw.lh29 F aj cZ ly ks n tm H else (none)
def dw.cs (F:Nat) (aj:am4) (cZ:ank) (ly:am7):Cs:=[(53,mk9 aj),(118,mk21 cZ),(78,mk23 ly)]
theorem dw.loops (aj:am4) (cZ:ank) (ly:am7):LO (bl (dw.cs F aj cZ ly)) bf (dw.lh F aj cZ ly) F Tryz.f100:=
 (ae.rt (ae.rt (ae.lt (ae.rt (ae.block (ae.la (λn tm H r h=>by change dw.lh29 F aj cZ ly [] n tm H=_ at h;unfold dw.lh29 at h;split at h;have e:c_ tm [(1,_),(5,_),(6,_)]:=⟨‹_›,‹_›,‹_›,trivial⟩;obtain _ | k29:=n;cases h;exact ⟨_,rfl,by rw [<- db e];exact Eq.trans (by kernel_rfl) h⟩;cases h) λk29=>ae.no))))))
theorem dw.eqX (aj:am4) (cZ:ank) (ly:am7) (aa:Nat) (ac:Nat) (ah:Int) (H:Hp):EX (bl (dw.cs F aj cZ ly)) bf (dw.lh F aj cZ ly) F Tryz.f100 [(.ptr aa ac),(.int .i64 ah)] H=dw.twX F aj cZ ly aa ac ah H:=by kernel_rfl
theorem dw.k:Ok Tryz.prog 100 (mk12 (dw.tw F)):=by
 intro args H v H' h
 unfold mk12 at h
 split at h
 ·exact okT (TB:=bf) Tryz.func100 (aR (bY.k F) (aR (fU.k F) (aR (js.k F) cD))) (dw.loops F (bY.tw F) (fU.tw F) (js.tw F)) ((dw.eqX F (bY.tw F) (fU.tw F) (js.tw F) _ _ _ H).trans h) (by kernel_rfl)
 ·cases h
def jE.twX (F:Nat) (aj:am4) (aa:Int) (au:Nat) (ah:Nat) (cH:Nat) (ch:Nat) (H:Hp):OA:=(Hp.ldI H .i64 au ah).bind λn6=>(Hp.ldI H .i64 au (ah+1)).bind λn7=>(Hp.ldSl H au (ah+2)).bind λs8=>(Hp.ldI H .i64 cH ch).bind λn9=>(Hp.ldI H .i64 cH ch).bind λn10=>(aj n6 n7 s8 n9 n10 H).bind λr11=>((r11.1).asP).bind λp12=>(Hp.ldI r11.2 .i64 p12.1 p12.2).bind λn13=>(if n13=0 then none else (some ((.bool ((Int.tmod aa n13) != 0)),r11.2)))
def jE.tw:=jE.twX F (bY.tw F)
def mk24 (g:anE) (args:anb) (H:Hp):OA:=match args with
 | [(.int .i64 aa),(.ptr au ah),(.ptr cH ch)]=>g aa au ah cH ch H
 | _=>none
theorem mk24_E (g:anE) (aa:Int) (au:Nat) (ah:Nat) (cH:Nat) (ch:Nat) (H:Hp):mk24 g [(.int .i64 aa),(.ptr au ah),(.ptr cH ch)] H=g aa au ah cH ch H:=rfl
def jE.cs (F:Nat) (aj:am4):Cs:=[(53,mk9 aj)]
theorem jE.eqX (aj:am4) (aa:Int) (au:Nat) (ah:Nat) (cH:Nat) (ch:Nat) (H:Hp):EX (bl (jE.cs F aj)) bf lh0 F Tryz.f122 [(.int .i64 aa),(.ptr au ah),(.ptr cH ch)] H=jE.twX F aj aa au ah cH ch H:=by kernel_rfl
theorem jE.k:Ok Tryz.prog 122 (mk24 (jE.tw F)):=by
 intro args H v H' h
 unfold mk24 at h
 split at h
 ·exact okT (TB:=bf) Tryz.func122 (aR (bY.k F) cD) ae.no ((jE.eqX F (bY.tw F) _ _ _ _ _ H).trans h) (by kernel_rfl)
 ·cases h
def fa.l13 (F:Nat) (mQ:anE) :Nat->Sl->Nat->Nat->Nat->Nat->Int->Int->Hp->OA
 | 0,_,_,_,_,_,_,_,_=>none
 | jc+1,lZ,au,ah,aF,fh,rm,ol,H10=>(bif (decide (ol<rm)) then ((Sl.idx lZ ol 1).bind λp15=>(Hp.ldI H10 .i64 p15.1 p15.2).bind λn16=>(mQ n16 au ah aF fh H10).bind λr17=>((r17.1).asB).bind λb18=>(bif b18 then (some ((.int .i64 ol),r17.2)) else (fa.l13 F mQ jc lZ au ah aF fh rm (wrap .i64 (ol+1)) r17.2))) else (some ((.int .i64 (-1)),H10)))
termination_by structural n=>n
def fa.twX (mQ:anE) (aa:Sl) (au:Nat) (ah:Nat) (aF:Nat) (fh:Nat) (H:Hp):OA:=fa.l13 F mQ F aa au ah aF fh (aa.n:Int) 0 H
def fa.tw:=fa.twX F (jE.tw F)
def fa.lh13 (mQ:anE) (ks:am6) (n:Nat) (tm:Tm) (H:Hp):OA:=match ks,tm 0,tm 1,tm 7,tm 8 with
 | [],(.sl lZ),(.fn 122 [(.ptr au ah),(.ptr aF fh)]),(.int .i64 rm),(.int .i64 ol)=>fa.l13 F mQ n lZ au ah aF fh rm ol H
 | _,_,_,_,_=>none
def fa.lh (mQ:anE) (p:Nat) (ks:am6) (n:Nat) (tm:Tm) (H:Hp):OA:=bif p.beq 13 then fa.lh13 F mQ ks n tm H else (none)
def mk25 (g:anz) (args:anb) (H:Hp):OA:=match args with
 | [(.sl aa),(.fn 122 [(.ptr au ah),(.ptr aF fh)])]=>g aa au ah aF fh H
 | _=>none
theorem mk25_E (g:anz) (aa:Sl) (au:Nat) (ah:Nat) (aF:Nat) (fh:Nat) (H:Hp):mk25 g [(.sl aa),(.fn 122 [(.ptr au ah),(.ptr aF fh)])] H=g aa au ah aF fh H:=rfl
def fa.cs (F:Nat) (mQ:anE):Cs:=[(122,mk24 mQ)]
theorem fa.loops (mQ:anE):LO (bl (fa.cs F mQ)) bf (fa.lh F mQ) F Tryz.f103:=
 (ae.rt (ae.lt (ae.rt (ae.block (ae.la (λn tm H r h=>by change fa.lh13 F mQ [] n tm H=_ at h;unfold fa.lh13 at h;split at h;have e:c_ tm [(0,_),(1,_),(7,_),(8,_)]:=⟨‹_›,‹_›,‹_›,‹_›,trivial⟩;obtain _ | k13:=n;cases h;exact ⟨_,rfl,by rw [<- db e];exact Eq.trans (by kernel_rfl) h⟩;cases h) λk13=>ae.no)))))
theorem fa.eqX (mQ:anE) (aa:Sl) (au:Nat) (ah:Nat) (aF:Nat) (fh:Nat) (H:Hp):EX (bl (fa.cs F mQ)) bf (fa.lh F mQ) F Tryz.f103 [(.sl aa),(.fn 122 [(.ptr au ah),(.ptr aF fh)])] H=fa.twX F mQ aa au ah aF fh H:=by kernel_rfl
theorem fa.k:Ok Tryz.prog 103 (mk25 (fa.tw F)):=by
 intro args H v H' h
 unfold mk25 at h
 split at h
 ·exact okT (TB:=bf) Tryz.func103 (aR (jE.k F) cD) (fa.loops F (jE.tw F)) ((fa.eqX F (jE.tw F) _ _ _ _ _ H).trans h) (by kernel_rfl)
 ·cases h
def jF.twX (F:Nat) (An:anz) (aa:Sl) (au:Nat) (ah:Nat) (aF:Nat) (fh:Nat) (H:Hp):OA:=(An aa au ah aF fh H).bind λr6=>((r6.1).asI .i64).bind λn7=>some ((.bool (decide (n7>=0))),r6.2)
def jF.tw:=jF.twX F (fa.tw F)
def jF.cs (F:Nat) (An:anz):Cs:=[(103,mk25 An)]
theorem jF.eqX (An:anz) (aa:Sl) (au:Nat) (ah:Nat) (aF:Nat) (fh:Nat) (H:Hp):EX (bl (jF.cs F An)) bf lh0 F Tryz.f78 [(.sl aa),(.fn 122 [(.ptr au ah),(.ptr aF fh)])] H=jF.twX F An aa au ah aF fh H:=by kernel_rfl
theorem jF.k:Ok Tryz.prog 78 (mk25 (jF.tw F)):=by
 intro args H v H' h
 unfold mk25 at h
 split at h
 ·exact okT (TB:=bf) Tryz.func78 (aR (fa.k F) cD) ae.no ((jF.eqX F (fa.tw F) _ _ _ _ _ H).trans h) (by kernel_rfl)
 ·cases h
def dW.l29 (F:Nat) (cZ:ank) (mR:anz) :Nat->Nat->Nat->Nat->Nat->Int->Hp->OA
 | 0,_,_,_,_,_,_=>none
 | fG+1,gE,ig,qg,nS,hZ,H22=>(Hp.ldI H22 .i64 qg nS).bind λn33=>(bif (decide (hZ<n33)) then ((Hp.ldI H22 .i64 qg nS).bind λn34=>(Hp.ldI H22 .i64 qg (nS+1)).bind λn35=>(Hp.ldSl H22 qg (nS+2)).bind λs36=>(cZ n34 n35 s36 hZ H22).bind λr37=>((r37.1).asSl).bind λs38=>(if bo H22 r37.2 then ((Hp.ldI r37.2 .i64 gE ig).bind λn39=>(Sl.cut s38 1 (wrap .i64 (n39+1)) (s38.n:Int)).bind λs40=>(mR s40 qg nS gE ig r37.2).bind λr41=>((r41.1).asB).bind λb42=>(bif b42 then (some ((.int .i64 hZ),r41.2)) else (dW.l29 F cZ mR fG gE ig qg nS (wrap .i64 (hZ+1)) r41.2))) else none)) else (some ((.int .i64 (-1)),H22)))
termination_by structural n=>n
def dW.twX (cZ:ank) (mR:anz) (aa:Nat) (ac:Nat) (ah:Int) (H:Hp):OA:=(Hp.new H [(.int .i64 ah)]).bind λH4=>(Hp.ldI H4 .i64 aa (ac+6)).bind λn5=>(Hp.ldI H4 .i64 aa ((ac+6)+1)).bind λn6=>(Hp.ldSl H4 aa ((ac+6)+2)).bind λs7=>(Hp.new H4 [.int .i64 0,.int .i64 0,.sl ⟨none,0,.ex 0⟩]).bind λH8=>(Hp.st H8 H4.length 0 (.int .i64 n5)).bind λH9=>(Hp.st H9 H4.length (0+1) (.int .i64 n6)).bind λH10=>(Hp.st H10 H4.length (0+1+1) (.sl s7)).bind λH11=>(Hp.ldI H11 .i64 H.length 0).bind λn12=>dW.l29 F cZ mR F H.length 0 H4.length 0 (wrap .i64 (n12+1)) H11
def dW.tw:=dW.twX F (fU.tw F) (jF.tw F)
def dW.lh29 (cZ:ank) (mR:anz) (ks:am6) (n:Nat) (tm:Tm) (H:Hp):OA:=match ks,tm 3,tm 5,tm 6 with
 | [],(.ptr gE ig),(.ptr qg nS),(.int .i64 hZ)=>dW.l29 F cZ mR n gE ig qg nS hZ H
 | _,_,_,_=>none
def dW.lh (cZ:ank) (mR:anz) (p:Nat) (ks:am6) (n:Nat) (tm:Tm) (H:Hp):OA:=bif p.beq 29 then dW.lh29 F cZ mR ks n tm H else (none)
def dW.pn:Nat->List Nat:=dM [(5,[7])]
def dW.tb:Nat->List (List Nat):=dM [(5,[[],[],[0,1],[],[3],[0,1,2,3,4],[],[0,1,2,3,4,5,6]])]
def dW.cs (F:Nat) (cZ:ank) (mR:anz):Cs:=[(118,mk21 cZ),(78,mk25 mR)]
theorem dW.loops (cZ:ank) (mR:anz):LO (bl (dW.cs F cZ mR)) dW.pn (dW.lh F cZ mR) F Tryz.f101:=
 (ae.rt (ae.rt (ae.lt (ae.rt (ae.block (ae.la (λn tm H r h=>by change dW.lh29 F cZ mR [] n tm H=_ at h;unfold dW.lh29 at h;split at h;have e:c_ tm [(3,_),(5,_),(6,_)]:=⟨‹_›,‹_›,‹_›,trivial⟩;obtain _ | k29:=n;cases h;exact ⟨_,rfl,by rw [<- db e];exact Eq.trans (by kernel_rfl) h⟩;cases h) λk29=>ae.no))))))
theorem dW.eqX (cZ:ank) (mR:anz) (aa:Nat) (ac:Nat) (ah:Int) (H:Hp):EX (bl (dW.cs F cZ mR)) dW.pn (dW.lh F cZ mR) F Tryz.f101 [(.ptr aa ac),(.int .i64 ah)] H=dW.twX F cZ mR aa ac ah H:=by kernel_rfl
theorem dW.k:Ok Tryz.prog 101 (mk12 (dW.tw F)):=by
 intro args H v H' h
 unfold mk12 at h
 split at h
 ·exact okT (TB:=dW.tb) Tryz.func101 (aR (fU.k F) (aR (jF.k F) cD)) (dW.loops F (fU.tw F) (jF.tw F)) ((dW.eqX F (fU.tw F) (jF.tw F) _ _ _ H).trans h) (by kernel_rfl)
 ·cases h
def bR.j4 (F:Nat) (iM:am9) (iN:am9) (iO:am9) (iS:am9) (dV:anf) (C3_:am9) (aeC:Nat) (aeD:Nat) (Ao:Int) (H57:Hp):OA:=C3_ aeC aeD Ao H57
def bR.j5 (F:Nat) (iM:am9) (iN:am9) (iO:am9) (iS:am9) (dV:anf) (C3_:am9) (aeE:Nat) (aeF:Nat) (Ap:Int) (H80:Hp):OA:=C3_ aeE aeF Ap H80
def bR.j6 (iM:am9) (iN:am9) (iO:am9) (iS:am9) (dV:anf) (C3_:am9) (yQ:Nat) (yR:Nat) (Aq:Int) (H71:Hp):OA:=bR.j5 F iM iN iO iS dV C3_ yQ yR Aq H71
def bR.l3 (F:Nat) (iM:am9) (iN:am9) (iO:am9) (iS:am9) (dV:anf) :Nat->Nat->Nat->Int->Hp->OA
 | 0,_,_,_,_=>none
 | Gc+1,eb,fI,jt,H6=>(Hp.ldB H6 eb (fI+15)).bind λb44=>(bif (!b44) then ((Hp.ldI H6 .i64 eb (fI+6)).bind λn45=>(Hp.ldI H6 .i64 eb ((fI+6)+1)).bind λn46=>(bif (decide (jt<(if n46<n45 then n46 else n45))) then ((iM eb fI jt H6).bind λr47=>((r47.1).asB).bind λb48=>(bif (!b48) then (some ((.tup []),r47.2)) else ((iN eb fI jt r47.2).bind λr49=>(Hp.ldB r49.2 eb (fI+15)).bind λb50=>(bif b50 then (bR.j4 F iM iN iO iS dV (bR.l3 F iM iN iO iS dV Gc) eb fI jt r49.2) else ((iO eb fI jt r49.2).bind λr58=>((r58.1).asB).bind λb59=>(bif (!b59) then (bR.j4 F iM iN iO iS dV (bR.l3 F iM iN iO iS dV Gc) eb fI jt r58.2) else ((iS eb fI jt r58.2).bind λr60=>((r60.1).asI .i64).bind λn61=>(bif (decide (n61>=0)) then ((dV eb fI jt n61 1 r60.2).bind λr62=>bR.j6 F iM iN iO iS dV (bR.l3 F iM iN iO iS dV Gc) eb fI jt r62.2) else (bR.j6 F iM iN iO iS dV (bR.l3 F iM iN iO iS dV Gc) eb fI (wrap .i64 (jt+1)) r60.2))))))))) else (some ((.tup []),H6)))) else (some ((.tup []),H6)))
termination_by structural n=>n
def bR.twX (iM:am9) (iN:am9) (iO:am9) (iS:am9) (dV:anf) (aa:Nat) (ac:Nat) (H:Hp):OA:=bR.l3 F iM iN iO iS dV F aa ac 0 H
def bR.tw:=bR.twX F (cb.tw F) (bh.tw F) (dw.tw F) (dW.tw F) (fV.tw F)
def bR.lh3 (iM:am9) (iN:am9) (iO:am9) (iS:am9) (dV:anf) (ks:am6) (n:Nat) (tm:Tm) (H:Hp):OA:=match ks,tm 0,tm 2 with
 | [],(.ptr eb fI),(.int .i64 jt)=>bR.l3 F iM iN iO iS dV n eb fI jt H
 | _,_,_=>none
def bR.lh (iM:am9) (iN:am9) (iO:am9) (iS:am9) (dV:anf) (p:Nat) (ks:am6) (n:Nat) (tm:Tm) (H:Hp):OA:=bif p.beq 3 then bR.lh3 F iM iN iO iS dV ks n tm H else (none)
def bR.tb:Nat->List (List Nat):=dM [(1,[[],[0],[0,1],[0,1,2],[0,1,2,3],[0,1,2,3,4],[0,1,2,3,4,5],[0,1,2,3,4,5],[0,1,2,3,4,5,7],[0,1,2,3,4,5,7,8],[0,1,2,3,4,5,7,8,9],[0,1,2,3,4,5,7,8,9,10],[0,1,2,3,4,5,7,8,9,10,11],[0,1,2,3,4,5],[0,1,2,3,4,5,13],[0,1,2,3,4,5,13,14],[0,1,2,3,4,5,13,14,15],[0,1,2,3,4,5,13,14,15,16],[0,1,2,3,4,5,13,14,15,16,17],[0,1,2,3,4,5,7,8,9,10,11,12,13,14,15,16,17,18],[0,1,2,3,4,5,6,7,8,9,10,11,12,13,14,15,16,17,18,19],[0,1,2,3,4,5,6,7,8,9,10,11,12,13,14,15,16,17,18,19,20]])]
def mk26 (g:aob) (args:anb) (H:Hp):OA:=match args with
 | [(.ptr aa ac)]=>g aa ac H
 | _=>none
theorem mk26_E (g:aob) (aa:Nat) (ac:Nat) (H:Hp):mk26 g [(.ptr aa ac)] H=g aa ac H:=rfl
def bR.cs (F:Nat) (iM:am9) (iN:am9) (iO:am9) (iS:am9) (dV:anf):Cs:=[(98,mk12 iM),(99,mk12 iN),(100,mk12 iO),(101,mk12 iS),(102,mk14 dV)]
theorem bR.loops (iM:am9) (iN:am9) (iO:am9) (iS:am9) (dV:anf):LO (bl (bR.cs F iM iN iO iS dV)) bf (bR.lh F iM iN iO iS dV) F Tryz.f76:=
 (ae.rt (ae.block (ae.la (λn tm H r h=>by change bR.lh3 F iM iN iO iS dV [] n tm H=_ at h;unfold bR.lh3 at h;split at h;have e:c_ tm [(0,_),(2,_)]:=⟨‹_›,‹_›,trivial⟩;obtain _ | k3:=n;cases h;exact ⟨_,rfl,by rw [<- db e];exact Eq.trans (by kernel_rfl) h⟩;cases h) λk3=>ae.no)))
theorem bR.eqX (iM:am9) (iN:am9) (iO:am9) (iS:am9) (dV:anf) (aa:Nat) (ac:Nat) (H:Hp):EX (bl (bR.cs F iM iN iO iS dV)) bf (bR.lh F iM iN iO iS dV) F Tryz.f76 [(.ptr aa ac)] H=bR.twX F iM iN iO iS dV aa ac H:=by kernel_rfl
theorem bR.k:Ok Tryz.prog 76 (mk26 (bR.tw F)):=by
 intro args H v H' h
 unfold mk26 at h
 split at h
 ·exact okT (TB:=bR.tb) Tryz.func76 (aR (cb.k F) (aR (bh.k F) (aR (dw.k F) (aR (dW.k F) (aR (fV.k F) cD))))) (bR.loops F (cb.tw F) (bh.tw F) (dw.tw F) (dW.tw F) (fV.tw F)) ((bR.eqX F (cb.tw F) (bh.tw F) (dw.tw F) (dW.tw F) (fV.tw F) _ _ H).trans h) (by kernel_rfl)
 ·cases h
def iT.twX (F:Nat) (Ar:anc) (As:aob) (aa:Int) (ac:Int) (aZ:Sl) (H:Hp):OA:=(Hp.new H [(.int .i64 aa),(.int .i64 ac),(.sl aZ)]).bind λH4=>(Hp.new H4 [.int .i64 0,.int .i64 0,.sl ⟨none,0,.ex 0⟩,.int .i64 0,.int .i64 0,.sl ⟨none,0,.ex 0⟩,.int .i64 0,.int .i64 0,.sl ⟨none,0,.ex 0⟩,.int .i64 0,.int .i64 0,.sl ⟨none,0,.ex 0⟩,.int .i64 0,.int .i64 0,.sl ⟨none,0,.ex 0⟩]).bind λH5=>(Hp.ldI H5 .i64 H.length 0).bind λn6=>(Hp.ldI H5 .i64 H.length (0+1)).bind λn7=>(Hp.ldSl H5 H.length (0+2)).bind λs8=>(Ar n6 n7 s8 H5).bind λr9=>((r9.1).asP).bind λp10=>(As p10.1 p10.2 r9.2).bind λr11=>(Hp.ldB r11.2 p10.1 (p10.2+15)).bind λb12=>(bif b12 then ((Hp.st r11.2 H4.length 0 (.int .i64 0)).bind λH13=>(Hp.st H13 H4.length (0+1) (.int .i64 0)).bind λH14=>(Hp.st H14 H4.length (0+1+1) (.sl (⟨none,0,.ex 0⟩:Sl))).bind λH15=>(Hp.st H15 H4.length (0+1+1+1) (.int .i64 0)).bind λH16=>(Hp.st H16 H4.length (0+1+1+1+1) (.int .i64 0)).bind λH17=>(Hp.st H17 H4.length (0+1+1+1+1+1) (.sl (⟨none,0,.ex 0⟩:Sl))).bind λH18=>(Hp.st H18 H4.length (0+1+1+1+1+1+1) (.int .i64 0)).bind λH19=>(Hp.st H19 H4.length (0+1+1+1+1+1+1+1) (.int .i64 0)).bind λH20=>(Hp.st H20 H4.length (0+1+1+1+1+1+1+1+1) (.sl (⟨none,0,.ex 0⟩:Sl))).bind λH21=>(Hp.st H21 H4.length (0+1+1+1+1+1+1+1+1+1) (.int .i64 0)).bind λH22=>(Hp.st H22 H4.length (0+1+1+1+1+1+1+1+1+1+1) (.int .i64 0)).bind λH23=>(Hp.st H23 H4.length (0+1+1+1+1+1+1+1+1+1+1+1) (.sl (⟨none,0,.ex 0⟩:Sl))).bind λH24=>(Hp.st H24 H4.length (0+1+1+1+1+1+1+1+1+1+1+1+1) (.int .i64 0)).bind λH25=>(Hp.st H25 H4.length (0+1+1+1+1+1+1+1+1+1+1+1+1+1) (.int .i64 0)).bind λH26=>(Hp.st H26 H4.length (0+1+1+1+1+1+1+1+1+1+1+1+1+1+1) (.sl (⟨none,0,.ex 0⟩:Sl))).bind λH27=>(Hp.ldI H27 .i64 H4.length 0).bind λn28=>(Hp.ldI H27 .i64 H4.length (0+1)).bind λn29=>(Hp.ldSl H27 H4.length (0+2)).bind λs30=>(Hp.ldI H27 .i64 H4.length (0+3)).bind λn31=>(Hp.ldI H27 .i64 H4.length (0+4)).bind λn32=>(Hp.ldSl H27 H4.length (0+5)).bind λs33=>(Hp.ldI H27 .i64 H4.length (0+6)).bind λn34=>(Hp.ldI H27 .i64 H4.length (0+7)).bind λn35=>(Hp.ldSl H27 H4.length (0+8)).bind λs36=>(Hp.ldI H27 .i64 H4.length (0+9)).bind λn37=>(Hp.ldI H27 .i64 H4.length (0+10)).bind λn38=>(Hp.ldSl H27 H4.length (0+11)).bind λs39=>(Hp.ldI H27 .i64 H4.length (0+12)).bind λn40=>(Hp.ldI H27 .i64 H4.length (0+13)).bind λn41=>(Hp.ldSl H27 H4.length (0+14)).bind λs42=>some ((.tup [(.agg [(.int .i64 n28),(.int .i64 n29),(.sl s30),(.int .i64 n31),(.int .i64 n32),(.sl s33),(.int .i64 n34),(.int .i64 n35),(.sl s36),(.int .i64 n37),(.int .i64 n38),(.sl s39),(.int .i64 n40),(.int .i64 n41),(.sl s42)]),(.int .i64 3)]),H27)) else ((Hp.ldI r11.2 .i64 p10.1 p10.2).bind λn43=>(Hp.ldI r11.2 .i64 p10.1 (p10.2+1)).bind λn44=>(Hp.ldSl r11.2 p10.1 (p10.2+2)).bind λs45=>(Hp.ldI r11.2 .i64 p10.1 (p10.2+3)).bind λn46=>(Hp.ldI r11.2 .i64 p10.1 (p10.2+4)).bind λn47=>(Hp.ldSl r11.2 p10.1 (p10.2+5)).bind λs48=>(Hp.ldI r11.2 .i64 p10.1 (p10.2+6)).bind λn49=>(Hp.ldI r11.2 .i64 p10.1 (p10.2+7)).bind λn50=>(Hp.ldSl r11.2 p10.1 (p10.2+8)).bind λs51=>(Hp.ldI r11.2 .i64 p10.1 (p10.2+9)).bind λn52=>(Hp.ldI r11.2 .i64 p10.1 (p10.2+10)).bind λn53=>(Hp.ldSl r11.2 p10.1 (p10.2+11)).bind λs54=>(Hp.ldI r11.2 .i64 p10.1 (p10.2+12)).bind λn55=>(Hp.ldI r11.2 .i64 p10.1 (p10.2+13)).bind λn56=>(Hp.ldSl r11.2 p10.1 (p10.2+14)).bind λs57=>(Hp.st r11.2 H4.length 0 (.int .i64 n43)).bind λH58=>(Hp.st H58 H4.length (0+1) (.int .i64 n44)).bind λH59=>(Hp.st H59 H4.length (0+1+1) (.sl s45)).bind λH60=>(Hp.st H60 H4.length (0+1+1+1) (.int .i64 n46)).bind λH61=>(Hp.st H61 H4.length (0+1+1+1+1) (.int .i64 n47)).bind λH62=>(Hp.st H62 H4.length (0+1+1+1+1+1) (.sl s48)).bind λH63=>(Hp.st H63 H4.length (0+1+1+1+1+1+1) (.int .i64 n49)).bind λH64=>(Hp.st H64 H4.length (0+1+1+1+1+1+1+1) (.int .i64 n50)).bind λH65=>(Hp.st H65 H4.length (0+1+1+1+1+1+1+1+1) (.sl s51)).bind λH66=>(Hp.st H66 H4.length (0+1+1+1+1+1+1+1+1+1) (.int .i64 n52)).bind λH67=>(Hp.st H67 H4.length (0+1+1+1+1+1+1+1+1+1+1) (.int .i64 n53)).bind λH68=>(Hp.st H68 H4.length (0+1+1+1+1+1+1+1+1+1+1+1) (.sl s54)).bind λH69=>(Hp.st H69 H4.length (0+1+1+1+1+1+1+1+1+1+1+1+1) (.int .i64 n55)).bind λH70=>(Hp.st H70 H4.length (0+1+1+1+1+1+1+1+1+1+1+1+1+1) (.int .i64 n56)).bind λH71=>(Hp.st H71 H4.length (0+1+1+1+1+1+1+1+1+1+1+1+1+1+1) (.sl s57)).bind λH72=>(Hp.ldI H72 .i64 H4.length 0).bind λn73=>(Hp.ldI H72 .i64 H4.length (0+1)).bind λn74=>(Hp.ldSl H72 H4.length (0+2)).bind λs75=>(Hp.ldI H72 .i64 H4.length (0+3)).bind λn76=>(Hp.ldI H72 .i64 H4.length (0+4)).bind λn77=>(Hp.ldSl H72 H4.length (0+5)).bind λs78=>(Hp.ldI H72 .i64 H4.length (0+6)).bind λn79=>(Hp.ldI H72 .i64 H4.length (0+7)).bind λn80=>(Hp.ldSl H72 H4.length (0+8)).bind λs81=>(Hp.ldI H72 .i64 H4.length (0+9)).bind λn82=>(Hp.ldI H72 .i64 H4.length (0+10)).bind λn83=>(Hp.ldSl H72 H4.length (0+11)).bind λs84=>(Hp.ldI H72 .i64 H4.length (0+12)).bind λn85=>(Hp.ldI H72 .i64 H4.length (0+13)).bind λn86=>(Hp.ldSl H72 H4.length (0+14)).bind λs87=>some ((.tup [(.agg [(.int .i64 n73),(.int .i64 n74),(.sl s75),(.int .i64 n76),(.int .i64 n77),(.sl s78),(.int .i64 n79),(.int .i64 n80),(.sl s81),(.int .i64 n82),(.int .i64 n83),(.sl s84),(.int .i64 n85),(.int .i64 n86),(.sl s87)]),(.int .i64 0)]),H72)))
def iT.tw:=iT.twX F (mj.tw F) (bR.tw F)
def iT.cs (F:Nat) (Ar:anc) (As:aob):Cs:=[(75,mk10 Ar),(76,mk26 As)]
theorem iT.eqX (Ar:anc) (As:aob) (aa:Int) (ac:Int) (aZ:Sl) (H:Hp):EX (bl (iT.cs F Ar As)) bf lh0 F Tryz.f54 [(.agg [(.int .i64 aa),(.int .i64 ac),(.sl aZ)])] H=iT.twX F Ar As aa ac aZ H:=by kernel_rfl
theorem iT.k:Ok Tryz.prog 54 (mk10 (iT.tw F)):=by
 intro args H v H' h
 unfold mk10 at h
 split at h
 ·exact okT (TB:=bf) Tryz.func54 (aR (mj.k F) (aR (bR.k F) cD)) ae.no ((iT.eqX F (mj.tw F) (bR.tw F) _ _ _ H).trans h) (by kernel_rfl)
 ·cases h
def dg.j2 (F:Nat) (kQ:anc) (aj:am4) (C125_:aot) (Gd:Nat) (aeG:Nat) (aeH:Sl) (Au:Int) (Av:Int) (H132:Hp):OA:=C125_ Gd aeG aeH Au (wrap .i64 (Av+1)) H132
def dg.l125 (F:Nat) (kQ:anc) (aj:am4) :Nat->Nat->Nat->Sl->Int->Int->Hp->OA
 | 0,_,_,_,_,_,_=>none
 | Ut+1,rn,vE,Cz,pS,np,H76=>(bif (decide (np<pS)) then ((Hp.ldI H76 .i64 rn (vE+6)).bind λn105=>(Hp.ldI H76 .i64 rn ((vE+6)+1)).bind λn106=>(Hp.ldSl H76 rn ((vE+6)+2)).bind λs107=>(aj n105 n106 s107 np np H76).bind λr108=>((r108.1).asP).bind λp109=>(Hp.ldI r108.2 .i64 p109.1 p109.2).bind λn110=>(bif (n110 != 0) then ((Hp.new r108.2 [(.int .i64 n110)]).bind λH111=>(Sl.row H111 (⟨some (r108.2.length,0),1,.ex 1⟩:Sl) 1).bind λxs113=>(Hp.app H111 1 8 Cz (⟨some (r108.2.length,0),1,.ex 1⟩:Sl).n xs113).bind λa112=>dg.j2 F kQ aj (dg.l125 F kQ aj Ut) rn vE a112.1 pS np a112.2) else (dg.j2 F kQ aj (dg.l125 F kQ aj Ut) rn vE Cz pS np r108.2))) else (some ((.tup [(.sl Cz),(.int .i64 0)]),H76)))
termination_by structural n=>n
def dg.twX (kQ:anc) (aj:am4) (aa:Int) (ac:Int) (aZ:Sl) (H:Hp):OA:=(Hp.new H [(.int .i64 aa),(.int .i64 ac),(.sl aZ)]).bind λH4=>(Hp.ldI H4 .i64 H.length 0).bind λn5=>(Hp.ldI H4 .i64 H.length (0+1)).bind λn6=>(Hp.ldSl H4 H.length (0+2)).bind λs7=>(kQ n5 n6 s7 H4).bind λr8=>((r8.1).asTup 2).bind λl9=>(l9[0]?).bind λv10=>((v10).asAgg 15).bind λl11=>(l11[0]?).bind λv12=>((v12).asI .i64).bind λn13=>(l11[1]?).bind λv14=>((v14).asI .i64).bind λn15=>(l11[2]?).bind λv16=>((v16).asSl).bind λs17=>(l11[3]?).bind λv18=>((v18).asI .i64).bind λn19=>(l11[4]?).bind λv20=>((v20).asI .i64).bind λn21=>(l11[5]?).bind λv22=>((v22).asSl).bind λs23=>(l11[6]?).bind λv24=>((v24).asI .i64).bind λn25=>(l11[7]?).bind λv26=>((v26).asI .i64).bind λn27=>(l11[8]?).bind λv28=>((v28).asSl).bind λs29=>(l11[9]?).bind λv30=>((v30).asI .i64).bind λn31=>(l11[10]?).bind λv32=>((v32).asI .i64).bind λn33=>(l11[11]?).bind λv34=>((v34).asSl).bind λs35=>(l11[12]?).bind λv36=>((v36).asI .i64).bind λn37=>(l11[13]?).bind λv38=>((v38).asI .i64).bind λn39=>(l11[14]?).bind λv40=>((v40).asSl).bind λs41=>(l9[1]?).bind λv42=>((v42).asI .i64).bind λn43=>(Hp.new r8.2 [.int .i64 0,.int .i64 0,.sl ⟨none,0,.ex 0⟩,.int .i64 0,.int .i64 0,.sl ⟨none,0,.ex 0⟩,.int .i64 0,.int .i64 0,.sl ⟨none,0,.ex 0⟩,.int .i64 0,.int .i64 0,.sl ⟨none,0,.ex 0⟩,.int .i64 0,.int .i64 0,.sl ⟨none,0,.ex 0⟩]).bind λH44=>(Hp.st H44 r8.2.length 0 (.int .i64 n13)).bind λH45=>(Hp.st H45 r8.2.length (0+1) (.int .i64 n15)).bind λH46=>(Hp.st H46 r8.2.length (0+1+1) (.sl s17)).bind λH47=>(Hp.st H47 r8.2.length (0+1+1+1) (.int .i64 n19)).bind λH48=>(Hp.st H48 r8.2.length (0+1+1+1+1) (.int .i64 n21)).bind λH49=>(Hp.st H49 r8.2.length (0+1+1+1+1+1) (.sl s23)).bind λH50=>(Hp.st H50 r8.2.length (0+1+1+1+1+1+1) (.int .i64 n25)).bind λH51=>(Hp.st H51 r8.2.length (0+1+1+1+1+1+1+1) (.int .i64 n27)).bind λH52=>(Hp.st H52 r8.2.length (0+1+1+1+1+1+1+1+1) (.sl s29)).bind λH53=>(Hp.st H53 r8.2.length (0+1+1+1+1+1+1+1+1+1) (.int .i64 n31)).bind λH54=>(Hp.st H54 r8.2.length (0+1+1+1+1+1+1+1+1+1+1) (.int .i64 n33)).bind λH55=>(Hp.st H55 r8.2.length (0+1+1+1+1+1+1+1+1+1+1+1) (.sl s35)).bind λH56=>(Hp.st H56 r8.2.length (0+1+1+1+1+1+1+1+1+1+1+1+1) (.int .i64 n37)).bind λH57=>(Hp.st H57 r8.2.length (0+1+1+1+1+1+1+1+1+1+1+1+1+1) (.int .i64 n39)).bind λH58=>(Hp.st H58 r8.2.length (0+1+1+1+1+1+1+1+1+1+1+1+1+1+1) (.sl s41)).bind λH59=>(bif (n43 != 0) then (some ((.tup [(.sl (⟨none,0,.ex 0⟩:Sl)),(.int .i64 n43)]),H59)) else ((Hp.ldI H59 .i64 H.length 0).bind λn60=>(Hp.ldI H59 .i64 H.length 1).bind λn61=>dg.l125 F kQ aj F r8.2.length 0 (⟨none,0,.ex 0⟩:Sl) (if n61<n60 then n61 else n60) 0 H59))
def dg.tw:=dg.twX F (iT.tw F) (bY.tw F)
def dg.lh125 (kQ:anc) (aj:am4) (ks:am6) (n:Nat) (tm:Tm) (H:Hp):OA:=match ks,tm 4,tm 6,tm 21,tm 22 with
 | [],(.ptr rn vE),(.sl Cz),(.int .i64 pS),(.int .i64 np)=>dg.l125 F kQ aj n rn vE Cz pS np H
 | _,_,_,_,_=>none
def dg.lh (kQ:anc) (aj:am4) (p:Nat) (ks:am6) (n:Nat) (tm:Tm) (H:Hp):OA:=bif p.beq 125 then dg.lh125 F kQ aj ks n tm H else (none)
def dg.cs (F:Nat) (kQ:anc) (aj:am4):Cs:=[(54,mk10 kQ),(53,mk9 aj)]
theorem dg.loops (kQ:anc) (aj:am4):LO (bl (dg.cs F kQ aj)) bf (dg.lh F kQ aj) F Tryz.f26:=
 (ae.rt (ae.rt (ae.rt (ae.rt (ae.lt (ae.rt (ae.block (ae.la (λn tm H r h=>by change dg.lh125 F kQ aj [] n tm H=_ at h;unfold dg.lh125 at h;split at h;have e:c_ tm [(4,_),(6,_),(21,_),(22,_)]:=⟨‹_›,‹_›,‹_›,‹_›,trivial⟩;obtain _ | k125:=n;cases h;exact ⟨_,rfl,by rw [<- db e];exact Eq.trans (by kernel_rfl) h⟩;cases h) λk125=>ae.no))))))))
theorem dg.eqX (kQ:anc) (aj:am4) (aa:Int) (ac:Int) (aZ:Sl) (H:Hp):EX (bl (dg.cs F kQ aj)) bf (dg.lh F kQ aj) F Tryz.f26 [(.agg [(.int .i64 aa),(.int .i64 ac),(.sl aZ)])] H=dg.twX F kQ aj aa ac aZ H:=by kernel_rfl
theorem dg.k:Ok Tryz.prog 26 (mk10 (dg.tw F)):=by
 intro args H v H' h
 unfold mk10 at h
 split at h
 ·exact okT (TB:=bf) Tryz.func26 (aR (iT.k F) (aR (bY.k F) cD)) (dg.loops F (iT.tw F) (bY.tw F)) ((dg.eqX F (iT.tw F) (bY.tw F) _ _ _ H).trans h) (by kernel_rfl)
 ·cases h
def jU.twX (F:Nat) (gF:anc) (Aw:anc) (aa:Int) (ac:Int) (aZ:Sl) (H:Hp):OA:=(Hp.new H [(.int .i64 aa),(.int .i64 ac),(.sl aZ)]).bind λH4=>(Hp.ldI H4 .i64 H.length 0).bind λn5=>(Hp.ldI H4 .i64 H.length (0+1)).bind λn6=>(Hp.ldSl H4 H.length (0+2)).bind λs7=>(gF n5 n6 s7 H4).bind λr8=>((r8.1).asB).bind λb9=>(bif (!b9) then (some ((.tup [(.sl (⟨none,0,.ex 0⟩:Sl)),(.int .i64 1)]),r8.2)) else ((Hp.ldI r8.2 .i64 H.length 0).bind λn10=>(Hp.ldI r8.2 .i64 H.length (0+1)).bind λn11=>(Hp.ldSl r8.2 H.length (0+2)).bind λs12=>(Aw n10 n11 s12 r8.2).bind λr13=>((r13.1).asTup 2).bind λl14=>(l14[0]?).bind λv15=>((v15).asSl).bind λs16=>(l14[1]?).bind λv17=>((v17).asI .i64).bind λn18=>some ((.tup [(.sl s16),(.int .i64 n18)]),r13.2)))
def jU.tw:=jU.twX F (fY.tw F) (dg.tw F)
def jU.cs (F:Nat) (gF:anc) (Aw:anc):Cs:=[(60,mk10 gF),(26,mk10 Aw)]
theorem jU.eqX (gF:anc) (Aw:anc) (aa:Int) (ac:Int) (aZ:Sl) (H:Hp):EX (bl (jU.cs F gF Aw)) bf lh0 F Tryz.f61 [(.agg [(.int .i64 aa),(.int .i64 ac),(.sl aZ)])] H=jU.twX F gF Aw aa ac aZ H:=by kernel_rfl
theorem jU.k:Ok Tryz.prog 61 (mk10 (jU.tw F)):=by
 intro args H v H' h
 unfold mk10 at h
 split at h
 ·exact okT (TB:=bf) Tryz.func61 (aR (fY.k F) (aR (dg.k F) cD)) ae.no ((jU.eqX F (fY.tw F) (dg.tw F) _ _ _ H).trans h) (by kernel_rfl)
 ·cases h
def iB.twX (F:Nat) (aa:Int) (H:Hp):OA:=some ((.bool (aa==1)),H)
def iB.tw:=iB.twX F
theorem iB.k:Ok Tryz.prog 81 (mk11 (iB.tw F)):=by
 intro args H v H' h
 unfold mk11 at h
 split at h
 ·exact ok0 Tryz.func81 (Eq.trans (by kernel_rfl) h) (by kernel_rfl) (by kernel_rfl)
 ·cases h
def eF.l13 (F:Nat) (fN:am_) :Nat->Sl->Int->Int->Hp->OA
 | 0,_,_,_,_=>none
 | jc+1,l_,fm,ed,H6=>(bif (decide (ed<fm)) then ((Sl.idx l_ ed 1).bind λp11=>(Hp.ldI H6 .i64 p11.1 p11.2).bind λn12=>(fN n12 H6).bind λr13=>((r13.1).asB).bind λb14=>(bif b14 then (some ((.int .i64 ed),r13.2)) else (eF.l13 F fN jc l_ fm (wrap .i64 (ed+1)) r13.2))) else (some ((.int .i64 (-1)),H6)))
def eF.twX (fN:am_) (aa:Sl) (H:Hp):OA:=eF.l13 F fN F aa (aa.n:Int) 0 H
def eF.tw:=eF.twX F (iB.tw F)
def eF.lh13 (fN:am_) (ks:am6) (n:Nat) (tm:Tm) (H:Hp):OA:=match ks,tm 0,tm 1,tm 7,tm 8 with
 | [],(.sl l_),(.fn 81 []),(.int .i64 fm),(.int .i64 ed)=>eF.l13 F fN n l_ fm ed H
 | _,_,_,_,_=>none
def eF.lh (fN:am_) (p:Nat) (ks:am6) (n:Nat) (tm:Tm) (H:Hp):OA:=bif p.beq 13 then eF.lh13 F fN ks n tm H else (none)
def mk27 (g:am7) (args:anb) (H:Hp):OA:=match args with
 | [(.sl aa),(.fn 81 [])]=>g aa H
 | _=>none
theorem mk27_E (g:am7) (aa:Sl) (H:Hp):mk27 g [(.sl aa),(.fn 81 [])] H=g aa H:=rfl
def eF.cs (F:Nat) (fN:am_):Cs:=[(81,mk11 fN)]
theorem eF.loops (fN:am_):LO (bl (eF.cs F fN)) bf (eF.lh F fN) F Tryz.f103:=
 (ae.rt (ae.lt (ae.rt (ae.block (ae.la (λn tm H r h=>by change eF.lh13 F fN [] n tm H=_ at h;unfold eF.lh13 at h;split at h;have e:c_ tm [(0,_),(1,_),(7,_),(8,_)]:=⟨‹_›,‹_›,‹_›,‹_›,trivial⟩;obtain _ | k13:=n;cases h;exact ⟨_,rfl,by rw [<- db e];exact Eq.trans (by kernel_rfl) h⟩;cases h) λk13=>ae.no)))))
theorem eF.eqX (fN:am_) (aa:Sl) (H:Hp):EX (bl (eF.cs F fN)) bf (eF.lh F fN) F Tryz.f103 [(.sl aa),(.fn 81 [])] H=eF.twX F fN aa H:=by kernel_rfl
theorem eF.k:Ok Tryz.prog 103 (mk27 (eF.tw F)):=by
 intro args H v H' h
 unfold mk27 at h
 split at h
 ·exact okT (TB:=bf) Tryz.func103 (aR (iB.k F) cD) (eF.loops F (iB.tw F)) ((eF.eqX F (iB.tw F) _ H).trans h) (by kernel_rfl)
 ·cases h
def cS.j2 (F:Nat) (ka:am7) (fN:am_) (Kb:Sl) (vF:Int) (H31:Hp):OA:=(Sl.cut Kb 1 vF (Kb.n:Int)).bind λs32=>(Hp.clr H31 [.int .i64 0] s32).bind λH33=>(Sl.cut Kb 1 0 vF).bind λs34=>some ((.sl s34),H33)
def cS.j3 (F:Nat) (ka:am7) (fN:am_) (C61_:ani) (aeI:Sl) (Ax:Int) (Ay:Int) (H49:Hp):OA:=C61_ aeI Ax (wrap .i64 (Ay+1)) H49
def cS.l61 (F:Nat) (ka:am7) (fN:am_) :Nat->Sl->Int->Int->Hp->OA
 | 0,_,_,_,_=>none
 | fB+1,fI,dZ,om,H9=>(bif (decide (om<(fI.n:Int))) then ((Sl.idx fI om 1).bind λp35=>(Hp.ldI H9 .i64 p35.1 p35.2).bind λn36=>(fN n36 H9).bind λr37=>((r37.1).asB).bind λb38=>(bif (!b38) then ((Sl.idx fI dZ 1).bind λp39=>(Hp.st r37.2 p39.1 p39.2 (.int .i64 n36)).bind λH40=>cS.j3 F ka fN (cS.l61 F ka fN fB) fI (wrap .i64 (dZ+1)) om H40) else (cS.j3 F ka fN (cS.l61 F ka fN fB) fI dZ om r37.2))) else (cS.j2 F ka fN fI dZ H9))
def cS.twX (ka:am7) (fN:am_) (aa:Sl) (H:Hp):OA:=(ka aa H).bind λr2=>((r2.1).asI .i64).bind λn3=>(bif (n3==(-1)) then (some ((.sl aa),r2.2)) else (cS.l61 F ka fN F aa n3 (wrap .i64 (n3+1)) r2.2))
def cS.tw:=cS.twX F (eF.tw F) (iB.tw F)
def cS.lh61 (ka:am7) (fN:am_) (ks:am6) (n:Nat) (tm:Tm) (H:Hp):OA:=match ks,tm 0,tm 1,tm 5,tm 6 with
 | [],(.sl fI),(.fn 81 []),(.int .i64 dZ),(.int .i64 om)=>cS.l61 F ka fN n fI dZ om H
 | _,_,_,_,_=>none
def cS.lh (ka:am7) (fN:am_) (p:Nat) (ks:am6) (n:Nat) (tm:Tm) (H:Hp):OA:=bif p.beq 61 then cS.lh61 F ka fN ks n tm H else (none)
def cS.cs (F:Nat) (ka:am7) (fN:am_):Cs:=[(103,mk27 ka),(81,mk11 fN)]
theorem cS.loops (ka:am7) (fN:am_):LO (bl (cS.cs F ka fN)) bf (cS.lh F ka fN) F Tryz.f80:=
 (ae.rt (ae.rt (ae.rt (ae.lt (ae.rt (ae.block (ae.la (λn tm H r h=>by change cS.lh61 F ka fN [] n tm H=_ at h;unfold cS.lh61 at h;split at h;have e:c_ tm [(0,_),(1,_),(5,_),(6,_)]:=⟨‹_›,‹_›,‹_›,‹_›,trivial⟩;obtain _ | k61:=n;cases h;exact ⟨_,rfl,by rw [<- db e];exact Eq.trans (by kernel_rfl) h⟩;cases h) λk61=>ae.no)))))))
theorem cS.eqX (ka:am7) (fN:am_) (aa:Sl) (H:Hp):EX (bl (cS.cs F ka fN)) bf (cS.lh F ka fN) F Tryz.f80 [(.sl aa),(.fn 81 [])] H=cS.twX F ka fN aa H:=by kernel_rfl
end
end Go.Proofs.YtppbogklbhfboaaGreat.AE
