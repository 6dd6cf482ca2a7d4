import Derived.Test.YtppbogklbhfboaaTab1
import Derived.Test.YtppbogklbhfboaaE2
set_option linter.unusedVariables false
set_option linter.unusedSimpArgs false
namespace Go.Proofs.Ytppbogklbhfboaa.AE
open Go Go.AE Go.Proofs Go.RowKit Go.Maps IntKind
variable (F:Nat)
set_option linter.unusedVariables false
set_option maxHeartbeats 4000000
set_option maxRecDepth 100000
noncomputable section
def fD.twX (F:Nat) (aa:Sl) (au:Int) (H:Hp):OA:=(bif (decide ((wrap .i64 (au - (aa.n:Int)))<0)) then (some ((.int .i64 (-1)),H)) else (some ((.int .i64 (wrap .i64 (au - (aa.n:Int)))),H)))
def fD.tw:=fD.twX F
def mk0 (g:aso) (args:asD) (H:Hp):OA:=match args with
 | [(.sl aa),(.int .i64 au)]=>g aa au H
 | _=>none
theorem mk0_E (g:aso) (aa:Sl) (au:Int) (H:Hp):mk0 g [(.sl aa),(.int .i64 au)] H=g aa au H:=rfl
theorem fD.k:Ok Try.prog 25 (mk0 (fD.tw F)):=by
 intro args H v H' h
 unfold mk0 at h
 split at h
 ·exact ok0 Try.func25 (Eq.trans (by kernel_rfl) h) (by kernel_rfl) (by kernel_rfl)
 ·cases h
def el.twX (F:Nat) (si:aso) (aa:Sl) (af:Int) (ar:Int) (H:Hp):OA:=(Hp.new H [(.sl aa),(.int .i64 af)]).bind λH4=>(Hp.ldSl H4 H.length 0).bind λs5=>(si s5 ar H4).bind λr6=>((r6.1).asI .i64).bind λn7=>(bif (decide (n7<0)) then (some ((.int .i64 (-1)),r6.2)) else (some ((.int .i64 n7),r6.2)))
def el.tw:=el.twX F (fD.tw F)
def mk1 (g:asz) (args:asD) (H:Hp):OA:=match args with
 | [(.agg [(.sl aa),(.int .i64 af)]),(.int .i64 ar)]=>g aa af ar H
 | _=>none
theorem mk1_E (g:asz) (aa:Sl) (af:Int) (ar:Int) (H:Hp):mk1 g [(.agg [(.sl aa),(.int .i64 af)]),(.int .i64 ar)] H=g aa af ar H:=rfl
def el.cs (F:Nat) (si:aso):Cs:=[(25,mk0 si)]
theorem el.eqX (si:aso) (aa:Sl) (af:Int) (ar:Int) (H:Hp):EX (aX (el.cs F si)) aH lh0 F Try.f7 [(.agg [(.sl aa),(.int .i64 af)]),(.int .i64 ar)] H=el.twX F si aa af ar H:=by kernel_rfl
theorem el.k:Ok Try.prog 7 (mk1 (el.tw F)):=by
 intro args H v H' h
 unfold mk1 at h
 split at h
 ·exact okT (TB:=aH) Try.func7 (aN (fD.k F) bt) ae.no ((el.eqX F (fD.tw F) _ _ _ H).trans h) (by kernel_rfl)
 ·cases h
def fu.twX (F:Nat) (aa:Int) (af:Int) (bX:Int) (bY:Int) (bN:Int) (H:Hp):OA:=(Hp.new H [(.int .i64 aa),(.int .i64 af),(.int .i64 bX),(.int .i64 bY),(.int .i64 bN)]).bind λH6=>(Hp.new H6 [.int .i64 0,.int .i64 0,.int .i64 0,.int .i64 0,.int .i64 0]).bind λH7=>(Hp.new H7 [.int .i64 0,.int .i64 0,.int .i64 0,.int .i64 0,.int .i64 0]).bind λH8=>(Hp.ldI H8 .i64 H.length 0).bind λn9=>(Hp.st H8 H7.length 0 (.int .i64 n9)).bind λH10=>(Hp.ldI H10 .i64 H.length 1).bind λn11=>(Hp.st H10 H7.length 1 (.int .i64 n11)).bind λH12=>(Hp.ldI H12 .i64 H.length 2).bind λn13=>(Hp.st H12 H7.length 2 (.int .i64 n13)).bind λH14=>(Hp.ldI H14 .i64 H.length 3).bind λn15=>(Hp.st H14 H7.length 3 (.int .i64 n15)).bind λH16=>(Hp.ldI H16 .i64 H.length 4).bind λn17=>(Hp.st H16 H7.length 4 (.int .i64 n17)).bind λH18=>(Hp.ldI H18 .i64 H7.length 0).bind λn19=>(Hp.ldI H18 .i64 H7.length (0+1)).bind λn20=>(Hp.ldI H18 .i64 H7.length (0+2)).bind λn21=>(Hp.ldI H18 .i64 H7.length (0+3)).bind λn22=>(Hp.ldI H18 .i64 H7.length (0+4)).bind λn23=>(Hp.st H18 H6.length 0 (.int .i64 n19)).bind λH24=>(Hp.st H24 H6.length (0+1) (.int .i64 n20)).bind λH25=>(Hp.st H25 H6.length (0+1+1) (.int .i64 n21)).bind λH26=>(Hp.st H26 H6.length (0+1+1+1) (.int .i64 n22)).bind λH27=>(Hp.st H27 H6.length (0+1+1+1+1) (.int .i64 n23)).bind λH28=>(Hp.ldI H28 .i64 H6.length 0).bind λn29=>(Hp.ldI H28 .i64 H6.length (0+1)).bind λn30=>(Hp.ldI H28 .i64 H6.length (0+2)).bind λn31=>(Hp.ldI H28 .i64 H6.length (0+3)).bind λn32=>(Hp.ldI H28 .i64 H6.length (0+4)).bind λn33=>some ((.agg [(.int .i64 n29),(.int .i64 n30),(.int .i64 n31),(.int .i64 n32),(.int .i64 n33)]),H28)
def fu.tw:=fu.twX F
def mk2 (g:asF) (args:asD) (H:Hp):OA:=match args with
 | [(.agg [(.int .i64 aa),(.int .i64 af),(.int .i64 bX),(.int .i64 bY),(.int .i64 bN)])]=>g aa af bX bY bN H
 | _=>none
theorem mk2_E (g:asF) (aa:Int) (af:Int) (bX:Int) (bY:Int) (bN:Int) (H:Hp):mk2 g [(.agg [(.int .i64 aa),(.int .i64 af),(.int .i64 bX),(.int .i64 bY),(.int .i64 bN)])] H=g aa af bX bY bN H:=rfl
theorem fu.k:Ok Try.prog 59 (mk2 (fu.tw F)):=by
 intro args H v H' h
 unfold mk2 at h
 split at h
 ·exact ok0 Try.func59 (Eq.trans (by kernel_rfl) h) (by kernel_rfl) (by kernel_rfl)
 ·cases h
def ch.l29 (F:Nat) (gn:asF) :Nat->Sl->Sl->Int->Hp->OA
 | 0,_,_,_,_=>none
 | gG+1,cU,wV,eH,H7=>(bif (decide (eH<(cU.n:Int))) then ((Sl.idx cU eH 5).bind λp32=>(Hp.ldI H7 .i64 p32.1 p32.2).bind λn33=>(Hp.ldI H7 .i64 p32.1 (p32.2+1)).bind λn34=>(Hp.ldI H7 .i64 p32.1 (p32.2+2)).bind λn35=>(Hp.ldI H7 .i64 p32.1 (p32.2+3)).bind λn36=>(Hp.ldI H7 .i64 p32.1 (p32.2+4)).bind λn37=>(gn n33 n34 n35 n36 n37 H7).bind λr38=>((r38.1).asAgg 5).bind λl39=>(l39[0]?).bind λv40=>((v40).asI .i64).bind λn41=>(l39[1]?).bind λv42=>((v42).asI .i64).bind λn43=>(l39[2]?).bind λv44=>((v44).asI .i64).bind λn45=>(l39[3]?).bind λv46=>((v46).asI .i64).bind λn47=>(l39[4]?).bind λv48=>((v48).asI .i64).bind λn49=>(Sl.idx wV eH 5).bind λp50=>(Hp.st r38.2 p50.1 p50.2 (.int .i64 n41)).bind λH51=>(Hp.st H51 p50.1 (p50.2+1) (.int .i64 n43)).bind λH52=>(Hp.st H52 p50.1 (p50.2+1+1) (.int .i64 n45)).bind λH53=>(Hp.st H53 p50.1 (p50.2+1+1+1) (.int .i64 n47)).bind λH54=>(Hp.st H54 p50.1 (p50.2+1+1+1+1) (.int .i64 n49)).bind λH55=>ch.l29 F gn gG cU wV (wrap .i64 (eH+1)) H55) else (some ((.sl wV),H7)))
def ch.twX (gn:asF) (aa:Sl) (H:Hp):OA:=(Hp.mk H [.int .i64 0,.int .i64 0,.int .i64 0,.int .i64 0,.int .i64 0] 40 (aa.n:Int) (aa.n:Int)).bind λm2=>ch.l29 F gn F aa m2.1 0 m2.2
def ch.tw:=ch.twX F (fu.tw F)
def ch.lh29 (gn:asF) (ks:ast) (n:Nat) (tm:Tm) (H:Hp):OA:=match ks,tm 0,tm 3,tm 4 with
 | [],(.sl cU),(.sl wV),(.int .i64 eH)=>ch.l29 F gn n cU wV eH H
 | _,_,_,_=>none
def ch.lh (gn:asF) (p:Nat) (ks:ast) (n:Nat) (tm:Tm) (H:Hp):OA:=bif p.beq 29 then ch.lh29 F gn ks n tm H else (none)
def mk3 (g:asq) (args:asD) (H:Hp):OA:=match args with
 | [(.sl aa)]=>g aa H
 | _=>none
theorem mk3_E (g:asq) (aa:Sl) (H:Hp):mk3 g [(.sl aa)] H=g aa H:=rfl
def ch.cs (F:Nat) (gn:asF):Cs:=[(59,mk2 gn)]
theorem ch.loops (gn:asF):LO (aX (ch.cs F gn)) aH (ch.lh F gn) F Try.f31:=
 (ae.rt (ae.rt (ae.lt (ae.rt (ae.block (ae.la (λn tm H r h=>by change ch.lh29 F gn [] n tm H=_ at h;unfold ch.lh29 at h;split at h;have e:bD tm [(0,_),(3,_),(4,_)]:=⟨‹_›,‹_›,‹_›,trivial⟩;obtain _ | k29:=n;cases h;exact ⟨_,rfl,by rw [<- bH e];exact Eq.trans (by kernel_rfl) h⟩;cases h) λk29=>ae.no))))))
theorem ch.eqX (gn:asF) (aa:Sl) (H:Hp):EX (aX (ch.cs F gn)) aH (ch.lh F gn) F Try.f31 [(.sl aa)] H=ch.twX F gn aa H:=by kernel_rfl
theorem ch.k:Ok Try.prog 31 (mk3 (ch.tw F)):=by
 intro args H v H' h
 unfold mk3 at h
 split at h
 ·exact okT (TB:=aH) Try.func31 (aN (fu.k F) bt) (ch.loops F (fu.tw F)) ((ch.eqX F (fu.tw F) _ H).trans h) (by kernel_rfl)
 ·cases h
def dC.twX (F:Nat) (sj:asq) (aa:Sl) (af:Int) (H:Hp):OA:=(Hp.new H [(.sl aa),(.int .i64 af)]).bind λH3=>(Hp.new H3 [.sl ⟨none,0,.ex 0⟩,.int .i64 0]).bind λH4=>(Hp.new H4 [.sl ⟨none,0,.ex 0⟩,.int .i64 0]).bind λH5=>(Hp.ldSl H5 H.length 0).bind λs6=>(sj s6 H5).bind λr7=>((r7.1).asSl).bind λs8=>(Hp.st r7.2 H4.length 0 (.sl s8)).bind λH9=>(Hp.ldI H9 .i64 H.length 1).bind λn10=>(Hp.st H9 H4.length 1 (.int .i64 n10)).bind λH11=>(Hp.ldSl H11 H4.length 0).bind λs12=>(Hp.ldI H11 .i64 H4.length (0+1)).bind λn13=>(Hp.st H11 H3.length 0 (.sl s12)).bind λH14=>(Hp.st H14 H3.length (0+1) (.int .i64 n13)).bind λH15=>(Hp.ldSl H15 H3.length 0).bind λs16=>(Hp.ldI H15 .i64 H3.length (0+1)).bind λn17=>some ((.agg [(.sl s16),(.int .i64 n17)]),H15)
def dC.tw:=dC.twX F (ch.tw F)
def mk4 (g:aso) (args:asD) (H:Hp):OA:=match args with
 | [(.agg [(.sl aa),(.int .i64 af)])]=>g aa af H
 | _=>none
theorem mk4_E (g:aso) (aa:Sl) (af:Int) (H:Hp):mk4 g [(.agg [(.sl aa),(.int .i64 af)])] H=g aa af H:=rfl
def dC.cs (F:Nat) (sj:asq):Cs:=[(31,mk3 sj)]
theorem dC.eqX (sj:asq) (aa:Sl) (af:Int) (H:Hp):EX (aX (dC.cs F sj)) aH lh0 F Try.f9 [(.agg [(.sl aa),(.int .i64 af)])] H=dC.twX F sj aa af H:=by kernel_rfl
theorem dC.k:Ok Try.prog 9 (mk4 (dC.tw F)):=by
 intro args H v H' h
 unfold mk4 at h
 split at h
 ·exact okT (TB:=aH) Try.func9 (aN (ch.k F) bt) ae.no ((dC.eqX F (ch.tw F) _ _ H).trans h) (by kernel_rfl)
 ·cases h
def cV.twX (F:Nat) (aa:Int) (au:Int) (cQ:Int) (H:Hp):OA:=(bif (decide (aa>=au)) then (some ((.bool (decide (aa<=cQ))),H)) else (some ((.bool false),H)))
def cV.tw:=cV.twX F
def mk5 (g:asA) (args:asD) (H:Hp):OA:=match args with
 | [(.int .i64 aa),(.int .i64 au),(.int .i64 cQ)]=>g aa au cQ H
 | _=>none
theorem mk5_E (g:asA) (aa:Int) (au:Int) (cQ:Int) (H:Hp):mk5 g [(.int .i64 aa),(.int .i64 au),(.int .i64 cQ)] H=g aa au cQ H:=rfl
theorem cV.k:Ok Try.prog 39 (mk5 (cV.tw F)):=by
 intro args H v H' h
 unfold mk5 at h
 split at h
 ·exact ok0 Try.func39 (Eq.trans (by kernel_rfl) h) (by kernel_rfl) (by kernel_rfl)
 ·cases h
def da.twX (F:Nat) (aa:Int) (af:Int) (bX:Int) (bY:Int) (bN:Int) (cH:Int) (H:Hp):OA:=(Hp.new H [(.int .i64 aa),(.int .i64 af),(.int .i64 bX),(.int .i64 bY),(.int .i64 bN)]).bind λH7=>(Hp.ldI H7 .i64 H.length 0).bind λn8=>(Hp.ldI H7 .i64 H.length 1).bind λn9=>(Hp.ldI H7 .i64 H.length 2).bind λn10=>(Hp.ldI H7 .i64 H.length 3).bind λn11=>(Hp.new H7 [(.int .i64 n8),(.int .i64 n9),(.int .i64 n10),(.int .i64 n11)]).bind λH12=>(Sl.idx (⟨some (H7.length,0),4,.ex 4⟩:Sl) cH 1).bind λp13=>(Hp.ldI H12 .i64 p13.1 p13.2).bind λn14=>some ((.int .i64 n14),H12)
def da.tw:=da.twX F
def mk6 (g:asw) (args:asD) (H:Hp):OA:=match args with
 | [(.agg [(.int .i64 aa),(.int .i64 af),(.int .i64 bX),(.int .i64 bY),(.int .i64 bN)]),(.int .i64 cH)]=>g aa af bX bY bN cH H
 | _=>none
theorem mk6_E (g:asw) (aa:Int) (af:Int) (bX:Int) (bY:Int) (bN:Int) (cH:Int) (H:Hp):mk6 g [(.agg [(.int .i64 aa),(.int .i64 af),(.int .i64 bX),(.int .i64 bY),(.int .i64 bN)]),(.int .i64 cH)] H=g aa af bX bY bN cH H:=rfl
theorem da.k:Ok Try.prog 95 (mk6 (da.tw F)):=by
 intro args H v H' h
 unfold mk6 at h
 split at h
 ·exact ok0 Try.func95 (Eq.trans (by kernel_rfl) h) (by kernel_rfl) (by kernel_rfl)
 ·cases h
def db.twX (F:Nat) (aa:Int) (af:Int) (bX:Int) (bY:Int) (bN:Int) (cH:Int) (H:Hp):OA:=(Hp.new H [(.int .i64 aa),(.int .i64 af),(.int .i64 bX),(.int .i64 bY),(.int .i64 bN)]).bind λH7=>(bif (cH==0) then (some ((.bool true),H7)) else ((bif (cH==3) then ((Hp.ldI H7 .i64 H.length 4).bind λn8=>(bif (n8==1) then (some ((.bool true),H7)) else ((bif (cH==1) then ((Hp.ldI H7 .i64 H.length 4).bind λn9=>some ((.bool (n9==(-1))),H7)) else (some ((.bool false),H7)))))) else ((bif (cH==1) then ((Hp.ldI H7 .i64 H.length 4).bind λn10=>some ((.bool (n10==(-1))),H7)) else (some ((.bool false),H7)))))))
def db.tw:=db.twX F
theorem db.k:Ok Try.prog 96 (mk6 (db.tw F)):=by
 intro args H v H' h
 unfold mk6 at h
 split at h
 ·exact ok0 Try.func96 (Eq.trans (by kernel_rfl) h) (by kernel_rfl) (by kernel_rfl)
 ·cases h
def bc.l3927 (F:Nat) (bB:asw) (bZ:asA) (bC:asw) (C61_:atq):Nat->Nat->Nat->Int->Sl->Sl->Int->Nat->Nat->Int->Hp->OA
 | 0,_,_,_,_,_,_,_,_,_,_=>none
 | Uq+1,mM,wW,hZ,pF,pG,gp,gq,i_,gH,H126=>(bif (decide (gH<4)) then ((Hp.ldI H126 .i64 gq i_).bind λn151=>(Hp.ldI H126 .i64 gq (i_+1)).bind λn152=>(Hp.ldI H126 .i64 gq (i_+2)).bind λn153=>(Hp.ldI H126 .i64 gq (i_+3)).bind λn154=>(Hp.ldI H126 .i64 gq (i_+4)).bind λn155=>(bB n151 n152 n153 n154 n155 gH H126).bind λr156=>((r156.1).asI .i64).bind λn157=>(bZ n157 0 (wrap .i64 (hZ - 1)) r156.2).bind λr158=>((r158.1).asB).bind λb159=>(bif (!b159) then (some ((.bool false),r158.2)) else ((Hp.ldI r158.2 .i64 gq i_).bind λn160=>(Hp.ldI r158.2 .i64 gq (i_+1)).bind λn161=>(Hp.ldI r158.2 .i64 gq (i_+2)).bind λn162=>(Hp.ldI r158.2 .i64 gq (i_+3)).bind λn163=>(Hp.ldI r158.2 .i64 gq (i_+4)).bind λn164=>(bC n160 n161 n162 n163 n164 gH r158.2).bind λr165=>((r165.1).asB).bind λb166=>(bif b166 then ((Sl.idx pF n157 1).bind λp167=>(Hp.ldB r165.2 p167.1 p167.2).bind λb168=>(bif b168 then (some ((.bool false),r165.2)) else ((Sl.idx pF n157 1).bind λp169=>(Hp.st r165.2 p169.1 p169.2 (.bool true)).bind λH170=>bc.l3927 F bB bZ bC C61_ Uq mM wW hZ pF pG gp gq i_ (wrap .i64 (gH+1)) H170))) else ((Sl.idx pG n157 1).bind λp171=>(Hp.ldB r165.2 p171.1 p171.2).bind λb172=>(bif b172 then (some ((.bool false),r165.2)) else ((Sl.idx pG n157 1).bind λp173=>(Hp.st r165.2 p173.1 p173.2 (.bool true)).bind λH174=>bc.l3927 F bB bZ bC C61_ Uq mM wW hZ pF pG gp gq i_ (wrap .i64 (gH+1)) H174))))))) else (C61_ mM wW hZ pF pG (wrap .i64 (gp+1)) H126))
termination_by structural n=>n
def bc.l61 (F:Nat) (bB:asw) (bZ:asA) (bC:asw) :Nat->Nat->Nat->Int->Sl->Sl->Int->Hp->OA
 | 0,_,_,_,_,_,_,_=>none
 | bQ+1,fN,eo,gI,kr,fk,h_,H16=>(Hp.ldSl H16 fN eo).bind λs96=>(bif (decide (h_<(s96.n:Int))) then ((Hp.ldSl H16 fN eo).bind λs97=>(Sl.idx s97 h_ 5).bind λp98=>(Hp.ldI H16 .i64 p98.1 p98.2).bind λn99=>(Hp.ldI H16 .i64 p98.1 (p98.2+1)).bind λn100=>(Hp.ldI H16 .i64 p98.1 (p98.2+2)).bind λn101=>(Hp.ldI H16 .i64 p98.1 (p98.2+3)).bind λn102=>(Hp.ldI H16 .i64 p98.1 (p98.2+4)).bind λn103=>(Hp.new H16 [.int .i64 0,.int .i64 0,.int .i64 0,.int .i64 0,.int .i64 0]).bind λH104=>(Hp.st H104 H16.length 0 (.int .i64 n99)).bind λH105=>(Hp.st H105 H16.length (0+1) (.int .i64 n100)).bind λH106=>(Hp.st H106 H16.length (0+1+1) (.int .i64 n101)).bind λH107=>(Hp.st H107 H16.length (0+1+1+1) (.int .i64 n102)).bind λH108=>(Hp.st H108 H16.length (0+1+1+1+1) (.int .i64 n103)).bind λH109=>(Hp.ldI H109 .i64 H16.length 4).bind λn110=>(bif (n110 != 1) then ((Hp.ldI H109 .i64 H16.length 4).bind λn111=>(bif (n111 != (-1)) then (some ((.bool false),H109)) else (bc.l3927 F bB bZ bC (bc.l61 F bB bZ bC bQ) F fN eo gI kr fk h_ H16.length 0 0 H109))) else (bc.l3927 F bB bZ bC (bc.l61 F bB bZ bC bQ) F fN eo gI kr fk h_ H16.length 0 0 H109))) else (some ((.bool true),H16)))
termination_by structural n=>n
def bc.twX (bB:asw) (bZ:asA) (bC:asw) (aa:Sl) (af:Int) (H:Hp):OA:=(Hp.new H [(.sl aa),(.int .i64 af)]).bind λH3=>(Hp.ldSl H3 H.length 0).bind λs4=>(Hp.mk H3 [.bool false] 1 (wrap .i64 (2 * (s4.n:Int))) (wrap .i64 (2 * (s4.n:Int)))).bind λm5=>(Hp.mk m5.2 [.bool false] 1 (wrap .i64 (2 * (s4.n:Int))) (wrap .i64 (2 * (s4.n:Int)))).bind λm6=>bc.l61 F bB bZ bC F H.length 0 (wrap .i64 (2 * (s4.n:Int))) m5.1 m6.1 0 m6.2
def bc.tw:=bc.twX F (da.tw F) (cV.tw F) (db.tw F)
def bc.lh61 (bB:asw) (bZ:asA) (bC:asw) (ks:ast) (n:Nat) (tm:Tm) (H:Hp):OA:=match ks,tm 1,tm 3,tm 4,tm 5,tm 6 with
 | [],(.ptr fN eo),(.int .i64 gI),(.sl kr),(.sl fk),(.int .i64 h_)=>bc.l61 F bB bZ bC n fN eo gI kr fk h_ H
 | _,_,_,_,_,_=>none
def bc.lh3927 (bB:asw) (bZ:asA) (bC:asw) (ks:ast) (n:Nat) (tm:Tm) (H:Hp):OA:=match ks,tm 1,tm 3,tm 4,tm 5,tm 6,tm 7,tm 8 with
 | [bQ],(.ptr mM wW),(.int .i64 hZ),(.sl pF),(.sl pG),(.int .i64 gp),(.ptr gq i_),(.int .i64 gH)=>bc.l3927 F bB bZ bC (bc.l61 F bB bZ bC bQ) n mM wW hZ pF pG gp gq i_ gH H
 | _,_,_,_,_,_,_,_=>none
def bc.lh (bB:asw) (bZ:asA) (bC:asw) (p:Nat) (ks:ast) (n:Nat) (tm:Tm) (H:Hp):OA:=bif p.beq 3927 then bc.lh3927 F bB bZ bC ks n tm H else (bif p.beq 61 then bc.lh61 F bB bZ bC ks n tm H else (none))
def bc.tb:Nat->List (List Nat):=cP [(2,[[],[0],[],[2],[0,1],[0,1,2,3,4]])]
def bc.cs (F:Nat) (bB:asw) (bZ:asA) (bC:asw):Cs:=[(95,mk6 bB),(39,mk5 bZ),(96,mk6 bC)]
theorem bc.loops (bB:asw) (bZ:asA) (bC:asw):LO (aX (bc.cs F bB bZ bC)) aH (bc.lh F bB bZ bC) F Try.f50:=
 (ae.rt (ae.rt (ae.rt (ae.lt (ae.rt (ae.block (ae.la (λn tm H r h=>by change bc.lh61 F bB bZ bC [] n tm H=_ at h;unfold bc.lh61 at h;split at h;have e:bD tm [(1,_),(3,_),(4,_),(5,_),(6,_)]:=⟨‹_›,‹_›,‹_›,‹_›,‹_›,trivial⟩;obtain _ | k61:=n;cases h;exact ⟨_,rfl,by rw [<- bH e];exact Eq.trans (by kernel_rfl) h⟩;cases h) λk61=>(ae.rt (ae.lt (ae.block (ae.rt (ae.rt (ae.rt (ae.block (ae.la (λn tm H r h=>by change bc.lh3927 F bB bZ bC [k61] n tm H=_ at h;unfold bc.lh3927 at h;split at h;have e:bD tm [(1,_),(3,_),(4,_),(5,_),(6,_),(7,_),(8,_)]:=⟨‹_›,‹_›,‹_›,‹_›,‹_›,‹_›,‹_›,trivial⟩;cases (show [k61]=_ from ‹_›);obtain _ | k3927:=n;cases h;exact ⟨_,rfl,by rw [<- bH e];exact Eq.trans (by kernel_rfl) h⟩;cases h) λk3927=>ae.no)))))))))))))))
theorem bc.eqX (bB:asw) (bZ:asA) (bC:asw) (aa:Sl) (af:Int) (H:Hp):EX (aX (bc.cs F bB bZ bC)) aH (bc.lh F bB bZ bC) F Try.f50 [(.agg [(.sl aa),(.int .i64 af)])] H=bc.twX F bB bZ bC aa af H:=by kernel_rfl
theorem bc.k:Ok Try.prog 50 (mk4 (bc.tw F)):=by
 intro args H v H' h
 unfold mk4 at h
 split at h
 ·exact okT (TB:=bc.tb) Try.func50 (aN (da.k F) (aN (cV.k F) (aN (db.k F) bt))) (bc.loops F (da.tw F) (cV.tw F) (db.tw F)) ((bc.eqX F (da.tw F) (cV.tw F) (db.tw F) _ _ H).trans h) (by kernel_rfl)
 ·cases h
def aL.j3 (F:Nat) (bB:asw) (bC:asw) (C13_:as7) (nK:Int) (sk:Bool) (sq:Nat) (af9:Nat) (su:Int) (H147:Hp):OA:=C13_ nK sk sq af9 (wrap .i64 (su+1)) H147
def aL.j4 (bB:asw) (bC:asw) (C13_:as7) (ia:Int) (sv:Bool) (AA:Nat) (af_:Nat) (sw:Int) (H134:Hp):OA:=aL.j3 F bB bC C13_ ia sv AA af_ sw H134
def aL.l213 (F:Nat) (bB:asw) (bC:asw) (C13_:as7):Nat->Int->Bool->Nat->Nat->Int->Int->Hp->OA
 | 0,_,_,_,_,_,_,_=>none
 | Ur+1,ib,ic,kt,pH,fO,dd,H103=>(bif (decide (dd<4)) then ((Hp.ldSl H103 kt pH).bind λs148=>(Sl.idx s148 fO 5).bind λp149=>(Hp.ldI H103 .i64 p149.1 p149.2).bind λn150=>(Hp.ldI H103 .i64 p149.1 (p149.2+1)).bind λn151=>(Hp.ldI H103 .i64 p149.1 (p149.2+2)).bind λn152=>(Hp.ldI H103 .i64 p149.1 (p149.2+3)).bind λn153=>(Hp.ldI H103 .i64 p149.1 (p149.2+4)).bind λn154=>(bB n150 n151 n152 n153 n154 dd H103).bind λr155=>((r155.1).asI .i64).bind λn156=>(bif (n156==ib) then ((Hp.ldSl r155.2 kt pH).bind λs157=>(Sl.idx s157 fO 5).bind λp158=>(Hp.ldI r155.2 .i64 p158.1 p158.2).bind λn159=>(Hp.ldI r155.2 .i64 p158.1 (p158.2+1)).bind λn160=>(Hp.ldI r155.2 .i64 p158.1 (p158.2+2)).bind λn161=>(Hp.ldI r155.2 .i64 p158.1 (p158.2+3)).bind λn162=>(Hp.ldI r155.2 .i64 p158.1 (p158.2+4)).bind λn163=>(bC n159 n160 n161 n162 n163 dd r155.2).bind λr164=>((r164.1).asB).bind λb165=>(bif (b165==ic) then (some ((.tup [(.int .i64 fO),(.int .i64 dd)]),r164.2)) else (aL.l213 F bB bC C13_ Ur ib ic kt pH fO (wrap .i64 (dd+1)) r164.2))) else (aL.l213 F bB bC C13_ Ur ib ic kt pH fO (wrap .i64 (dd+1)) r155.2))) else (aL.j4 F bB bC C13_ ib ic kt pH fO H103))
termination_by structural n=>n
def aL.l13 (F:Nat) (bB:asw) (bC:asw) :Nat->Int->Bool->Nat->Nat->Int->Hp->OA
 | 0,_,_,_,_,_,_=>none
 | ig+1,cA,fP,eJ,gr,ku,H15=>(Hp.ldSl H15 eJ gr).bind λs91=>(bif (decide (ku<(s91.n:Int))) then (aL.l213 F bB bC (aL.l13 F bB bC ig) F cA fP eJ gr ku 0 H15) else (some ((.tup [(.int .i64 (-1)),(.int .i64 (-1))]),H15)))
termination_by structural n=>n
def aL.twX (bB:asw) (bC:asw) (aa:Sl) (af:Int) (ar:Int) (ja:Bool) (H:Hp):OA:=(Hp.new H [(.sl aa),(.int .i64 af)]).bind λH5=>aL.l13 F bB bC F ar ja H.length 0 0 H5
def aL.tw:=aL.twX F (da.tw F) (db.tw F)
def aL.lh13 (bB:asw) (bC:asw) (ks:ast) (n:Nat) (tm:Tm) (H:Hp):OA:=match ks,tm 1,tm 2,tm 3,tm 8 with
 | [],(.int .i64 cA),(.bool fP),(.ptr eJ gr),(.int .i64 ku)=>aL.l13 F bB bC n cA fP eJ gr ku H
 | _,_,_,_,_=>none
def aL.lh213 (bB:asw) (bC:asw) (ks:ast) (n:Nat) (tm:Tm) (H:Hp):OA:=match ks,tm 1,tm 2,tm 3,tm 8,tm 9 with
 | [ig],(.int .i64 ib),(.bool ic),(.ptr kt pH),(.int .i64 fO),(.int .i64 dd)=>aL.l213 F bB bC (aL.l13 F bB bC ig) n ib ic kt pH fO dd H
 | _,_,_,_,_,_=>none
def aL.lh (bB:asw) (bC:asw) (p:Nat) (ks:ast) (n:Nat) (tm:Tm) (H:Hp):OA:=bif p.beq 213 then aL.lh213 F bB bC ks n tm H else (bif p.beq 13 then aL.lh13 F bB bC ks n tm H else (none))
def mk7 (g:asH) (args:asD) (H:Hp):OA:=match args with
 | [(.agg [(.sl aa),(.int .i64 af)]),(.int .i64 ar),(.bool ja)]=>g aa af ar ja H
 | _=>none
theorem mk7_E (g:asH) (aa:Sl) (af:Int) (ar:Int) (ja:Bool) (H:Hp):mk7 g [(.agg [(.sl aa),(.int .i64 af)]),(.int .i64 ar),(.bool ja)] H=g aa af ar ja H:=rfl
def aL.cs (F:Nat) (bB:asw) (bC:asw):Cs:=[(95,mk6 bB),(96,mk6 bC)]
theorem aL.loops (bB:asw) (bC:asw):LO (aX (aL.cs F bB bC)) aH (aL.lh F bB bC) F Try.f98:=
 (ae.rt (ae.lt (ae.rt (ae.block (ae.la (λn tm H r h=>by change aL.lh13 F bB bC [] n tm H=_ at h;unfold aL.lh13 at h;split at h;have e:bD tm [(1,_),(2,_),(3,_),(8,_)]:=⟨‹_›,‹_›,‹_›,‹_›,trivial⟩;obtain _ | k13:=n;cases h;exact ⟨_,rfl,by rw [<- bH e];exact Eq.trans (by kernel_rfl) h⟩;cases h) λk13=>(ae.rt (ae.lt (ae.block (ae.rt (ae.block (ae.la (λn tm H r h=>by change aL.lh213 F bB bC [k13] n tm H=_ at h;unfold aL.lh213 at h;split at h;have e:bD tm [(1,_),(2,_),(3,_),(8,_),(9,_)]:=⟨‹_›,‹_›,‹_›,‹_›,‹_›,trivial⟩;cases (show [k13]=_ from ‹_›);obtain _ | k213:=n;cases h;exact ⟨_,rfl,by rw [<- bH e];exact Eq.trans (by kernel_rfl) h⟩;cases h) λk213=>ae.no)))))))))))
theorem aL.eqX (bB:asw) (bC:asw) (aa:Sl) (af:Int) (ar:Int) (ja:Bool) (H:Hp):EX (aX (aL.cs F bB bC)) aH (aL.lh F bB bC) F Try.f98 [(.agg [(.sl aa),(.int .i64 af)]),(.int .i64 ar),(.bool ja)] H=aL.twX F bB bC aa af ar ja H:=by kernel_rfl
theorem aL.k:Ok Try.prog 98 (mk7 (aL.tw F)):=by
 intro args H v H' h
 unfold mk7 at h
 split at h
 ·exact okT (TB:=aH) Try.func98 (aN (da.k F) (aN (db.k F) bt)) (aL.loops F (da.tw F) (db.tw F)) ((aL.eqX F (da.tw F) (db.tw F) _ _ _ _ H).trans h) (by kernel_rfl)
 ·cases h
def dh.twX (F:Nat) (bB:asw) (bC:asw) (ck:asH) (aa:Sl) (af:Int) (ar:Int) (H:Hp):OA:=(Hp.new H [(.sl aa),(.int .i64 af)]).bind λH4=>(Hp.ldSl H4 H.length 0).bind λs5=>(Sl.idx s5 (wrap .i64 (Int.tdiv ar 4)) 5).bind λp6=>(Hp.ldI H4 .i64 p6.1 p6.2).bind λn7=>(Hp.ldI H4 .i64 p6.1 (p6.2+1)).bind λn8=>(Hp.ldI H4 .i64 p6.1 (p6.2+2)).bind λn9=>(Hp.ldI H4 .i64 p6.1 (p6.2+3)).bind λn10=>(Hp.ldI H4 .i64 p6.1 (p6.2+4)).bind λn11=>(Hp.new H4 [.int .i64 0,.int .i64 0,.int .i64 0,.int .i64 0,.int .i64 0]).bind λH12=>(Hp.st H12 H4.length 0 (.int .i64 n7)).bind λH13=>(Hp.st H13 H4.length (0+1) (.int .i64 n8)).bind λH14=>(Hp.st H14 H4.length (0+1+1) (.int .i64 n9)).bind λH15=>(Hp.st H15 H4.length (0+1+1+1) (.int .i64 n10)).bind λH16=>(Hp.st H16 H4.length (0+1+1+1+1) (.int .i64 n11)).bind λH17=>(Hp.ldSl H17 H.length 0).bind λs18=>(Hp.ldI H17 .i64 H.length (0+1)).bind λn19=>(Hp.ldI H17 .i64 H4.length 0).bind λn20=>(Hp.ldI H17 .i64 H4.length (0+1)).bind λn21=>(Hp.ldI H17 .i64 H4.length (0+2)).bind λn22=>(Hp.ldI H17 .i64 H4.length (0+3)).bind λn23=>(Hp.ldI H17 .i64 H4.length (0+4)).bind λn24=>(bB n20 n21 n22 n23 n24 (Int.tmod (wrap .i64 ((Int.tmod ar 4)+1)) 4) H17).bind λr25=>((r25.1).asI .i64).bind λn26=>(if aZ H17 r25.2 then ((Hp.ldI r25.2 .i64 H4.length 0).bind λn27=>(Hp.ldI r25.2 .i64 H4.length (0+1)).bind λn28=>(Hp.ldI r25.2 .i64 H4.length (0+2)).bind λn29=>(Hp.ldI r25.2 .i64 H4.length (0+3)).bind λn30=>(Hp.ldI r25.2 .i64 H4.length (0+4)).bind λn31=>(bC n27 n28 n29 n30 n31 (Int.tmod (wrap .i64 ((Int.tmod ar 4)+1)) 4) r25.2).bind λr32=>((r32.1).asB).bind λb33=>(if aZ r25.2 r32.2 then ((ck s18 n19 n26 (!b33) r32.2).bind λr34=>((r34.1).asTup 2).bind λl35=>(l35[0]?).bind λv36=>((v36).asI .i64).bind λn37=>(l35[1]?).bind λv38=>((v38).asI .i64).bind λn39=>some ((.int .i64 (wrap .i64 ((wrap .i64 (4 * n37))+n39))),r34.2)) else none)) else none)
def dh.tw:=dh.twX F (da.tw F) (db.tw F) (aL.tw F)
def dh.pn:Nat->List Nat:=cP [(3,[8])]
def dh.tb:Nat->List (List Nat):=cP [(3,[[],[],[],[1,2],[],[],[1,2,3,4,5],[1,2,3,4,5,6],[0,1,2,3,4,5,6,7],[0,1,2,3,4,5,6,7,8],[0,1,2,3,4,5,6,7,8,9],[0,1,2,3,4,5,6,7,8,9],[0,1,2,3,4,5,6,7,8,9,10],[0,1,2,3,4,5,6,7,8,9,10,11,12]])]
def dh.cs (F:Nat) (bB:asw) (bC:asw) (ck:asH):Cs:=[(95,mk6 bB),(96,mk6 bC),(98,mk7 ck)]
theorem dh.eqX (bB:asw) (bC:asw) (ck:asH) (aa:Sl) (af:Int) (ar:Int) (H:Hp):EX (aX (dh.cs F bB bC ck)) dh.pn lh0 F Try.f97 [(.agg [(.sl aa),(.int .i64 af)]),(.int .i64 ar)] H=dh.twX F bB bC ck aa af ar H:=by kernel_rfl
theorem dh.k:Ok Try.prog 97 (mk1 (dh.tw F)):=by
 intro args H v H' h
 unfold mk1 at h
 split at h
 ·exact okT (TB:=dh.tb) Try.func97 (aN (da.k F) (aN (db.k F) (aN (aL.k F) bt))) ae.no ((dh.eqX F (da.tw F) (db.tw F) (aL.tw F) _ _ _ H).trans h) (by kernel_rfl)
 ·cases h
def aP.j4 (F:Nat) (dt:asz) (C61_:asR) (fE:Nat) (Hb:Nat) (Hc:Sl) (Hd:Sl) (sx:Int) (H108:Hp):OA:=C61_ fE Hb Hc Hd (wrap .i64 (sx+1)) H108
def aP.j5 (F:Nat) (dt:asz) (C61_:asR) (AB:Nat) (aga:Nat) (agb:Sl) (agc:Sl) (sy:Int) (H164:Hp):OA:=C61_ AB aga agb agc (wrap .i64 (sy+1)) H164
def aP.j6 (dt:asz) (C61_:asR) (AC:Nat) (nK:Nat) (sq:Sl) (He:Sl) (kv:Int) (agd:Sl) (H147:Hp):OA:=(Hp.new H147 [(.sl agd)]).bind λH148=>(Sl.row H148 (⟨some (H147.length,0),1,.ex 1⟩:Sl) 1).bind λxs150=>(Hp.app H148 1 24 sq (⟨some (H147.length,0),1,.ex 1⟩:Sl).n xs150).bind λa149=>aP.j5 F dt C61_ AC nK a149.1 He kv a149.2
def aP.l7853 (F:Nat) (dt:asz) (C61_:asR):Nat->Nat->Nat->Sl->Sl->Int->Sl->Int->Hp->OA
 | 0,_,_,_,_,_,_,_,_=>none
 | age+1,lX,sB,AD,sC,kw,gp,gJ,H122=>(Sl.idx sC gJ 1).bind λp165=>(Hp.ldB H122 p165.1 p165.2).bind λb166=>(bif (!b166) then ((Sl.idx sC gJ 1).bind λp167=>(Hp.st H122 p167.1 p167.2 (.bool true)).bind λH168=>(Hp.new H168 [(.int .i64 gJ)]).bind λH169=>(Sl.row H169 (⟨some (H168.length,0),1,.ex 1⟩:Sl) 1).bind λxs171=>(Hp.app H169 1 8 gp (⟨some (H168.length,0),1,.ex 1⟩:Sl).n xs171).bind λa170=>(Hp.ldSl a170.2 lX sB).bind λs172=>(Hp.ldI a170.2 .i64 lX (sB+1)).bind λn173=>(dt s172 n173 gJ a170.2).bind λr174=>((r174.1).asI .i64).bind λn175=>aP.l7853 F dt C61_ age lX sB AD sC kw a170.1 n175 r174.2) else (aP.j6 F dt C61_ lX sB AD sC kw gp H122))
termination_by structural n=>n
def aP.l61 (F:Nat) (dt:asz) :Nat->Nat->Nat->Sl->Sl->Int->Hp->OA
 | 0,_,_,_,_,_,_=>none
 | bQ+1,fN,eo,gI,kr,fk,H15=>(bif (decide (fk<(kr.n:Int))) then ((Sl.idx kr fk 1).bind λp96=>(Hp.ldB H15 p96.1 p96.2).bind λb97=>(bif b97 then (aP.j4 F dt (aP.l61 F dt bQ) fN eo gI kr fk H15) else ((Hp.new H15 []).bind λH109=>aP.l7853 F dt (aP.l61 F dt bQ) F fN eo gI kr fk (⟨some (H15.length,0),0,.ex 0⟩:Sl) fk H109))) else (some ((.sl gI),H15)))
termination_by structural n=>n
def aP.twX (dt:asz) (aa:Sl) (af:Int) (H:Hp):OA:=(Hp.new H [(.sl aa),(.int .i64 af)]).bind λH3=>(Hp.new H3 []).bind λH4=>(Hp.ldSl H4 H.length 0).bind λs5=>(Hp.mk H4 [.bool false] 1 (wrap .i64 (4 * (s5.n:Int))) (wrap .i64 (4 * (s5.n:Int)))).bind λm6=>aP.l61 F dt F H.length 0 (⟨some (H3.length,0),0,.ex 0⟩:Sl) m6.1 0 m6.2
def aP.tw:=aP.twX F (dh.tw F)
def aP.lh61 (dt:asz) (ks:ast) (n:Nat) (tm:Tm) (H:Hp):OA:=match ks,tm 1,tm 3,tm 4,tm 5 with
 | [],(.ptr fN eo),(.sl gI),(.sl kr),(.int .i64 fk)=>aP.l61 F dt n fN eo gI kr fk H
 | _,_,_,_,_=>none
def aP.lh7853 (dt:asz) (ks:ast) (n:Nat) (tm:Tm) (H:Hp):OA:=match ks,tm 1,tm 3,tm 4,tm 5,tm 6,tm 7 with
 | [bQ],(.ptr lX sB),(.sl AD),(.sl sC),(.int .i64 kw),(.sl gp),(.int .i64 gJ)=>aP.l7853 F dt (aP.l61 F dt bQ) n lX sB AD sC kw gp gJ H
 | _,_,_,_,_,_,_=>none
def aP.lh (dt:asz) (p:Nat) (ks:ast) (n:Nat) (tm:Tm) (H:Hp):OA:=bif p.beq 7853 then aP.lh7853 F dt ks n tm H else (bif p.beq 61 then aP.lh61 F dt ks n tm H else (none))
def aP.cs (F:Nat) (dt:asz):Cs:=[(97,mk1 dt)]
theorem aP.loops (dt:asz):LO (aX (aP.cs F dt)) aH (aP.lh F dt) F Try.f51:=
 (ae.rt (ae.rt (ae.rt (ae.lt (ae.rt (ae.block (ae.la (λn tm H r h=>by change aP.lh61 F dt [] n tm H=_ at h;unfold aP.lh61 at h;split at h;have e:bD tm [(1,_),(3,_),(4,_),(5,_)]:=⟨‹_›,‹_›,‹_›,‹_›,trivial⟩;obtain _ | k61:=n;cases h;exact ⟨_,rfl,by rw [<- bH e];exact Eq.trans (by kernel_rfl) h⟩;cases h) λk61=>(ae.rt (ae.lt (ae.block (ae.rt (ae.rt (ae.lt (ae.rt (ae.block (ae.la (λn tm H r h=>by change aP.lh7853 F dt [k61] n tm H=_ at h;unfold aP.lh7853 at h;split at h;have e:bD tm [(1,_),(3,_),(4,_),(5,_),(6,_),(7,_)]:=⟨‹_›,‹_›,‹_›,‹_›,‹_›,‹_›,trivial⟩;cases (show [k61]=_ from ‹_›);obtain _ | k7853:=n;cases h;exact ⟨_,rfl,by rw [<- bH e];exact Eq.trans (by kernel_rfl) h⟩;cases h) λk7853=>ae.no))))))))))))))))
theorem aP.eqX (dt:asz) (aa:Sl) (af:Int) (H:Hp):EX (aX (aP.cs F dt)) aH (aP.lh F dt) F Try.f51 [(.agg [(.sl aa),(.int .i64 af)])] H=aP.twX F dt aa af H:=by kernel_rfl
theorem aP.k:Ok Try.prog 51 (mk4 (aP.tw F)):=by
 intro args H v H' h
 unfold mk4 at h
 split at h
 ·exact okT (TB:=aH) Try.func51 (aN (dh.k F) bt) (aP.loops F (dh.tw F)) ((aP.eqX F (dh.tw F) _ _ H).trans h) (by kernel_rfl)
 ·cases h
def aD.j6 (F:Nat) (ck:asH) (C61_:asO) (AF:Nat) (agf:Nat) (agh:Sl) (sD:Int) (H243:Hp):OA:=C61_ AF agf agh (wrap .i64 (sD+1)) H243
def aD.j7 (ck:asH) (C61_:asO) (AG:Nat) (agi:Nat) (sE:Sl) (nL:Int) (H226:Hp):OA:=aD.j6 F ck C61_ AG agi sE nL H226
def aD.j8 (F:Nat) (ck:asH) (C7855_:atk) (AH:Nat) (agj:Nat) (agk:Sl) (sF:Int) (sG:Int) (sH:Int) (sI:Int) (H265:Hp):OA:=C7855_ AH agj agk sF sG sH (wrap .i64 (sI+1)) H265
def aD.l7855 (F:Nat) (ck:asH) (C61_:asO):Nat->Nat->Nat->Sl->Int->Int->Int->Int->Hp->OA
 | 0,_,_,_,_,_,_,_,_=>none
 | Us+1,mN,wX,nM,ji,fQ,fR,gK,H187=>(bif (decide (gK<(nM.n:Int))) then ((Sl.idx nM gK 1).bind λp244=>(Hp.ldI H187 .i64 p244.1 p244.2).bind λn245=>(bif (n245==(if fR>fQ then fR else fQ)) then ((Sl.idx nM gK 1).bind λp246=>(Hp.st H187 p246.1 p246.2 (.int .i64 (if fR<fQ then fR else fQ))).bind λH247=>aD.j8 F ck (aD.l7855 F ck C61_ Us) mN wX nM ji fQ fR gK H247) else (aD.j8 F ck (aD.l7855 F ck C61_ Us) mN wX nM ji fQ fR gK H187))) else (aD.j7 F ck C61_ mN wX nM ji H187))
termination_by structural n=>n
def aD.l61 (F:Nat) (ck:asH) :Nat->Nat->Nat->Sl->Int->Hp->OA
 | 0,_,_,_,_,_=>none
 | bQ+1,jV,nN,sJ,ii,H35=>(Hp.ldSl H35 jV nN).bind λs151=>(bif (decide (ii<(wrap .i64 (2 * (s151.n:Int))))) then ((Hp.ldSl H35 jV nN).bind λs152=>(Hp.ldI H35 .i64 jV (nN+1)).bind λn153=>(ck s152 n153 ii true H35).bind λr154=>((r154.1).asTup 2).bind λl155=>(l155[0]?).bind λv156=>((v156).asI .i64).bind λn157=>(l155[1]?).bind λv158=>((v158).asI .i64).bind λn159=>(Hp.ldSl r154.2 jV nN).bind λs160=>(Hp.ldI r154.2 .i64 jV (nN+1)).bind λn161=>(ck s160 n161 ii false r154.2).bind λr162=>((r162.1).asTup 2).bind λl163=>(l163[0]?).bind λv164=>((v164).asI .i64).bind λn165=>(l163[1]?).bind λv166=>((v166).asI .i64).bind λn167=>(Sl.idx sJ n157 1).bind λp168=>(Hp.ldI r162.2 .i64 p168.1 p168.2).bind λn169=>(Sl.idx sJ n165 1).bind λp170=>(Hp.ldI r162.2 .i64 p170.1 p170.2).bind λn171=>aD.l7855 F ck (aD.l61 F ck bQ) F jV nN sJ ii n169 n171 0 r162.2) else (some ((.sl sJ),H35)))
termination_by structural n=>n
def aD.j9 (ck:asH) (AI:Nat) (sK:Nat) (agl:Sl) (H25:Hp):OA:=aD.l61 F ck F AI sK agl 0 H25
def aD.l29 (F:Nat) (ck:asH) :Nat->Nat->Nat->Sl->Int->Hp->OA
 | 0,_,_,_,_,_=>none
 | gG+1,di,cA,eJ,dQ,H12=>(Hp.ldSl H12 di cA).bind λs266=>(bif (decide (dQ<(s266.n:Int))) then ((Hp.new H12 [(.int .i64 dQ)]).bind λH267=>(Sl.row H267 (⟨some (H12.length,0),1,.ex 1⟩:Sl) 1).bind λxs269=>(Hp.app H267 1 8 eJ (⟨some (H12.length,0),1,.ex 1⟩:Sl).n xs269).bind λa268=>aD.l29 F ck gG di cA a268.1 (wrap .i64 (dQ+1)) a268.2) else (aD.j9 F ck di cA eJ H12))
termination_by structural n=>n
def aD.twX (ck:asH) (aa:Sl) (af:Int) (H:Hp):OA:=(Hp.new H [(.sl aa),(.int .i64 af)]).bind λH3=>(Hp.new H3 []).bind λH4=>aD.l29 F ck F H.length 0 (⟨some (H3.length,0),0,.ex 0⟩:Sl) 0 H4
def aD.tw:=aD.twX F (aL.tw F)
def aD.lh29 (ck:asH) (ks:ast) (n:Nat) (tm:Tm) (H:Hp):OA:=match ks,tm 1,tm 3,tm 4 with
 | [],(.ptr di cA),(.sl eJ),(.int .i64 dQ)=>aD.l29 F ck n di cA eJ dQ H
 | _,_,_,_=>none
def aD.lh61 (ck:asH) (ks:ast) (n:Nat) (tm:Tm) (H:Hp):OA:=match ks,tm 1,tm 3,tm 5 with
 | [],(.ptr jV nN),(.sl sJ),(.int .i64 ii)=>aD.l61 F ck n jV nN sJ ii H
 | _,_,_,_=>none
def aD.lh7855 (ck:asH) (ks:ast) (n:Nat) (tm:Tm) (H:Hp):OA:=match ks,tm 1,tm 3,tm 5,tm 10,tm 11,tm 12 with
 | [bQ],(.ptr mN wX),(.sl nM),(.int .i64 ji),(.int .i64 fQ),(.int .i64 fR),(.int .i64 gK)=>aD.l7855 F ck (aD.l61 F ck bQ) n mN wX nM ji fQ fR gK H
 | _,_,_,_,_,_,_=>none
def aD.lh (ck:asH) (p:Nat) (ks:ast) (n:Nat) (tm:Tm) (H:Hp):OA:=bif p.beq 7855 then aD.lh7855 F ck ks n tm H else (bif p.beq 61 then aD.lh61 F ck ks n tm H else (bif p.beq 29 then aD.lh29 F ck ks n tm H else (none)))
def aD.tb:Nat->List (List Nat):=cP [(11,[[],[],[0,1],[0,1,2],[],[],[4,5],[4,5,6],[0,1,2,3],[0,1,2,3,4,5,6,7,8]])]
def aD.cs (F:Nat) (ck:asH):Cs:=[(98,mk7 ck)]
theorem aD.loops (ck:asH):LO (aX (aD.cs F ck)) aH (aD.lh F ck) F Try.f52:=
 (ae.rt (ae.rt (ae.seq (ae.rt (ae.block (ae.la (λn tm H r h=>by change aD.lh29 F ck [] n tm H=_ at h;unfold aD.lh29 at h;split at h;have e:bD tm [(1,_),(3,_),(4,_)]:=⟨‹_›,‹_›,‹_›,trivial⟩;obtain _ | k29:=n;cases h;exact ⟨_,rfl,by rw [<- bH e];exact Eq.trans (by kernel_rfl) h⟩;cases h) λk29=>ae.no))) (ae.lt (ae.rt (ae.block (ae.la (λn tm H r h=>by change aD.lh61 F ck [] n tm H=_ at h;unfold aD.lh61 at h;split at h;have e:bD tm [(1,_),(3,_),(5,_)]:=⟨‹_›,‹_›,‹_›,trivial⟩;obtain _ | k61:=n;cases h;exact ⟨_,rfl,by rw [<- bH e];exact Eq.trans (by kernel_rfl) h⟩;cases h) λk61=>(ae.rt (ae.lt (ae.block (ae.rt (ae.rt (ae.rt (ae.rt (ae.block (ae.la (λn tm H r h=>by change aD.lh7855 F ck [k61] n tm H=_ at h;unfold aD.lh7855 at h;split at h;have e:bD tm [(1,_),(3,_),(5,_),(10,_),(11,_),(12,_)]:=⟨‹_›,‹_›,‹_›,‹_›,‹_›,‹_›,trivial⟩;cases (show [k61]=_ from ‹_›);obtain _ | k7855:=n;cases h;exact ⟨_,rfl,by rw [<- bH e];exact Eq.trans (by kernel_rfl) h⟩;cases h) λk7855=>ae.no))))))))))))))))
theorem aD.eqX (ck:asH) (aa:Sl) (af:Int) (H:Hp):EX (aX (aD.cs F ck)) aH (aD.lh F ck) F Try.f52 [(.agg [(.sl aa),(.int .i64 af)])] H=aD.twX F ck aa af H:=by kernel_rfl
theorem aD.k:Ok Try.prog 52 (mk4 (aD.tw F)):=by
 intro args H v H' h
 unfold mk4 at h
 split at h
 ·exact okT (TB:=aD.tb) Try.func52 (aN (aL.k F) bt) (aD.loops F (aL.tw F)) ((aD.eqX F (aL.tw F) _ _ H).trans h) (by kernel_rfl)
 ·cases h
def bx.j2 (F:Nat) (fl:aso) (C61_:asV) (sL:Int) (agm:Sl) (sM:Int) (H42:Hp):OA:=C61_ sL agm (wrap .i64 (sM+1)) H42
def bx.l61 (F:Nat) (fl:aso) :Nat->Int->Sl->Int->Hp->OA
 | 0,_,_,_,_=>none
 | bQ+1,jj,sO,gL,H16=>(bif (decide (gL<(sO.n:Int))) then ((Sl.idx sO gL 1).bind λp30=>(Hp.ldI H16 .i64 p30.1 p30.2).bind λn31=>(bif (n31==gL) then (bx.j2 F fl (bx.l61 F fl bQ) (wrap .i64 (jj+1)) sO gL H16) else (bx.j2 F fl (bx.l61 F fl bQ) jj sO gL H16))) else (some ((.int .i64 jj),H16)))
def bx.twX (fl:aso) (aa:Sl) (af:Int) (H:Hp):OA:=(Hp.new H [(.sl aa),(.int .i64 af)]).bind λH3=>(Hp.ldSl H3 H.length 0).bind λs4=>(Hp.ldI H3 .i64 H.length (0+1)).bind λn5=>(fl s4 n5 H3).bind λr6=>((r6.1).asSl).bind λs7=>bx.l61 F fl F 0 s7 0 r6.2
def bx.tw:=bx.twX F (aD.tw F)
def bx.lh61 (fl:aso) (ks:ast) (n:Nat) (tm:Tm) (H:Hp):OA:=match ks,tm 3,tm 4,tm 5 with
 | [],(.int .i64 jj),(.sl sO),(.int .i64 gL)=>bx.l61 F fl n jj sO gL H
 | _,_,_,_=>none
def bx.lh (fl:aso) (p:Nat) (ks:ast) (n:Nat) (tm:Tm) (H:Hp):OA:=bif p.beq 61 then bx.lh61 F fl ks n tm H else (none)
def bx.cs (F:Nat) (fl:aso):Cs:=[(52,mk4 fl)]
theorem bx.loops (fl:aso):LO (aX (bx.cs F fl)) aH (bx.lh F fl) F Try.f27:=
 (ae.rt (ae.rt (ae.rt (ae.lt (ae.rt (ae.block (ae.la (λn tm H r h=>by change bx.lh61 F fl [] n tm H=_ at h;unfold bx.lh61 at h;split at h;have e:bD tm [(3,_),(4,_),(5,_)]:=⟨‹_›,‹_›,‹_›,trivial⟩;obtain _ | k61:=n;cases h;exact ⟨_,rfl,by rw [<- bH e];exact Eq.trans (by kernel_rfl) h⟩;cases h) λk61=>ae.no)))))))
theorem bx.eqX (fl:aso) (aa:Sl) (af:Int) (H:Hp):EX (aX (bx.cs F fl)) aH (bx.lh F fl) F Try.f27 [(.agg [(.sl aa),(.int .i64 af)])] H=bx.twX F fl aa af H:=by kernel_rfl
theorem bx.k:Ok Try.prog 27 (mk4 (bx.tw F)):=by
 intro args H v H' h
 unfold mk4 at h
 split at h
 ·exact okT (TB:=aH) Try.func27 (aN (aD.k F) bt) (bx.loops F (aD.tw F)) ((bx.eqX F (aD.tw F) _ _ H).trans h) (by kernel_rfl)
 ·cases h
def dJ.twX (F:Nat) (bZ:asA) (sQ:aso) (sS:aso) (sT:aso) (aa:Sl) (af:Int) (H:Hp):OA:=(Hp.new H [(.sl aa),(.int .i64 af)]).bind λH3=>(Hp.ldSl H3 H.length 0).bind λs4=>(bif (decide ((s4.n:Int)>10)) then (some ((.bool false),H3)) else ((Hp.ldI H3 .i64 H.length 1).bind λn5=>(bZ n5 0 8 H3).bind λr6=>((r6.1).asB).bind λb7=>(bif (!b7) then (some ((.bool false),r6.2)) else ((Hp.ldSl r6.2 H.length 0).bind λs8=>(Hp.ldI r6.2 .i64 H.length (0+1)).bind λn9=>(sQ s8 n9 r6.2).bind λr10=>((r10.1).asB).bind λb11=>(bif (!b11) then (some ((.bool false),r10.2)) else ((Hp.ldSl r10.2 H.length 0).bind λs12=>(Hp.ldI r10.2 .i64 H.length (0+1)).bind λn13=>(sS s12 n13 r10.2).bind λr14=>((r14.1).asSl).bind λs15=>(if aZ r10.2 r14.2 then ((Hp.ldSl r14.2 H.length 0).bind λs16=>(Hp.ldSl r14.2 H.length 0).bind λs17=>(Hp.ldI r14.2 .i64 H.length (0+1)).bind λn18=>(sT s17 n18 r14.2).bind λr19=>((r19.1).asI .i64).bind λn20=>(if aZ r14.2 r19.2 then (some ((.bool ((s15.n:Int)==(wrap .i64 ((s16.n:Int)+(wrap .i64 (2 * n20)))))),r19.2)) else none)) else none)))))))
def dJ.tw:=dJ.twX F (cV.tw F) (bc.tw F) (aP.tw F) (bx.tw F)
def dJ.tb:Nat->List (List Nat):=cP [(3,[[],[0],[0,1],[],[3],[3,4],[],[0,1,6],[0,1,6,7],[0,1,3,4,5,6,7,8],[0,1,2,3,4,5,6,7,8,9],[0,1,2,3,4,5,6,7,8,9,10]])]
def dJ.cs (F:Nat) (bZ:asA) (sQ:aso) (sS:aso) (sT:aso):Cs:=[(39,mk5 bZ),(50,mk4 sQ),(51,mk4 sS),(27,mk4 sT)]
theorem dJ.eqX (bZ:asA) (sQ:aso) (sS:aso) (sT:aso) (aa:Sl) (af:Int) (H:Hp):EX (aX (dJ.cs F bZ sQ sS sT)) aH lh0 F Try.f26 [(.agg [(.sl aa),(.int .i64 af)])] H=dJ.twX F bZ sQ sS sT aa af H:=by kernel_rfl
theorem dJ.k:Ok Try.prog 26 (mk4 (dJ.tw F)):=by
 intro args H v H' h
 unfold mk4 at h
 split at h
 ·exact okT (TB:=dJ.tb) Try.func26 (aN (cV.k F) (aN (bc.k F) (aN (aP.k F) (aN (bx.k F) bt)))) ae.no ((dJ.eqX F (cV.tw F) (bc.tw F) (aP.tw F) (bx.tw F) _ _ H).trans h) (by kernel_rfl)
 ·cases h
def ak.j6 (F:Nat) (AJ:Nat) (agn:Nat) (ago:Sl) (sU:Int) (H211:Hp):OA:=(Hp.ldI H211 .i64 AJ (agn+1)).bind λn212=>some ((.tup [(.sl ago),(.int .i64 (wrap .i64 (sU+n212)))]),H211)
def ak.j7 (F:Nat) (C509_:atm) (AK:Nat) (agp:Nat) (agq:Sl) (agr:Sl) (sV:Int) (sW:Int) (H234:Hp):OA:=C509_ AK agp agq agr sV (wrap .i64 (sW+1)) H234
def ak.l509 (F:Nat) :Nat->Nat->Nat->Sl->Sl->Int->Int->Hp->OA
 | 0,_,_,_,_,_,_,_=>none
 | AL+1,mO,wY,pI,sX,gM,fS,H166=>(bif (decide (fS<(pI.n:Int))) then ((Sl.idx pI fS 1).bind λp213=>(Hp.ldI H166 .i64 p213.1 p213.2).bind λn214=>(bif (n214==fS) then ((Hp.new H166 [(.int .i64 gM)]).bind λH215=>(Sl.row H215 (⟨some (H166.length,0),1,.ex 1⟩:Sl) 1).bind λxs217=>(Hp.app H215 1 8 sX (⟨some (H166.length,0),1,.ex 1⟩:Sl).n xs217).bind λa216=>ak.j7 F (ak.l509 F AL) mO wY pI a216.1 (wrap .i64 (gM+1)) fS a216.2) else ((Sl.idx pI fS 1).bind λp235=>(Hp.ldI H166 .i64 p235.1 p235.2).bind λn236=>(Sl.idx sX n236 1).bind λp237=>(Hp.ldI H166 .i64 p237.1 p237.2).bind λn238=>(Hp.new H166 [(.int .i64 n238)]).bind λH239=>(Sl.row H239 (⟨some (H166.length,0),1,.ex 1⟩:Sl) 1).bind λxs241=>(Hp.app H239 1 8 sX (⟨some (H166.length,0),1,.ex 1⟩:Sl).n xs241).bind λa240=>ak.j7 F (ak.l509 F AL) mO wY pI a240.1 gM fS a240.2))) else (ak.j6 F mO wY sX gM H166))
termination_by structural n=>n
def ak.j8 (AN:Nat) (ags:Nat) (agt:Sl) (H150:Hp):OA:=(Hp.new H150 []).bind λH151=>ak.l509 F F AN ags agt (⟨some (H150.length,0),0,.ex 0⟩:Sl) 0 0 H151
def ak.j10 (F:Nat) (C61_:asO) (AO:Nat) (agu:Nat) (agv:Sl) (sY:Int) (H320:Hp):OA:=C61_ AO agu agv (wrap .i64 (sY+1)) H320
def ak.j11 (C61_:asO) (AP:Nat) (agw:Nat) (agx:Sl) (sZ:Int) (H304:Hp):OA:=ak.j10 F C61_ AP agw agx sZ H304
def ak.j12 (F:Nat) (C1963_:atk) (AQ:Nat) (agy:Nat) (agz:Sl) (s_:Int) (ta:Int) (tc:Int) (td:Int) (H341:Hp):OA:=C1963_ AQ agy agz s_ ta tc (wrap .i64 (td+1)) H341
def ak.l1963 (F:Nat) (C61_:asO):Nat->Nat->Nat->Sl->Int->Int->Int->Int->Hp->OA
 | 0,_,_,_,_,_,_,_,_=>none
 | Ut+1,mP,wZ,nO,jk,fU,fV,gN,H267=>(bif (decide (gN<(nO.n:Int))) then ((Sl.idx nO gN 1).bind λp321=>(Hp.ldI H267 .i64 p321.1 p321.2).bind λn322=>(bif (n322==(if fV>fU then fV else fU)) then ((Sl.idx nO gN 1).bind λp323=>(Hp.st H267 p323.1 p323.2 (.int .i64 (if fV<fU then fV else fU))).bind λH324=>ak.j12 F (ak.l1963 F C61_ Ut) mP wZ nO jk fU fV gN H324) else (ak.j12 F (ak.l1963 F C61_ Ut) mP wZ nO jk fU fV gN H267))) else (ak.j11 F C61_ mP wZ nO jk H267))
termination_by structural n=>n
def ak.l61 (F:Nat) :Nat->Nat->Nat->Sl->Int->Hp->OA
 | 0,_,_,_,_,_=>none
 | bQ+1,kx,fb,te,ij,H38=>(Hp.ldSl H38 kx fb).bind λs242=>(bif (decide (ij<(s242.n:Int))) then ((Hp.ldSl H38 kx fb).bind λs243=>(Sl.idx s243 ij 5).bind λp244=>(Hp.ldI H38 .i64 p244.1 (p244.2+1)).bind λn245=>(Sl.idx te n245 1).bind λp246=>(Hp.ldI H38 .i64 p246.1 p246.2).bind λn247=>(Hp.ldSl H38 kx fb).bind λs248=>(Sl.idx s248 ij 5).bind λp249=>(Hp.ldI H38 .i64 p249.1 (p249.2+3)).bind λn250=>(Sl.idx te n250 1).bind λp251=>(Hp.ldI H38 .i64 p251.1 p251.2).bind λn252=>ak.l1963 F (ak.l61 F bQ) F kx fb te ij n247 n252 0 H38) else (ak.j8 F kx fb te H38))
termination_by structural n=>n
def ak.j13 (sK:Nat) (agA:Nat) (agB:Sl) (H27:Hp):OA:=ak.l61 F F sK agA agB 0 H27
def ak.l29 (F:Nat) :Nat->Nat->Nat->Sl->Int->Hp->OA
 | 0,_,_,_,_,_=>none
 | gG+1,di,cA,dQ,eB,H13=>(Hp.ldSl H13 di cA).bind λs342=>(bif (decide (eB<(wrap .i64 (2 * (s342.n:Int))))) then ((Hp.new H13 [(.int .i64 eB)]).bind λH343=>(Sl.row H343 (⟨some (H13.length,0),1,.ex 1⟩:Sl) 1).bind λxs345=>(Hp.app H343 1 8 dQ (⟨some (H13.length,0),1,.ex 1⟩:Sl).n xs345).bind λa344=>ak.l29 F gG di cA a344.1 (wrap .i64 (eB+1)) a344.2) else (ak.j13 F di cA dQ H13))
termination_by structural n=>n
def ak.twX (aa:Sl) (af:Int) (H:Hp):OA:=(Hp.new H [(.sl aa),(.int .i64 af)]).bind λH3=>(Hp.new H3 []).bind λH4=>ak.l29 F F H.length 0 (⟨some (H3.length,0),0,.ex 0⟩:Sl) 0 H4
def ak.tw:=ak.twX F
def ak.lh29 (ks:ast) (n:Nat) (tm:Tm) (H:Hp):OA:=match ks,tm 1,tm 4,tm 5 with
 | [],(.ptr di cA),(.sl dQ),(.int .i64 eB)=>ak.l29 F n di cA dQ eB H
 | _,_,_,_=>none
def ak.lh61 (ks:ast) (n:Nat) (tm:Tm) (H:Hp):OA:=match ks,tm 1,tm 4,tm 6 with
 | [],(.ptr kx fb),(.sl te),(.int .i64 ij)=>ak.l61 F n kx fb te ij H
 | _,_,_,_=>none
def ak.lh509 (ks:ast) (n:Nat) (tm:Tm) (H:Hp):OA:=match ks,tm 1,tm 4,tm 10,tm 11,tm 12 with
 | [],(.ptr mO wY),(.sl pI),(.sl sX),(.int .i64 gM),(.int .i64 fS)=>ak.l509 F n mO wY pI sX gM fS H
 | _,_,_,_,_,_=>none
def ak.lh1963 (ks:ast) (n:Nat) (tm:Tm) (H:Hp):OA:=match ks,tm 1,tm 4,tm 6,tm 7,tm 8,tm 9 with
 | [bQ],(.ptr mP wZ),(.sl nO),(.int .i64 jk),(.int .i64 fU),(.int .i64 fV),(.int .i64 gN)=>ak.l1963 F (ak.l61 F bQ) n mP wZ nO jk fU fV gN H
 | _,_,_,_,_,_,_=>none
def ak.lh (p:Nat) (ks:ast) (n:Nat) (tm:Tm) (H:Hp):OA:=bif p.beq 1963 then ak.lh1963 F ks n tm H else (bif p.beq 509 then ak.lh509 F ks n tm H else (bif p.beq 61 then ak.lh61 F ks n tm H else (bif p.beq 29 then ak.lh29 F ks n tm H else (none))))
def ak.tb:Nat->List (List Nat):=cP [(9,[[],[],[1],[],[1,2,3],[1,2,3,4],[1,2,3,4,5],[0,1,2,3,4,5,6],[0,1,2,3,4,5,6,7],[],[],[10],[],[10,11,12],[10,11,12,13],[10,11,12,13,14],[9,10,11,12,13,14,15],[9,10,11,12,13,14,15,16],[0,1,2,3,4,5,6,7,8],[0,1,2,3,4,5,6,7,8,9,10,11,12,13,14,15,16,17,18]]),(24,[[],[],[],[2],[1,2,3],[0],[0,1,2,3,4,5]])]
theorem ak.loops:LO (aX []) aH (ak.lh F) F Try.f77:=
 (ae.rt (ae.rt (ae.seq (ae.rt (ae.block (ae.la (λn tm H r h=>by change ak.lh29 F [] n tm H=_ at h;unfold ak.lh29 at h;split at h;have e:bD tm [(1,_),(4,_),(5,_)]:=⟨‹_›,‹_›,‹_›,trivial⟩;obtain _ | k29:=n;cases h;exact ⟨_,rfl,by rw [<- bH e];exact Eq.trans (by kernel_rfl) h⟩;cases h) λk29=>ae.no))) (ae.seq (ae.rt (ae.block (ae.la (λn tm H r h=>by change ak.lh61 F [] n tm H=_ at h;unfold ak.lh61 at h;split at h;have e:bD tm [(1,_),(4,_),(6,_)]:=⟨‹_›,‹_›,‹_›,trivial⟩;obtain _ | k61:=n;cases h;exact ⟨_,rfl,by rw [<- bH e];exact Eq.trans (by kernel_rfl) h⟩;cases h) λk61=>(ae.rt (ae.lt (ae.block (ae.rt (ae.rt (ae.block (ae.la (λn tm H r h=>by change ak.lh1963 F [k61] n tm H=_ at h;unfold ak.lh1963 at h;split at h;have e:bD tm [(1,_),(4,_),(6,_),(7,_),(8,_),(9,_)]:=⟨‹_›,‹_›,‹_›,‹_›,‹_›,‹_›,trivial⟩;cases (show [k61]=_ from ‹_›);obtain _ | k1963:=n;cases h;exact ⟨_,rfl,by rw [<- bH e];exact Eq.trans (by kernel_rfl) h⟩;cases h) λk1963=>ae.no)))))))))) (ae.rt (ae.rt (ae.lt (ae.rt (ae.block (ae.la (λn tm H r h=>by change ak.lh509 F [] n tm H=_ at h;unfold ak.lh509 at h;split at h;have e:bD tm [(1,_),(4,_),(10,_),(11,_),(12,_)]:=⟨‹_›,‹_›,‹_›,‹_›,‹_›,trivial⟩;obtain _ | k509:=n;cases h;exact ⟨_,rfl,by rw [<- bH e];exact Eq.trans (by kernel_rfl) h⟩;cases h) λk509=>ae.no))))))))))
theorem ak.k:Ok Try.prog 77 (mk4 (ak.tw F)):=by
 intro args H v H' h
 unfold mk4 at h
 split at h
 ·exact okT (PN:=aH) (LH:=(ak.lh F)) (F:=F) (TB:=ak.tb) Try.func77 bt (ak.loops F) (Eq.trans (by kernel_rfl) h) (by kernel_rfl)
 ·cases h
def bi.j2 (F:Nat) (bO:aso) (C61_:asR) (fE:Nat) (Hb:Nat) (Hc:Sl) (Hd:Sl) (gO:Int) (H113:Hp):OA:=C61_ fE Hb Hc Hd (wrap .i64 (gO+1)) H113
def bi.l61 (F:Nat) (bO:aso) :Nat->Nat->Nat->Sl->Sl->Int->Hp->OA
 | 0,_,_,_,_,_,_=>none
 | bQ+1,lY,tf,jW,pJ,ik,H21=>(Hp.ldSl H21 lY tf).bind λs70=>(bif (decide (ik<(s70.n:Int))) then ((Hp.ldSl H21 lY tf).bind λs71=>(Sl.idx s71 ik 5).bind λp72=>(Hp.ldI H21 .i64 p72.1 p72.2).bind λn73=>(Hp.ldI H21 .i64 p72.1 (p72.2+1)).bind λn74=>(Hp.ldI H21 .i64 p72.1 (p72.2+2)).bind λn75=>(Hp.ldI H21 .i64 p72.1 (p72.2+3)).bind λn76=>(Hp.ldI H21 .i64 p72.1 (p72.2+4)).bind λn77=>(Hp.new H21 [.int .i64 0,.int .i64 0,.int .i64 0,.int .i64 0,.int .i64 0]).bind λH78=>(Hp.st H78 H21.length 0 (.int .i64 n73)).bind λH79=>(Hp.st H79 H21.length (0+1) (.int .i64 n74)).bind λH80=>(Hp.st H80 H21.length (0+1+1) (.int .i64 n75)).bind λH81=>(Hp.st H81 H21.length (0+1+1+1) (.int .i64 n76)).bind λH82=>(Hp.st H82 H21.length (0+1+1+1+1) (.int .i64 n77)).bind λH83=>(Hp.ldI H83 .i64 H21.length 0).bind λn84=>(Sl.idx pJ n84 1).bind λp85=>(Hp.ldI H83 .i64 p85.1 p85.2).bind λn86=>(Hp.ldI H83 .i64 H21.length 2).bind λn87=>(Sl.idx pJ n87 1).bind λp88=>(Hp.ldI H83 .i64 p88.1 p88.2).bind λn89=>(Hp.ldI H83 .i64 H21.length 1).bind λn90=>(Sl.idx pJ n90 1).bind λp91=>(Hp.ldI H83 .i64 p91.1 p91.2).bind λn92=>(Hp.ldI H83 .i64 H21.length 4).bind λn93=>(bif (n93==1) then ((Hp.new H83 [(.int .i64 (wrap .i64 (n89+1))),(.int .i64 (wrap .i64 (n92+1))),(.int .i64 (wrap .i64 (0 - (wrap .i64 (n86+1))))),(.int .i64 (wrap .i64 (0 - (wrap .i64 (n92+1)))))]).bind λH94=>(Hp.new H94 [(.sl (⟨some (H83.length,0),4,.ex 4⟩:Sl))]).bind λH95=>(Sl.row H95 (⟨some (H94.length,0),1,.ex 1⟩:Sl) 1).bind λxs97=>(Hp.app H95 1 24 jW (⟨some (H94.length,0),1,.ex 1⟩:Sl).n xs97).bind λa96=>bi.j2 F bO (bi.l61 F bO bQ) lY tf a96.1 pJ ik a96.2) else ((Hp.new H83 [(.int .i64 (wrap .i64 (n89+1))),(.int .i64 (wrap .i64 (0 - (wrap .i64 (n92+1))))),(.int .i64 (wrap .i64 (0 - (wrap .i64 (n86+1))))),(.int .i64 (wrap .i64 (n92+1)))]).bind λH114=>(Hp.new H114 [(.sl (⟨some (H83.length,0),4,.ex 4⟩:Sl))]).bind λH115=>(Sl.row H115 (⟨some (H114.length,0),1,.ex 1⟩:Sl) 1).bind λxs117=>(Hp.app H115 1 24 jW (⟨some (H114.length,0),1,.ex 1⟩:Sl).n xs117).bind λa116=>bi.j2 F bO (bi.l61 F bO bQ) lY tf a116.1 pJ ik a116.2))) else (some ((.sl jW),H21)))
termination_by structural n=>n
def bi.twX (bO:aso) (aa:Sl) (af:Int) (H:Hp):OA:=(Hp.new H [(.sl aa),(.int .i64 af)]).bind λH3=>(Hp.new H3 []).bind λH4=>(Hp.ldSl H4 H.length 0).bind λs5=>(Hp.ldI H4 .i64 H.length (0+1)).bind λn6=>(bO s5 n6 H4).bind λr7=>((r7.1).asTup 2).bind λl8=>(l8[0]?).bind λv9=>((v9).asSl).bind λs10=>(l8[1]?).bind λv11=>((v11).asI .i64).bind λn12=>bi.l61 F bO F H.length 0 (⟨some (H3.length,0),0,.ex 0⟩:Sl) s10 0 r7.2
def bi.tw:=bi.twX F (ak.tw F)
def bi.lh61 (bO:aso) (ks:ast) (n:Nat) (tm:Tm) (H:Hp):OA:=match ks,tm 1,tm 3,tm 4,tm 6 with
 | [],(.ptr lY tf),(.sl jW),(.sl pJ),(.int .i64 ik)=>bi.l61 F bO n lY tf jW pJ ik H
 | _,_,_,_,_=>none
def bi.lh (bO:aso) (p:Nat) (ks:ast) (n:Nat) (tm:Tm) (H:Hp):OA:=bif p.beq 61 then bi.lh61 F bO ks n tm H else (none)
def bi.tb:Nat->List (List Nat):=cP [(7,[[],[],[1],[0,1,2],[0,1,2,3],[0,1,2,3,4],[],[],[7],[6,7,8],[6,7,8,9],[6,7,8,9,10],[],[],[13],[12,13,14],[12,13,14,15],[12,13,14,15,16],[0,1,2,3,4,5],[0,1,2,3,4,5,6,7,8,9,10,11,18],[0,1,2,3,4,5,6,7,8,9,10,11,12,13,14,15,16,17,18,19]])]
def bi.cs (F:Nat) (bO:aso):Cs:=[(77,mk4 bO)]
theorem bi.loops (bO:aso):LO (aX (bi.cs F bO)) aH (bi.lh F bO) F Try.f122:=
 (ae.rt (ae.rt (ae.rt (ae.lt (ae.rt (ae.block (ae.la (λn tm H r h=>by change bi.lh61 F bO [] n tm H=_ at h;unfold bi.lh61 at h;split at h;have e:bD tm [(1,_),(3,_),(4,_),(6,_)]:=⟨‹_›,‹_›,‹_›,‹_›,trivial⟩;obtain _ | k61:=n;cases h;exact ⟨_,rfl,by rw [<- bH e];exact Eq.trans (by kernel_rfl) h⟩;cases h) λk61=>ae.no)))))))
theorem bi.eqX (bO:aso) (aa:Sl) (af:Int) (H:Hp):EX (aX (bi.cs F bO)) aH (bi.lh F bO) F Try.f122 [(.agg [(.sl aa),(.int .i64 af)])] H=bi.twX F bO aa af H:=by kernel_rfl
theorem bi.k:Ok Try.prog 122 (mk4 (bi.tw F)):=by
 intro args H v H' h
 unfold mk4 at h
 split at h
 ·exact okT (TB:=bi.tb) Try.func122 (aN (ak.k F) bt) (bi.loops F (ak.tw F)) ((bi.eqX F (ak.tw F) _ _ H).trans h) (by kernel_rfl)
 ·cases h
def aS.j1 (F:Nat) (tg:Int) (agC:Sl) (ky:Nat) (nP:Nat) (lZ:Int) (nQ:Int) (H39:Hp):OA:=(bif (lZ==nQ) then ((Hp.st H39 ky nP (.int .i64 0)).bind λH40=>(Hp.st H40 ky (nP+1) (.sl (⟨none,0,.ex 0⟩:Sl))).bind λH41=>(Hp.ldI H41 .i64 ky nP).bind λn42=>(Hp.ldSl H41 ky (nP+1)).bind λs43=>some ((.agg [(.int .i64 n42),(.sl s43)]),H41)) else ((Hp.new H39 []).bind λH44=>(Sl.cut agC 1 lZ nQ).bind λs45=>(Sl.row H44 s45 1).bind λxs47=>(Hp.app H44 1 8 (⟨some (H39.length,0),0,.ex 0⟩:Sl) s45.n xs47).bind λa46=>(Hp.st a46.2 ky nP (.int .i64 (wrap .i64 (tg+lZ)))).bind λH48=>(Hp.st H48 ky (nP+1) (.sl a46.1)).bind λH49=>(Hp.ldI H49 .i64 ky nP).bind λn50=>(Hp.ldSl H49 ky (nP+1)).bind λs51=>some ((.agg [(.int .i64 n50),(.sl s51)]),H49)))
def aS.l30 (F:Nat) :Nat->Int->Sl->Nat->Nat->Int->Int->Hp->OA
 | 0,_,_,_,_,_,_,_=>none
 | agD+1,jl,th,mQ,fW,fv,gP,H28=>(bif (decide (fv<gP)) then ((Sl.idx th (wrap .i64 (gP - 1)) 1).bind λp52=>(Hp.ldI H28 .i64 p52.1 p52.2).bind λn53=>(bif (n53==0) then (aS.l30 F agD jl th mQ fW fv (wrap .i64 (gP - 1)) H28) else (aS.j1 F jl th mQ fW fv gP H28))) else (aS.j1 F jl th mQ fW fv gP H28))
termination_by structural n=>n
def aS.j2 (ti:Int) (agE:Sl) (AR:Nat) (agF:Nat) (tj:Int) (tl:Int) (H20:Hp):OA:=aS.l30 F F ti agE AR agF tj tl H20
def aS.l14 (F:Nat) :Nat->Int->Sl->Nat->Nat->Int->Int->Hp->OA
 | 0,_,_,_,_,_,_,_=>none
 | Hf+1,jm,tn,eH,fX,gQ,il,H10=>(bif (decide (gQ<il)) then ((Sl.idx tn gQ 1).bind λp54=>(Hp.ldI H10 .i64 p54.1 p54.2).bind λn55=>(bif (n55==0) then (aS.l14 F Hf jm tn eH fX (wrap .i64 (gQ+1)) il H10) else (aS.j2 F jm tn eH fX gQ il H10))) else (aS.j2 F jm tn eH fX gQ il H10))
termination_by structural n=>n
def aS.twX (aa:Int) (au:Sl) (H:Hp):OA:=(Hp.new H [.int .i64 0,.sl ⟨none,0,.ex 0⟩]).bind λH3=>aS.l14 F F aa au H.length 0 0 (au.n:Int) H3
def aS.tw:=aS.twX F
def aS.lh14 (ks:ast) (n:Nat) (tm:Tm) (H:Hp):OA:=match ks,tm 0,tm 1,tm 4,tm 5,tm 6 with
 | [],(.int .i64 jm),(.sl tn),(.ptr eH fX),(.int .i64 gQ),(.int .i64 il)=>aS.l14 F n jm tn eH fX gQ il H
 | _,_,_,_,_,_=>none
def aS.lh30 (ks:ast) (n:Nat) (tm:Tm) (H:Hp):OA:=match ks,tm 0,tm 1,tm 4,tm 5,tm 6 with
 | [],(.int .i64 jl),(.sl th),(.ptr mQ fW),(.int .i64 fv),(.int .i64 gP)=>aS.l30 F n jl th mQ fW fv gP H
 | _,_,_,_,_,_=>none
def aS.lh (p:Nat) (ks:ast) (n:Nat) (tm:Tm) (H:Hp):OA:=bif p.beq 30 then aS.lh30 F ks n tm H else (bif p.beq 14 then aS.lh14 F ks n tm H else (none))
def mk8 (g:ass) (args:asD) (H:Hp):OA:=match args with
 | [(.int .i64 aa),(.sl au)]=>g aa au H
 | _=>none
theorem mk8_E (g:ass) (aa:Int) (au:Sl) (H:Hp):mk8 g [(.int .i64 aa),(.sl au)] H=g aa au H:=rfl
theorem aS.loops:LO (aX []) aH (aS.lh F) F Try.f142:=
 (ae.rt (ae.rt (ae.seq (ae.block (ae.la (λn tm H r h=>by change aS.lh14 F [] n tm H=_ at h;unfold aS.lh14 at h;split at h;have e:bD tm [(0,_),(1,_),(4,_),(5,_),(6,_)]:=⟨‹_›,‹_›,‹_›,‹_›,‹_›,trivial⟩;obtain _ | k14:=n;cases h;exact ⟨_,rfl,by rw [<- bH e];exact Eq.trans (by kernel_rfl) h⟩;cases h) λk14=>ae.no)) (ae.lt (ae.block (ae.la (λn tm H r h=>by change aS.lh30 F [] n tm H=_ at h;unfold aS.lh30 at h;split at h;have e:bD tm [(0,_),(1,_),(4,_),(5,_),(6,_)]:=⟨‹_›,‹_›,‹_›,‹_›,‹_›,trivial⟩;obtain _ | k30:=n;cases h;exact ⟨_,rfl,by rw [<- bH e];exact Eq.trans (by kernel_rfl) h⟩;cases h) λk30=>ae.no))))))
theorem aS.k:Ok Try.prog 142 (mk8 (aS.tw F)):=by
 intro args H v H' h
 unfold mk8 at h
 split at h
 ·exact okT (PN:=aH) (LH:=(aS.lh F)) (F:=F) (TB:=aH) Try.func142 bt (aS.loops F) (Eq.trans (by kernel_rfl) h) (by kernel_rfl)
 ·cases h
def aJ.j1 (F:Nat) (bI:ass) (pK:Nat) (AS:Nat) (jn:Int) (nR:Sl) (H132:Hp):OA:=(bI jn nR H132).bind λr133=>((r133.1).asAgg 2).bind λl134=>(l134[0]?).bind λv135=>((v135).asI .i64).bind λn136=>(l134[1]?).bind λv137=>((v137).asSl).bind λs138=>(Hp.st r133.2 pK AS (.int .i64 n136)).bind λH139=>(Hp.st H139 pK (AS+1) (.sl s138)).bind λH140=>(Hp.ldI H140 .i64 pK AS).bind λn141=>(Hp.ldSl H140 pK (AS+1)).bind λs142=>some ((.agg [(.int .i64 n141),(.sl s142)]),H140)
def aJ.l1021 (F:Nat) (bI:ass) :Nat->Nat->Nat->Nat->Nat->Int->Sl->Int->Hp->OA
 | 0,_,_,_,_,_,_,_,_=>none
 | agG+1,l_,tp,nS,AT,im,tq,dd,H103=>(Hp.ldSl H103 l_ (tp+1)).bind λs143=>(bif (decide (dd<(s143.n:Int))) then ((Hp.ldI H103 .i64 l_ tp).bind λn144=>(Sl.idx tq (wrap .i64 ((wrap .i64 (n144 - im))+dd)) 1).bind λp145=>(Hp.ldI H103 .i64 p145.1 p145.2).bind λn146=>(Hp.ldSl H103 l_ (tp+1)).bind λs147=>(Sl.idx s147 dd 1).bind λp148=>(Hp.ldI H103 .i64 p148.1 p148.2).bind λn149=>(Sl.idx tq (wrap .i64 ((wrap .i64 (n144 - im))+dd)) 1).bind λp150=>(Hp.st H103 p150.1 p150.2 (.int .i64 (wrap .i64 (n146+n149)))).bind λH151=>aJ.l1021 F bI agG l_ tp nS AT im tq (wrap .i64 (dd+1)) H151) else (aJ.j1 F bI nS AT im tq H103))
termination_by structural n=>n
def aJ.j2 (bI:ass) (AU:Nat) (agH:Nat) (AW:Nat) (agI:Nat) (tt:Int) (agJ:Sl) (H84:Hp):OA:=aJ.l1021 F bI F AU agH AW agI tt agJ 0 H84
def aJ.l509 (F:Nat) (bI:ass) :Nat->Nat->Nat->Nat->Nat->Nat->Nat->Int->Sl->Int->Hp->OA
 | 0,_,_,_,_,_,_,_,_,_,_=>none
 | AL+1,ma,tu,nT,AY,nU,AZ,ip,tv,gR,H57=>(Hp.ldSl H57 ma (tu+1)).bind λs152=>(bif (decide (gR<(s152.n:Int))) then ((Hp.ldI H57 .i64 ma tu).bind λn153=>(Sl.idx tv (wrap .i64 ((wrap .i64 (n153 - ip))+gR)) 1).bind λp154=>(Hp.ldI H57 .i64 p154.1 p154.2).bind λn155=>(Hp.ldSl H57 ma (tu+1)).bind λs156=>(Sl.idx s156 gR 1).bind λp157=>(Hp.ldI H57 .i64 p157.1 p157.2).bind λn158=>(Sl.idx tv (wrap .i64 ((wrap .i64 (n153 - ip))+gR)) 1).bind λp159=>(Hp.st H57 p159.1 p159.2 (.int .i64 (wrap .i64 (n155+n158)))).bind λH160=>aJ.l509 F bI AL ma tu nT AY nU AZ ip tv (wrap .i64 (gR+1)) H160) else (aJ.j2 F bI nT AY nU AZ ip tv H57))
termination_by structural n=>n
def aJ.twX (bI:ass) (aa:Int) (af:Sl) (ar:Int) (bj:Sl) (H:Hp):OA:=(Hp.new H [(.int .i64 aa),(.sl af)]).bind λH5=>(Hp.new H5 [(.int .i64 ar),(.sl bj)]).bind λH6=>(Hp.new H6 [.int .i64 0,.sl ⟨none,0,.ex 0⟩]).bind λH7=>(Hp.ldSl H7 H.length 1).bind λs8=>(bif ((s8.n:Int)==0) then ((Hp.ldI H7 .i64 H5.length 0).bind λn9=>(Hp.ldSl H7 H5.length 1).bind λs10=>(bI n9 s10 H7).bind λr11=>((r11.1).asAgg 2).bind λl12=>(l12[0]?).bind λv13=>((v13).asI .i64).bind λn14=>(l12[1]?).bind λv15=>((v15).asSl).bind λs16=>(Hp.st r11.2 H6.length 0 (.int .i64 n14)).bind λH17=>(Hp.st H17 H6.length (0+1) (.sl s16)).bind λH18=>(Hp.ldI H18 .i64 H6.length 0).bind λn19=>(Hp.ldSl H18 H6.length (0+1)).bind λs20=>some ((.agg [(.int .i64 n19),(.sl s20)]),H18)) else ((Hp.ldSl H7 H5.length 1).bind λs21=>(bif ((s21.n:Int)==0) then ((Hp.ldI H7 .i64 H.length 0).bind λn22=>(Hp.ldSl H7 H.length 1).bind λs23=>(bI n22 s23 H7).bind λr24=>((r24.1).asAgg 2).bind λl25=>(l25[0]?).bind λv26=>((v26).asI .i64).bind λn27=>(l25[1]?).bind λv28=>((v28).asSl).bind λs29=>(Hp.st r24.2 H6.length 0 (.int .i64 n27)).bind λH30=>(Hp.st H30 H6.length (0+1) (.sl s29)).bind λH31=>(Hp.ldI H31 .i64 H6.length 0).bind λn32=>(Hp.ldSl H31 H6.length (0+1)).bind λs33=>some ((.agg [(.int .i64 n32),(.sl s33)]),H31)) else ((Hp.ldI H7 .i64 H.length 0).bind λn34=>(Hp.ldI H7 .i64 H5.length 0).bind λn35=>(Hp.ldI H7 .i64 H.length 0).bind λn36=>(Hp.ldSl H7 H.length 1).bind λs37=>(Hp.ldI H7 .i64 H5.length 0).bind λn38=>(Hp.ldSl H7 H5.length 1).bind λs39=>(Hp.mk H7 [.int .i64 0] 8 (wrap .i64 ((if (wrap .i64 (n38+(s39.n:Int)))>(wrap .i64 (n36+(s37.n:Int))) then (wrap .i64 (n38+(s39.n:Int))) else (wrap .i64 (n36+(s37.n:Int)))) - (if n35<n34 then n35 else n34))) (wrap .i64 ((if (wrap .i64 (n38+(s39.n:Int)))>(wrap .i64 (n36+(s37.n:Int))) then (wrap .i64 (n38+(s39.n:Int))) else (wrap .i64 (n36+(s37.n:Int)))) - (if n35<n34 then n35 else n34)))).bind λm40=>aJ.l509 F bI F H.length 0 H5.length 0 H6.length 0 (if n35<n34 then n35 else n34) m40.1 0 m40.2))))
def aJ.tw:=aJ.twX F (aS.tw F)
def aJ.lh509 (bI:ass) (ks:ast) (n:Nat) (tm:Tm) (H:Hp):OA:=match ks,tm 2,tm 3,tm 4,tm 5,tm 7,tm 8 with
 | [],(.ptr ma tu),(.ptr nT AY),(.ptr nU AZ),(.int .i64 ip),(.sl tv),(.int .i64 gR)=>aJ.l509 F bI n ma tu nT AY nU AZ ip tv gR H
 | _,_,_,_,_,_,_=>none
def aJ.lh1021 (bI:ass) (ks:ast) (n:Nat) (tm:Tm) (H:Hp):OA:=match ks,tm 3,tm 4,tm 5,tm 7,tm 9 with
 | [],(.ptr l_ tp),(.ptr nS AT),(.int .i64 im),(.sl tq),(.int .i64 dd)=>aJ.l1021 F bI n l_ tp nS AT im tq dd H
 | _,_,_,_,_,_=>none
def aJ.lh (bI:ass) (p:Nat) (ks:ast) (n:Nat) (tm:Tm) (H:Hp):OA:=bif p.beq 1021 then aJ.lh1021 F bI ks n tm H else (bif p.beq 509 then aJ.lh509 F bI ks n tm H else (none))
def aJ.pn:Nat->List Nat:=cP [(11,[16]),(15,[16])]
def aJ.tb:Nat->List (List Nat):=cP [(11,[[],[],[1],[],[1,2,3],[],[1,2,3,4,5],[0,1,2,3,4,5,6],[0,1,2,3,4,5,6,7],[],[9],[],[9,10,11],[9,10,11,12],[0,1,2,3,4,5,6,7,8,9,10,11,12,13],[0,1,2,3,4,5,6,7,8,9,10,11,12,13,14],[0,1,2,3,4,5,6,7,8,9,10,11,12,13,14,15]]),(15,[[],[],[1],[],[1,2,3],[],[1,2,3,4,5],[0,1,2,3,4,5,6],[0,1,2,3,4,5,6,7],[],[9],[],[9,10,11],[9,10,11,12],[0,1,2,3,4,5,6,7,8,9,10,11,12,13],[0,1,2,3,4,5,6,7,8,9,10,11,12,13,14],[0,1,2,3,4,5,6,7,8,9,10,11,12,13,14,15]])]
def mk9 (g:asu) (args:asD) (H:Hp):OA:=match args with
 | [(.agg [(.int .i64 aa),(.sl af)]),(.agg [(.int .i64 ar),(.sl bj)])]=>g aa af ar bj H
 | _=>none
theorem mk9_E (g:asu) (aa:Int) (af:Sl) (ar:Int) (bj:Sl) (H:Hp):mk9 g [(.agg [(.int .i64 aa),(.sl af)]),(.agg [(.int .i64 ar),(.sl bj)])] H=g aa af ar bj H:=rfl
def aJ.cs (F:Nat) (bI:ass):Cs:=[(142,mk8 bI)]
theorem aJ.loops (bI:ass):LO (aX (aJ.cs F bI)) aJ.pn (aJ.lh F bI) F Try.f121:=
 (ae.rt (ae.rt (ae.rt (ae.rt (ae.rt (ae.rt (ae.seq (ae.rt (ae.block (ae.la (λn tm H r h=>by change aJ.lh509 F bI [] n tm H=_ at h;unfold aJ.lh509 at h;split at h;have e:bD tm [(2,_),(3,_),(4,_),(5,_),(7,_),(8,_)]:=⟨‹_›,‹_›,‹_›,‹_›,‹_›,‹_›,trivial⟩;obtain _ | k509:=n;cases h;exact ⟨_,rfl,by rw [<- bH e];exact Eq.trans (by kernel_rfl) h⟩;cases h) λk509=>ae.no))) (ae.lt (ae.rt (ae.block (ae.la (λn tm H r h=>by change aJ.lh1021 F bI [] n tm H=_ at h;unfold aJ.lh1021 at h;split at h;have e:bD tm [(3,_),(4,_),(5,_),(7,_),(9,_)]:=⟨‹_›,‹_›,‹_›,‹_›,‹_›,trivial⟩;obtain _ | k1021:=n;cases h;exact ⟨_,rfl,by rw [<- bH e];exact Eq.trans (by kernel_rfl) h⟩;cases h) λk1021=>ae.no)))))))))))
theorem aJ.eqX (bI:ass) (aa:Int) (af:Sl) (ar:Int) (bj:Sl) (H:Hp):EX (aX (aJ.cs F bI)) aJ.pn (aJ.lh F bI) F Try.f121 [(.agg [(.int .i64 aa),(.sl af)]),(.agg [(.int .i64 ar),(.sl bj)])] H=aJ.twX F bI aa af ar bj H:=by kernel_rfl
theorem aJ.k:Ok Try.prog 121 (mk9 (aJ.tw F)):=by
 intro args H v H' h
 unfold mk9 at h
 split at h
 ·exact okT (TB:=aJ.tb) Try.func121 (aN (aS.k F) bt) (aJ.loops F (aS.tw F)) ((aJ.eqX F (aS.tw F) _ _ _ _ H).trans h) (by kernel_rfl)
 ·cases h
def aU.j4 (F:Nat) (bm:asu) (C61_:as8) (agK:Sl) (tz:Int) (A_:Nat) (He:Nat) (kv:Nat) (nV:Nat) (nW:Int) (jo:Int) (H149:Hp):OA:=C61_ agK tz A_ He kv nV nW (wrap .i64 (jo+1)) H149
def aU.j5 (bm:asu) (C61_:as8) (Hg:Sl) (ia:Int) (w_:Nat) (Uu:Nat) (xa:Nat) (Uv:Nat) (nX:Int) (mb:Int) (H134:Hp):OA:=(Sl.idx Hg mb 1).bind λp135=>(Hp.ldI H134 .i64 p135.1 p135.2).bind λn136=>(bif (decide (n136>0)) then (aU.j4 F bm C61_ Hg ia w_ Uu xa Uv (wrap .i64 (nX+1)) mb H134) else (aU.j4 F bm C61_ Hg ia w_ Uu xa Uv (wrap .i64 (nX - 1)) mb H134))
def aU.j6 (bm:asu) (C61_:as8) (Hh:Sl) (fE:Int) (xb:Nat) (Uw:Nat) (mR:Nat) (tB:Nat) (gO:Int) (mc:Int) (H109:Hp):OA:=(Sl.idx Hh mc 1).bind λp110=>(Hp.ldI H109 .i64 p110.1 p110.2).bind λn111=>(bif (n111==(wrap .i64 (0 - fE))) then ((Hp.ldI H109 .i64 mR tB).bind λn112=>(Hp.ldSl H109 mR (tB+1)).bind λs113=>(Hp.new H109 [(.int .i64 (-1))]).bind λH114=>(bm n112 s113 (wrap .i64 (gO - 1)) (⟨some (H109.length,0),1,.ex 1⟩:Sl) H114).bind λr115=>((r115.1).asAgg 2).bind λl116=>(l116[0]?).bind λv117=>((v117).asI .i64).bind λn118=>(l116[1]?).bind λv119=>((v119).asSl).bind λs120=>(Hp.st r115.2 mR tB (.int .i64 n118)).bind λH121=>(Hp.st H121 mR (tB+1) (.sl s120)).bind λH122=>aU.j5 F bm C61_ Hh fE xb Uw mR tB gO mc H122) else (aU.j5 F bm C61_ Hh fE xb Uw mR tB gO mc H109))
def aU.l61 (F:Nat) (bm:asu) :Nat->Sl->Int->Nat->Nat->Nat->Nat->Int->Int->Hp->OA
 | 0,_,_,_,_,_,_,_,_,_=>none
 | bQ+1,tC,cA,jX,nY,jb,eB,jp,iq,H15=>(bif (decide (iq<(tC.n:Int))) then ((Sl.idx tC iq 1).bind λp86=>(Hp.ldI H15 .i64 p86.1 p86.2).bind λn87=>(bif (n87==cA) then ((Hp.ldI H15 .i64 jb eB).bind λn88=>(Hp.ldSl H15 jb (eB+1)).bind λs89=>(Hp.new H15 [(.int .i64 1)]).bind λH90=>(bm n88 s89 jp (⟨some (H15.length,0),1,.ex 1⟩:Sl) H90).bind λr91=>((r91.1).asAgg 2).bind λl92=>(l92[0]?).bind λv93=>((v93).asI .i64).bind λn94=>(l92[1]?).bind λv95=>((v95).asSl).bind λs96=>(Hp.st r91.2 jb eB (.int .i64 n94)).bind λH97=>(Hp.st H97 jb (eB+1) (.sl s96)).bind λH98=>aU.j6 F bm (aU.l61 F bm bQ) tC cA jX nY jb eB jp iq H98) else (aU.j6 F bm (aU.l61 F bm bQ) tC cA jX nY jb eB jp iq H15))) else ((Hp.ldI H15 .i64 jb eB).bind λn150=>(Hp.ldSl H15 jb (eB+1)).bind λs151=>(Hp.st H15 jX nY (.int .i64 n150)).bind λH152=>(Hp.st H152 jX (nY+1) (.sl s151)).bind λH153=>(Hp.ldI H153 .i64 jX nY).bind λn154=>(Hp.ldSl H153 jX (nY+1)).bind λs155=>some ((.agg [(.int .i64 n154),(.sl s155)]),H153)))
termination_by structural n=>n
def aU.twX (bm:asu) (aa:Sl) (au:Int) (H:Hp):OA:=(Hp.new H [.int .i64 0,.sl ⟨none,0,.ex 0⟩]).bind λH3=>(Hp.new H3 [.int .i64 0,.sl ⟨none,0,.ex 0⟩]).bind λH4=>(Hp.st H4 H3.length 0 (.int .i64 0)).bind λH5=>(Hp.st H5 H3.length (0+1) (.sl (⟨none,0,.ex 0⟩:Sl))).bind λH6=>aU.l61 F bm F aa au H.length 0 H3.length 0 0 0 H6
def aU.tw:=aU.twX F (aJ.tw F)
def aU.lh61 (bm:asu) (ks:ast) (n:Nat) (tm:Tm) (H:Hp):OA:=match ks,tm 0,tm 1,tm 4,tm 5,tm 6,tm 7 with
 | [],(.sl tC),(.int .i64 cA),(.ptr jX nY),(.ptr jb eB),(.int .i64 jp),(.int .i64 iq)=>aU.l61 F bm n tC cA jX nY jb eB jp iq H
 | _,_,_,_,_,_,_=>none
def aU.lh (bm:asu) (p:Nat) (ks:ast) (n:Nat) (tm:Tm) (H:Hp):OA:=bif p.beq 61 then aU.lh61 F bm ks n tm H else (none)
def aU.cs (F:Nat) (bm:asu):Cs:=[(121,mk9 bm)]
theorem aU.loops (bm:asu):LO (aX (aU.cs F bm)) aH (aU.lh F bm) F Try.f123:=
 (ae.rt (ae.rt (ae.rt (ae.lt (ae.rt (ae.block (ae.la (λn tm H r h=>by change aU.lh61 F bm [] n tm H=_ at h;unfold aU.lh61 at h;split at h;have e:bD tm [(0,_),(1,_),(4,_),(5,_),(6,_),(7,_)]:=⟨‹_›,‹_›,‹_›,‹_›,‹_›,‹_›,trivial⟩;obtain _ | k61:=n;cases h;exact ⟨_,rfl,by rw [<- bH e];exact Eq.trans (by kernel_rfl) h⟩;cases h) λk61=>ae.no)))))))
theorem aU.eqX (bm:asu) (aa:Sl) (au:Int) (H:Hp):EX (aX (aU.cs F bm)) aH (aU.lh F bm) F Try.f123 [(.sl aa),(.int .i64 au)] H=aU.twX F bm aa au H:=by kernel_rfl
theorem aU.k:Ok Try.prog 123 (mk0 (aU.tw F)):=by
 intro args H v H' h
 unfold mk0 at h
 split at h
 ·exact okT (TB:=aH) Try.func123 (aN (aJ.k F) bt) (aU.loops F (aJ.tw F)) ((aU.eqX F (aJ.tw F) _ _ H).trans h) (by kernel_rfl)
 ·cases h
def a_.j3 (F:Nat) (bO:aso) (dK:aso) (dL:aso) (C125_:asT) (agL:Sl) (nV:Int) (nW:Sl) (jo:Int) (H149:Hp):OA:=C125_ agL nV nW (wrap .i64 (jo+1)) H149
def a_.j4 (bO:aso) (dK:aso) (dL:aso) (C125_:asT) (agM:Sl) (jn:Int) (agN:Sl) (nR:Int) (agO:Sl) (H132:Hp):OA:=(Hp.new H132 [(.sl agO)]).bind λH133=>(Sl.row H133 (⟨some (H132.length,0),1,.ex 1⟩:Sl) 1).bind λxs135=>(Hp.app H133 1 24 agM (⟨some (H132.length,0),1,.ex 1⟩:Sl).n xs135).bind λa134=>a_.j3 F bO dK dL C125_ a134.1 jn agN nR a134.2
def a_.l8021 (F:Nat) (bO:aso) (dK:aso) (dL:aso) (C125_:asT):Nat->Sl->Int->Sl->Int->Sl->Int->Hp->OA
 | 0,_,_,_,_,_,_,_=>none
 | Ba+1,Bb,jq,xc,jr,Bc,js,H107=>(bif (decide (js<=jq)) then ((Sl.idx xc jr 1).bind λp150=>(Hp.ldSl H107 p150.1 p150.2).bind λs151=>(dL s151 js H107).bind λr152=>((r152.1).asAgg 2).bind λl153=>(l153[0]?).bind λv154=>((v154).asI .i64).bind λn155=>(l153[1]?).bind λv156=>((v156).asSl).bind λs157=>(Hp.new r152.2 [(.int .i64 n155),(.sl s157)]).bind λH158=>(Sl.row H158 (⟨some (r152.2.length,0),1,.ex 1⟩:Sl) 2).bind λxs160=>(Hp.app H158 2 32 Bc (⟨some (r152.2.length,0),1,.ex 1⟩:Sl).n xs160).bind λa159=>a_.l8021 F bO dK dL C125_ Ba Bb jq xc jr a159.1 (wrap .i64 (js+1)) a159.2) else (a_.j4 F bO dK dL C125_ Bb jq xc jr Bc H107))
def a_.l125 (F:Nat) (bO:aso) (dK:aso) (dL:aso) :Nat->Sl->Int->Sl->Int->Hp->OA
 | 0,_,_,_,_,_=>none
 | fY+1,hO,mS,Bd,kz,H26=>(bif (decide (kz<(Bd.n:Int))) then ((Hp.new H26 []).bind λH94=>a_.l8021 F bO dK dL (a_.l125 F bO dK dL fY) F hO mS Bd kz (⟨some (H26.length,0),0,.ex 0⟩:Sl) 1 H94) else (some ((.sl hO),H26)))
def a_.twX (bO:aso) (dK:aso) (dL:aso) (aa:Sl) (af:Int) (H:Hp):OA:=(Hp.new H [(.sl aa),(.int .i64 af)]).bind λH3=>(Hp.new H3 []).bind λH4=>(Hp.ldSl H4 H.length 0).bind λs5=>(Hp.ldI H4 .i64 H.length (0+1)).bind λn6=>(bO s5 n6 H4).bind λr7=>((r7.1).asTup 2).bind λl8=>(l8[0]?).bind λv9=>((v9).asSl).bind λs10=>(l8[1]?).bind λv11=>((v11).asI .i64).bind λn12=>(Hp.ldSl r7.2 H.length 0).bind λs13=>(Hp.ldI r7.2 .i64 H.length (0+1)).bind λn14=>(dK s13 n14 r7.2).bind λr15=>((r15.1).asSl).bind λs16=>a_.l125 F bO dK dL F (⟨some (H3.length,0),0,.ex 0⟩:Sl) n12 s16 0 r15.2
def a_.tw:=a_.twX F (ak.tw F) (bi.tw F) (aU.tw F)
def a_.lh125 (bO:aso) (dK:aso) (dL:aso) (ks:ast) (n:Nat) (tm:Tm) (H:Hp):OA:=match ks,tm 3,tm 5,tm 6,tm 7 with
 | [],(.sl hO),(.int .i64 mS),(.sl Bd),(.int .i64 kz)=>a_.l125 F bO dK dL n hO mS Bd kz H
 | _,_,_,_,_=>none
def a_.lh8021 (bO:aso) (dK:aso) (dL:aso) (ks:ast) (n:Nat) (tm:Tm) (H:Hp):OA:=match ks,tm 3,tm 5,tm 6,tm 7,tm 8,tm 9 with
 | [fY],(.sl Bb),(.int .i64 jq),(.sl xc),(.int .i64 jr),(.sl Bc),(.int .i64 js)=>a_.l8021 F bO dK dL (a_.l125 F bO dK dL fY) n Bb jq xc jr Bc js H
 | _,_,_,_,_,_,_=>none
def a_.lh (bO:aso) (dK:aso) (dL:aso) (p:Nat) (ks:ast) (n:Nat) (tm:Tm) (H:Hp):OA:=bif p.beq 8021 then a_.lh8021 F bO dK dL ks n tm H else (bif p.beq 125 then a_.lh125 F bO dK dL ks n tm H else (none))
def a_.cs (F:Nat) (bO:aso) (dK:aso) (dL:aso):Cs:=[(77,mk4 bO),(122,mk4 dK),(123,mk0 dL)]
theorem a_.loops (bO:aso) (dK:aso) (dL:aso):LO (aX (a_.cs F bO dK dL)) aH (a_.lh F bO dK dL) F Try.f89:=
 (ae.rt (ae.rt (ae.rt (ae.rt (ae.lt (ae.rt (ae.block (ae.la (λn tm H r h=>by change a_.lh125 F bO dK dL [] n tm H=_ at h;unfold a_.lh125 at h;split at h;have e:bD tm [(3,_),(5,_),(6,_),(7,_)]:=⟨‹_›,‹_›,‹_›,‹_›,trivial⟩;obtain _ | k125:=n;cases h;exact ⟨_,rfl,by rw [<- bH e];exact Eq.trans (by kernel_rfl) h⟩;cases h) λk125=>(ae.rt (ae.lt (ae.block (ae.rt (ae.lt (ae.rt (ae.block (ae.la (λn tm H r h=>by change a_.lh8021 F bO dK dL [k125] n tm H=_ at h;unfold a_.lh8021 at h;split at h;have e:bD tm [(3,_),(5,_),(6,_),(7,_),(8,_),(9,_)]:=⟨‹_›,‹_›,‹_›,‹_›,‹_›,‹_›,trivial⟩;cases (show [k125]=_ from ‹_›);obtain _ | k8021:=n;cases h;exact ⟨_,rfl,by rw [<- bH e];exact Eq.trans (by kernel_rfl) h⟩;cases h) λk8021=>ae.no))))))))))))))))
theorem a_.eqX (bO:aso) (dK:aso) (dL:aso) (aa:Sl) (af:Int) (H:Hp):EX (aX (a_.cs F bO dK dL)) aH (a_.lh F bO dK dL) F Try.f89 [(.agg [(.sl aa),(.int .i64 af)])] H=a_.twX F bO dK dL aa af H:=by kernel_rfl
theorem a_.k:Ok Try.prog 89 (mk4 (a_.tw F)):=by
 intro args H v H' h
 unfold mk4 at h
 split at h
 ·exact okT (TB:=aH) Try.func89 (aN (ak.k F) (aN (bi.k F) (aN (aU.k F) bt))) (a_.loops F (ak.tw F) (bi.tw F) (aU.tw F)) ((a_.eqX F (ak.tw F) (bi.tw F) (aU.tw F) _ _ H).trans h) (by kernel_rfl)
 ·cases h
def aI.j3 (F:Nat) (bI:ass) (Be:Nat) (agP:Nat) (Bf:Nat) (agQ:Nat) (pL:Nat) (Bg:Nat) (agR:Sl) (H122:Hp):OA:=(Hp.ldI H122 .i64 Be agP).bind λn123=>(Hp.ldI H122 .i64 Bf agQ).bind λn124=>(bI (wrap .i64 (n123+n124)) agR H122).bind λr125=>((r125.1).asAgg 2).bind λl126=>(l126[0]?).bind λv127=>((v127).asI .i64).bind λn128=>(l126[1]?).bind λv129=>((v129).asSl).bind λs130=>(Hp.st r125.2 pL Bg (.int .i64 n128)).bind λH131=>(Hp.st H131 pL (Bg+1) (.sl s130)).bind λH132=>(Hp.ldI H132 .i64 pL Bg).bind λn133=>(Hp.ldSl H132 pL (Bg+1)).bind λs134=>some ((.agg [(.int .i64 n133),(.sl s134)]),H132)
def aI.j4 (F:Nat) (bI:ass) (C61_:as9) (Bh:Nat) (agS:Nat) (Bi:Nat) (agT:Nat) (Bj:Nat) (agU:Nat) (agV:Sl) (tD:Int) (H196:Hp):OA:=C61_ Bh agS Bi agT Bj agU agV (wrap .i64 (tD+1)) H196
def aI.j5 (bI:ass) (C61_:as9) (Bk:Nat) (agW:Nat) (Bl:Nat) (agX:Nat) (jY:Nat) (tE:Nat) (agY:Sl) (tF:Int) (H179:Hp):OA:=aI.j4 F bI C61_ Bk agW Bl agX jY tE agY tF H179
def aI.l981 (F:Nat) (bI:ass) (C61_:as9):Nat->Nat->Nat->Nat->Nat->Nat->Nat->Sl->Int->Int->Hp->OA
 | 0,_,_,_,_,_,_,_,_,_,_=>none
 | agZ+1,mT,xd,md,tG,nZ,Bm,tH,gS,gT,H151=>(Hp.ldSl H151 md (tG+1)).bind λs197=>(bif (decide (gT<(s197.n:Int))) then ((Sl.idx tH (wrap .i64 (gS+gT)) 1).bind λp198=>(Hp.ldI H151 .i64 p198.1 p198.2).bind λn199=>(Hp.ldSl H151 mT (xd+1)).bind λs200=>(Sl.idx s200 gS 1).bind λp201=>(Hp.ldI H151 .i64 p201.1 p201.2).bind λn202=>(Hp.ldSl H151 md (tG+1)).bind λs203=>(Sl.idx s203 gT 1).bind λp204=>(Hp.ldI H151 .i64 p204.1 p204.2).bind λn205=>(Sl.idx tH (wrap .i64 (gS+gT)) 1).bind λp206=>(Hp.st H151 p206.1 p206.2 (.int .i64 (wrap .i64 (n199+(wrap .i64 (n202 * n205)))))).bind λH207=>aI.l981 F bI C61_ agZ mT xd md tG nZ Bm tH gS (wrap .i64 (gT+1)) H207) else (aI.j5 F bI C61_ mT xd md tG nZ Bm tH gS H151))
termination_by structural n=>n
def aI.l61 (F:Nat) (bI:ass) :Nat->Nat->Nat->Nat->Nat->Nat->Nat->Sl->Int->Hp->OA
 | 0,_,_,_,_,_,_,_,_,_=>none
 | bQ+1,fm,jc,n_,ir,oa,fF,Bn,kA,H34=>(Hp.ldSl H34 fm (jc+1)).bind λs135=>(bif (decide (kA<(s135.n:Int))) then (aI.l981 F bI (aI.l61 F bI bQ) F fm jc n_ ir oa fF Bn kA 0 H34) else (aI.j3 F bI fm jc n_ ir oa fF Bn H34))
termination_by structural n=>n
def aI.twX (bI:ass) (aa:Int) (af:Sl) (ar:Int) (bj:Sl) (H:Hp):OA:=(Hp.new H [(.int .i64 aa),(.sl af)]).bind λH5=>(Hp.new H5 [(.int .i64 ar),(.sl bj)]).bind λH6=>(Hp.new H6 [.int .i64 0,.sl ⟨none,0,.ex 0⟩]).bind λH7=>(Hp.ldSl H7 H.length 1).bind λs8=>(bif ((s8.n:Int)==0) then ((Hp.st H7 H6.length 0 (.int .i64 0)).bind λH9=>(Hp.st H9 H6.length (0+1) (.sl (⟨none,0,.ex 0⟩:Sl))).bind λH10=>(Hp.ldI H10 .i64 H6.length 0).bind λn11=>(Hp.ldSl H10 H6.length (0+1)).bind λs12=>some ((.agg [(.int .i64 n11),(.sl s12)]),H10)) else ((Hp.ldSl H7 H5.length 1).bind λs13=>(bif ((s13.n:Int)==0) then ((Hp.st H7 H6.length 0 (.int .i64 0)).bind λH14=>(Hp.st H14 H6.length (0+1) (.sl (⟨none,0,.ex 0⟩:Sl))).bind λH15=>(Hp.ldI H15 .i64 H6.length 0).bind λn16=>(Hp.ldSl H15 H6.length (0+1)).bind λs17=>some ((.agg [(.int .i64 n16),(.sl s17)]),H15)) else ((Hp.ldSl H7 H.length 1).bind λs18=>(Hp.ldSl H7 H5.length 1).bind λs19=>(Hp.mk H7 [.int .i64 0] 8 (wrap .i64 ((wrap .i64 ((s18.n:Int)+(s19.n:Int))) - 1)) (wrap .i64 ((wrap .i64 ((s18.n:Int)+(s19.n:Int))) - 1))).bind λm20=>aI.l61 F bI F H.length 0 H5.length 0 H6.length 0 m20.1 0 m20.2))))
def aI.tw:=aI.twX F (aS.tw F)
def aI.lh61 (bI:ass) (ks:ast) (n:Nat) (tm:Tm) (H:Hp):OA:=match ks,tm 2,tm 3,tm 4,tm 5,tm 6 with
 | [],(.ptr fm jc),(.ptr n_ ir),(.ptr oa fF),(.sl Bn),(.int .i64 kA)=>aI.l61 F bI n fm jc n_ ir oa fF Bn kA H
 | _,_,_,_,_,_=>none
def aI.lh981 (bI:ass) (ks:ast) (n:Nat) (tm:Tm) (H:Hp):OA:=match ks,tm 2,tm 3,tm 4,tm 5,tm 6,tm 7 with
 | [bQ],(.ptr mT xd),(.ptr md tG),(.ptr nZ Bm),(.sl tH),(.int .i64 gS),(.int .i64 gT)=>aI.l981 F bI (aI.l61 F bI bQ) n mT xd md tG nZ Bm tH gS gT H
 | _,_,_,_,_,_,_=>none
def aI.lh (bI:ass) (p:Nat) (ks:ast) (n:Nat) (tm:Tm) (H:Hp):OA:=bif p.beq 981 then aI.lh981 F bI ks n tm H else (bif p.beq 61 then aI.lh61 F bI ks n tm H else (none))
def aI.pn:Nat->List Nat:=cP [(10,[19])]
def aI.tb:Nat->List (List Nat):=cP [(10,[[],[],[],[1,2],[0,1,2,3],[0,1,2,3,4],[],[6],[],[6,7,8],[6,7,8,9],[],[11],[],[11,12,13],[11,12,13,14],[6,7,8,9,10,11,12,13,14,15],[0,1,2,3,4,5,6,7,8,9,10,11,12,13,14,15,16],[0,1,2,3,4,5,6,7,8,9,10,11,12,13,14,15,16,17],[0,1,2,3,4,5,6,7,8,9,10,11,12,13,14,15,16,17,18]])]
def aI.cs (F:Nat) (bI:ass):Cs:=[(142,mk8 bI)]
theorem aI.loops (bI:ass):LO (aX (aI.cs F bI)) aI.pn (aI.lh F bI) F Try.f120:=
 (ae.rt (ae.rt (ae.rt (ae.lt (ae.rt (ae.block (ae.la (λn tm H r h=>by change aI.lh61 F bI [] n tm H=_ at h;unfold aI.lh61 at h;split at h;have e:bD tm [(2,_),(3,_),(4,_),(5,_),(6,_)]:=⟨‹_›,‹_›,‹_›,‹_›,‹_›,trivial⟩;obtain _ | k61:=n;cases h;exact ⟨_,rfl,by rw [<- bH e];exact Eq.trans (by kernel_rfl) h⟩;cases h) λk61=>(ae.rt (ae.lt (ae.block (ae.rt (ae.block (ae.la (λn tm H r h=>by change aI.lh981 F bI [k61] n tm H=_ at h;unfold aI.lh981 at h;split at h;have e:bD tm [(2,_),(3,_),(4,_),(5,_),(6,_),(7,_)]:=⟨‹_›,‹_›,‹_›,‹_›,‹_›,‹_›,trivial⟩;cases (show [k61]=_ from ‹_›);obtain _ | k981:=n;cases h;exact ⟨_,rfl,by rw [<- bH e];exact Eq.trans (by kernel_rfl) h⟩;cases h) λk981=>ae.no)))))))))))))
theorem aI.eqX (bI:ass) (aa:Int) (af:Sl) (ar:Int) (bj:Sl) (H:Hp):EX (aX (aI.cs F bI)) aI.pn (aI.lh F bI) F Try.f120 [(.agg [(.int .i64 aa),(.sl af)]),(.agg [(.int .i64 ar),(.sl bj)])] H=aI.twX F bI aa af ar bj H:=by kernel_rfl
theorem aI.k:Ok Try.prog 120 (mk9 (aI.tw F)):=by
 intro args H v H' h
 unfold mk9 at h
 split at h
 ·exact okT (TB:=aI.tb) Try.func120 (aN (aS.k F) bt) (aI.loops F (aS.tw F)) ((aI.eqX F (aS.tw F) _ _ _ _ H).trans h) (by kernel_rfl)
 ·cases h
def av.j8 (F:Nat) (cw:asu) (bm:asu) (ob:Int) (pM:Nat) (Bo:Nat) (ag0:Sl) (H243:Hp):OA:=(if (IntKind.u64.wrap ob)<0 then none else ((Sl.idx ag0 (wrap .i64 ((wrap .i64 (1 * 2 ^ (min ((IntKind.u64.wrap ob):Int).toNat (IntKind.i64).bits))) - 1)) 2).bind λp244=>(Hp.ldI H243 .i64 p244.1 p244.2).bind λn245=>(Hp.ldSl H243 p244.1 (p244.2+1)).bind λs246=>(Hp.st H243 pM Bo (.int .i64 n245)).bind λH247=>(Hp.st H247 pM (Bo+1) (.sl s246)).bind λH248=>(Hp.ldI H248 .i64 pM Bo).bind λn249=>(Hp.ldSl H248 pM (Bo+1)).bind λs250=>some ((.agg [(.int .i64 n249),(.sl s250)]),H248)))
def av.j11 (F:Nat) (cw:asu) (bm:asu) (C61_:asW) (ag2:Sl) (tI:Int) (Bp:Nat) (ag3:Nat) (ag4:Sl) (tJ:Int) (H398:Hp):OA:=C61_ ag2 tI Bp ag3 ag4 (wrap .i64 (tJ+1)) H398
def av.j12 (cw:asu) (bm:asu) (C61_:asW) (ag5:Sl) (tK:Int) (Bq:Nat) (ag6:Nat) (Ux:Sl) (oc:Int) (xe:Nat) (Uy:Nat) (H377:Hp):OA:=(Hp.ldI H377 .i64 xe Uy).bind λn378=>(Hp.ldSl H377 xe (Uy+1)).bind λs379=>(Sl.idx Ux oc 2).bind λp380=>(Hp.st H377 p380.1 p380.2 (.int .i64 n378)).bind λH381=>(Hp.st H381 p380.1 (p380.2+1) (.sl s379)).bind λH382=>av.j11 F cw bm C61_ ag5 tK Bq ag6 Ux oc H382
def av.j13 (F:Nat) (cw:asu) (bm:asu) (C31421_:atn) (ag7:Sl) (tL:Int) (Br:Nat) (ag8:Nat) (ag9:Sl) (tM:Int) (tO:Int) (Bs:Nat) (ag_:Nat) (tP:Int) (tQ:Int) (H415:Hp):OA:=C31421_ ag7 tL Br ag8 ag9 tM tO Bs ag_ tP (wrap .i64 (tQ - 1)) H415
def av.j14 (F:Nat) (cw:asu) (bm:asu) (C31421_:atn) (aha:Sl) (tR:Int) (Bt:Nat) (ahb:Nat) (ahc:Sl) (tS:Int) (tT:Int) (Bu:Nat) (ahd:Nat) (tU:Int) (tV:Int) (H470:Hp):OA:=C31421_ aha tR Bt ahb ahc tS tT Bu ahd tU (wrap .i64 (tV - 1)) H470
def av.l31421 (F:Nat) (cw:asu) (bm:asu) (C61_:asW):Nat->Sl->Int->Nat->Nat->Sl->Int->Int->Nat->Nat->Int->Int->Hp->OA
 | 0,_,_,_,_,_,_,_,_,_,_,_,_=>none
 | Uz+1,tW,jt,mU,xf,tX,gU,ju,jv,mV,iu,fc,H289=>(bif (decide (fc>=0)) then ((if (IntKind.u64.wrap fc)<0 then none else ((bif ((Go.bits .and .i64 (Int.fdiv gU (2 ^ (min ((IntKind.u64.wrap fc):Int).toNat (IntKind.i64).bits))) 1)==0) then (av.j13 F cw bm (av.l31421 F cw bm C61_ Uz) tW jt mU xf tX gU ju jv mV iu fc H289) else ((Sl.idx tW ju 1).bind λp416=>(Hp.ldSl H289 p416.1 p416.2).bind λs417=>(Sl.idx s417 fc 2).bind λp418=>(Hp.ldI H289 .i64 p418.1 p418.2).bind λn419=>(Hp.ldSl H289 p418.1 (p418.2+1)).bind λs420=>(if (IntKind.u64.wrap fc)<0 then none else ((Sl.idx tX (wrap .i64 (gU - (wrap .i64 (1 * 2 ^ (min ((IntKind.u64.wrap fc):Int).toNat (IntKind.i64).bits))))) 2).bind λp421=>(Hp.ldI H289 .i64 p421.1 p421.2).bind λn422=>(Hp.ldSl H289 p421.1 (p421.2+1)).bind λs423=>(cw n419 s420 n422 s423 H289).bind λr424=>((r424.1).asAgg 2).bind λl425=>(l425[0]?).bind λv426=>((v426).asI .i64).bind λn427=>(l425[1]?).bind λv428=>((v428).asSl).bind λs429=>(if aZ H289 r424.2 then ((Hp.new r424.2 [.int .i64 0,.sl ⟨none,0,.ex 0⟩]).bind λH430=>(Hp.st H430 r424.2.length 0 (.int .i64 n427)).bind λH431=>(Hp.st H431 r424.2.length (0+1) (.sl s429)).bind λH432=>(Hp.ldI H432 .i64 jv mV).bind λn433=>(Hp.ldSl H432 jv (mV+1)).bind λs434=>(Hp.ldI H432 .i64 r424.2.length 0).bind λn435=>(Hp.ldSl H432 r424.2.length (0+1)).bind λs436=>(Hp.new H432 [(.int .i64 iu)]).bind λH437=>(cw n435 s436 0 (⟨some (H432.length,0),1,.ex 1⟩:Sl) H437).bind λr438=>((r438.1).asAgg 2).bind λl439=>(l439[0]?).bind λv440=>((v440).asI .i64).bind λn441=>(l439[1]?).bind λv442=>((v442).asSl).bind λs443=>(if aZ H437 r438.2 then ((bm n433 s434 n441 s443 r438.2).bind λr444=>((r444.1).asAgg 2).bind λl445=>(l445[0]?).bind λv446=>((v446).asI .i64).bind λn447=>(l445[1]?).bind λv448=>((v448).asSl).bind λs449=>(Hp.st r444.2 jv mV (.int .i64 n447)).bind λH450=>(Hp.st H450 jv (mV+1) (.sl s449)).bind λH451=>av.j14 F cw bm (av.l31421 F cw bm C61_ Uz) tW jt mU xf tX gU ju jv mV (wrap .i64 (0 - iu)) fc H451) else none)) else none)))))))) else (av.j12 F cw bm C61_ tW jt mU xf tX gU jv mV H289))
termination_by structural n=>n
def av.j15 (cw:asu) (bm:asu) (C61_:asW) (ahe:Sl) (od:Int) (Bv:Nat) (ahf:Nat) (ahg:Sl) (tY:Int) (tZ:Int) (H271:Hp):OA:=(Hp.new H271 [.int .i64 0,.sl ⟨none,0,.ex 0⟩]).bind λH272=>(Hp.st H272 H271.length 0 (.int .i64 0)).bind λH273=>(Hp.st H273 H271.length (0+1) (.sl (⟨none,0,.ex 0⟩:Sl))).bind λH274=>av.l31421 F cw bm C61_ F ahe od Bv ahf ahg tY tZ H271.length 0 1 (wrap .i64 (od - 1)) H274
def av.l3925 (F:Nat) (cw:asu) (bm:asu) (C61_:asW):Nat->Sl->Int->Nat->Nat->Sl->Int->Int->Int->Hp->OA
 | 0,_,_,_,_,_,_,_,_,_=>none
 | ahh+1,Bw,jw,oe,Bx,By,jx,kB,iv,H260=>(bif (decide (iv<jw)) then ((if (IntKind.u64.wrap iv)<0 then none else (av.l3925 F cw bm C61_ ahh Bw jw oe Bx By jx (wrap .i64 (kB+(Go.bits .and .i64 (Int.fdiv jx (2 ^ (min ((IntKind.u64.wrap iv):Int).toNat (IntKind.i64).bits))) 1))) (wrap .i64 (iv+1)) H260))) else (av.j15 F cw bm C61_ Bw jw oe Bx By jx kB H260))
termination_by structural n=>n
def av.l61 (F:Nat) (cw:asu) (bm:asu) :Nat->Sl->Int->Nat->Nat->Sl->Int->Hp->OA
 | 0,_,_,_,_,_,_,_=>none
 | bQ+1,Hj,eo,dQ,gu,Bz,kC,H15=>(if (IntKind.u64.wrap eo)<0 then none else ((bif (decide (kC<(wrap .i64 (1 * 2 ^ (min ((IntKind.u64.wrap eo):Int).toNat (IntKind.i64).bits))))) then (av.l3925 F cw bm (av.l61 F cw bm bQ) F Hj eo dQ gu Bz kC (-1) 0 H15) else (av.j8 F cw bm eo dQ gu Bz H15))))
termination_by structural n=>n
def av.twX (cw:asu) (bm:asu) (aa:Sl) (au:Int) (H:Hp):OA:=(Hp.new H [.int .i64 0,.sl ⟨none,0,.ex 0⟩]).bind λH3=>(if (IntKind.u64.wrap au)<0 then none else ((Hp.mk H3 [.int .i64 0,.sl ⟨none,0,.ex 0⟩] 32 (wrap .i64 (1 * 2 ^ (min ((IntKind.u64.wrap au):Int).toNat (IntKind.i64).bits))) (wrap .i64 (1 * 2 ^ (min ((IntKind.u64.wrap au):Int).toNat (IntKind.i64).bits)))).bind λm4=>(Hp.new m4.2 [(.int .i64 1)]).bind λH5=>(Sl.idx m4.1 0 2).bind λp6=>(Hp.st H5 p6.1 p6.2 (.int .i64 0)).bind λH7=>(Hp.st H7 p6.1 (p6.2+1) (.sl (⟨some (m4.2.length,0),1,.ex 1⟩:Sl))).bind λH8=>av.l61 F cw bm F aa au H.length 0 m4.1 1 H8))
def av.tw:=av.twX F (aI.tw F) (aJ.tw F)
def av.lh61 (cw:asu) (bm:asu) (ks:ast) (n:Nat) (tm:Tm) (H:Hp):OA:=match ks,tm 0,tm 1,tm 4,tm 5,tm 6 with
 | [],(.sl Hj),(.int .i64 eo),(.ptr dQ gu),(.sl Bz),(.int .i64 kC)=>av.l61 F cw bm n Hj eo dQ gu Bz kC H
 | _,_,_,_,_,_=>none
def av.lh3925 (cw:asu) (bm:asu) (ks:ast) (n:Nat) (tm:Tm) (H:Hp):OA:=match ks,tm 0,tm 1,tm 4,tm 5,tm 6,tm 7,tm 8 with
 | [bQ],(.sl Bw),(.int .i64 jw),(.ptr oe Bx),(.sl By),(.int .i64 jx),(.int .i64 kB),(.int .i64 iv)=>av.l3925 F cw bm (av.l61 F cw bm bQ) n Bw jw oe Bx By jx kB iv H
 | _,_,_,_,_,_,_,_=>none
def av.lh31421 (cw:asu) (bm:asu) (ks:ast) (n:Nat) (tm:Tm) (H:Hp):OA:=match ks,tm 0,tm 1,tm 4,tm 5,tm 6,tm 7,tm 9,tm 10,tm 11 with
 | [bQ],(.sl tW),(.int .i64 jt),(.ptr mU xf),(.sl tX),(.int .i64 gU),(.int .i64 ju),(.ptr jv mV),(.int .i64 iu),(.int .i64 fc)=>av.l31421 F cw bm (av.l61 F cw bm bQ) n tW jt mU xf tX gU ju jv mV iu fc H
 | _,_,_,_,_,_,_,_,_,_=>none
def av.lh (cw:asu) (bm:asu) (p:Nat) (ks:ast) (n:Nat) (tm:Tm) (H:Hp):OA:=bif p.beq 31421 then av.lh31421 F cw bm ks n tm H else (bif p.beq 3925 then av.lh3925 F cw bm ks n tm H else (bif p.beq 61 then av.lh61 F cw bm ks n tm H else (none)))
def av.pn:Nat->List Nat:=cP [(17,[17]),(18,[6,7])]
def av.tb:Nat->List (List Nat):=cP [(17,[[],[],[0,1],[0,1,2],[],[0,1,2,3,4],[0,1,2,3,4,5],[],[],[],[9],[9,10],[8,9,10,11],[7,8,9,10,11,12],[7,8,9,10,11,12,13],[0,1,2,3,4,5,6,7,8,9,10,11,12,13,14],[],[0,1,2,3,4,5,6,7,8,9,10,11,12,13,14,15,16]]),(18,[[],[],[],[2],[2,3],[1,2,3,4],[0,1,2,3,4,5],[0,1,2,3,4,5,6]])]
def av.cs (F:Nat) (cw:asu) (bm:asu):Cs:=[(120,mk9 cw),(121,mk9 bm)]
theorem av.loops (cw:asu) (bm:asu):LO (aX (av.cs F cw bm)) av.pn (av.lh F cw bm) F Try.f88:=
 (ae.rt (ae.rt (ae.rt (ae.lt (ae.rt (ae.block (ae.la (λn tm H r h=>by change av.lh61 F cw bm [] n tm H=_ at h;unfold av.lh61 at h;split at h;have e:bD tm [(0,_),(1,_),(4,_),(5,_),(6,_)]:=⟨‹_›,‹_›,‹_›,‹_›,‹_›,trivial⟩;obtain _ | k61:=n;cases h;exact ⟨_,rfl,by rw [<- bH e];exact Eq.trans (by kernel_rfl) h⟩;cases h) λk61=>(ae.rt (ae.lt (ae.block (ae.rt (ae.seq (ae.rt (ae.block (ae.la (λn tm H r h=>by change av.lh3925 F cw bm [k61] n tm H=_ at h;unfold av.lh3925 at h;split at h;have e:bD tm [(0,_),(1,_),(4,_),(5,_),(6,_),(7,_),(8,_)]:=⟨‹_›,‹_›,‹_›,‹_›,‹_›,‹_›,‹_›,trivial⟩;cases (show [k61]=_ from ‹_›);obtain _ | k3925:=n;cases h;exact ⟨_,rfl,by rw [<- bH e];exact Eq.trans (by kernel_rfl) h⟩;cases h) λk3925=>ae.no))) (ae.rt (ae.rt (ae.lt (ae.rt (ae.block (ae.la (λn tm H r h=>by change av.lh31421 F cw bm [k61] n tm H=_ at h;unfold av.lh31421 at h;split at h;have e:bD tm [(0,_),(1,_),(4,_),(5,_),(6,_),(7,_),(9,_),(10,_),(11,_)]:=⟨‹_›,‹_›,‹_›,‹_›,‹_›,‹_›,‹_›,‹_›,‹_›,trivial⟩;cases (show [k61]=_ from ‹_›);obtain _ | k31421:=n;cases h;exact ⟨_,rfl,by rw [<- bH e];exact Eq.trans (by kernel_rfl) h⟩;cases h) λk31421=>ae.no))))))))))))))))))
theorem av.eqX (cw:asu) (bm:asu) (aa:Sl) (au:Int) (H:Hp):EX (aX (av.cs F cw bm)) av.pn (av.lh F cw bm) F Try.f88 [(.sl aa),(.int .i64 au)] H=av.twX F cw bm aa au H:=by kernel_rfl
theorem av.k:Ok Try.prog 88 (mk0 (av.tw F)):=by
 intro args H v H' h
 unfold mk0 at h
 split at h
 ·exact okT (TB:=av.tb) Try.func88 (aN (aI.k F) (aN (aJ.k F) bt)) (av.loops F (aI.tw F) (aJ.tw F)) ((av.eqX F (aI.tw F) (aJ.tw F) _ _ H).trans h) (by kernel_rfl)
 ·cases h
def bU.l125 (F:Nat) (bZ:asA) :Nat->Nat->Nat->Int->Hp->OA
 | 0,_,_,_,_=>none
 | fY+1,mW,xg,fW,H25=>(Hp.ldSl H25 mW (xg+1)).bind λs32=>(bif (decide (fW<(s32.n:Int))) then ((Hp.ldSl H25 mW (xg+1)).bind λs33=>(Sl.idx s33 fW 1).bind λp34=>(Hp.ldI H25 .i64 p34.1 p34.2).bind λn35=>(bZ n35 (-1000000000000) 1000000000000 H25).bind λr36=>((r36.1).asB).bind λb37=>(bif (!b37) then (some ((.bool false),r36.2)) else (bU.l125 F bZ fY mW xg (wrap .i64 (fW+1)) r36.2))) else (some ((.bool true),H25)))
termination_by structural n=>n
def bU.twX (bZ:asA) (aa:Int) (af:Sl) (H:Hp):OA:=(Hp.new H [(.int .i64 aa),(.sl af)]).bind λH3=>(Hp.ldSl H3 H.length 1).bind λs4=>(bif ((s4.n:Int)==0) then ((Hp.ldI H3 .i64 H.length 0).bind λn5=>some ((.bool (n5==0)),H3)) else ((bif (decide ((s4.n:Int)>160)) then (some ((.bool false),H3)) else ((Hp.ldI H3 .i64 H.length 0).bind λn6=>(bZ n6 (-240) 240 H3).bind λr7=>((r7.1).asB).bind λb8=>(bif (!b8) then (some ((.bool false),r7.2)) else ((Hp.ldI r7.2 .i64 H.length 0).bind λn9=>(bif (decide ((wrap .i64 ((wrap .i64 (n9+(s4.n:Int))) - 1))>240)) then (some ((.bool false),r7.2)) else ((Hp.ldSl r7.2 H.length 1).bind λs10=>(Sl.idx s10 0 1).bind λp11=>(Hp.ldI r7.2 .i64 p11.1 p11.2).bind λn12=>(bif (n12==0) then (some ((.bool false),r7.2)) else ((Hp.ldSl r7.2 H.length 1).bind λs13=>(Sl.idx s13 (wrap .i64 ((s4.n:Int) - 1)) 1).bind λp14=>(Hp.ldI r7.2 .i64 p14.1 p14.2).bind λn15=>(bif (n15==0) then (some ((.bool false),r7.2)) else (bU.l125 F bZ F H.length 0 0 r7.2))))))))))))
def bU.tw:=bU.twX F (cV.tw F)
def bU.lh125 (bZ:asA) (ks:ast) (n:Nat) (tm:Tm) (H:Hp):OA:=match ks,tm 1,tm 4 with
 | [],(.ptr mW xg),(.int .i64 fW)=>bU.l125 F bZ n mW xg fW H
 | _,_,_=>none
def bU.lh (bZ:asA) (p:Nat) (ks:ast) (n:Nat) (tm:Tm) (H:Hp):OA:=bif p.beq 125 then bU.lh125 F bZ ks n tm H else (none)
def mk10 (g:ass) (args:asD) (H:Hp):OA:=match args with
 | [(.agg [(.int .i64 aa),(.sl af)])]=>g aa af H
 | _=>none
theorem mk10_E (g:ass) (aa:Int) (af:Sl) (H:Hp):mk10 g [(.agg [(.int .i64 aa),(.sl af)])] H=g aa af H:=rfl
def bU.cs (F:Nat) (bZ:asA):Cs:=[(39,mk5 bZ)]
theorem bU.loops (bZ:asA):LO (aX (bU.cs F bZ)) aH (bU.lh F bZ) F Try.f85:=
 (ae.rt (ae.rt (ae.rt (ae.rt (ae.lt (ae.rt (ae.block (ae.la (λn tm H r h=>by change bU.lh125 F bZ [] n tm H=_ at h;unfold bU.lh125 at h;split at h;have e:bD tm [(1,_),(4,_)]:=⟨‹_›,‹_›,trivial⟩;obtain _ | k125:=n;cases h;exact ⟨_,rfl,by rw [<- bH e];exact Eq.trans (by kernel_rfl) h⟩;cases h) λk125=>ae.no))))))))
theorem bU.eqX (bZ:asA) (aa:Int) (af:Sl) (H:Hp):EX (aX (bU.cs F bZ)) aH (bU.lh F bZ) F Try.f85 [(.agg [(.int .i64 aa),(.sl af)])] H=bU.twX F bZ aa af H:=by kernel_rfl
theorem bU.k:Ok Try.prog 85 (mk10 (bU.tw F)):=by
 intro args H v H' h
 unfold mk10 at h
 split at h
 ·exact okT (TB:=aH) Try.func85 (aN (cV.k F) bt) (bU.loops F (cV.tw F)) ((bU.eqX F (cV.tw F) _ _ H).trans h) (by kernel_rfl)
 ·cases h
def bo.j2 (F:Nat) (fo:ass) (C61_:atr) (BA:Nat) (ahi:Nat) (BB:Nat) (ahj:Nat) (t_:Nat) (Hk:Nat) (ua:Int) (og:Int) (H84:Hp):OA:=(Hp.ldSl H84 t_ (Hk+1)).bind λs85=>(Hp.new H84 [(.int .i64 og)]).bind λH86=>(Sl.row H86 (⟨some (H84.length,0),1,.ex 1⟩:Sl) 1).bind λxs88=>(Hp.app H86 1 8 s85 (⟨some (H84.length,0),1,.ex 1⟩:Sl).n xs88).bind λa87=>(Hp.st a87.2 t_ (Hk+1) (.sl a87.1)).bind λH89=>C61_ BA ahi BB ahj t_ Hk (wrap .i64 (ua+1)) H89
def bo.l61 (F:Nat) (fo:ass) :Nat->Nat->Nat->Nat->Nat->Nat->Nat->Int->Hp->OA
 | 0,_,_,_,_,_,_,_,_=>none
 | bQ+1,kD,pN,fm,jc,ir,ub,fF,H31=>(Hp.ldSl H31 kD (pN+1)).bind λs64=>(bif (decide (fF<(s64.n:Int))) then ((Hp.ldSl H31 kD (pN+1)).bind λs65=>(Sl.idx s65 fF 1).bind λp66=>(Hp.ldI H31 .i64 p66.1 p66.2).bind λn67=>(Hp.ldSl H31 kD (pN+1)).bind λs68=>(Sl.idx s68 0 1).bind λp69=>(Hp.ldI H31 .i64 p69.1 p69.2).bind λn70=>(bif (decide (n70<0)) then (bo.j2 F fo (bo.l61 F fo bQ) kD pN fm jc ir ub fF (wrap .i64 (0 - n67)) H31) else (bo.j2 F fo (bo.l61 F fo bQ) kD pN fm jc ir ub fF n67 H31))) else ((Hp.ldI H31 .i64 ir ub).bind λn90=>(Hp.ldSl H31 ir (ub+1)).bind λs91=>(Hp.st H31 fm jc (.int .i64 n90)).bind λH92=>(Hp.st H92 fm (jc+1) (.sl s91)).bind λH93=>(Hp.ldI H93 .i64 fm jc).bind λn94=>(Hp.ldSl H93 fm (jc+1)).bind λs95=>some ((.agg [(.int .i64 n94),(.sl s95)]),H93)))
termination_by structural n=>n
def bo.twX (fo:ass) (aa:Int) (af:Sl) (H:Hp):OA:=(Hp.new H [(.int .i64 aa),(.sl af)]).bind λH3=>(Hp.new H3 [.int .i64 0,.sl ⟨none,0,.ex 0⟩]).bind λH4=>(Hp.ldI H4 .i64 H.length 0).bind λn5=>(Hp.ldSl H4 H.length (0+1)).bind λs6=>(fo n5 s6 H4).bind λr7=>((r7.1).asB).bind λb8=>(bif (!b8) then ((Hp.st r7.2 H3.length 0 (.int .i64 0)).bind λH9=>(Hp.st H9 H3.length (0+1) (.sl (⟨none,0,.ex 0⟩:Sl))).bind λH10=>(Hp.ldI H10 .i64 H3.length 0).bind λn11=>(Hp.ldSl H10 H3.length (0+1)).bind λs12=>some ((.agg [(.int .i64 n11),(.sl s12)]),H10)) else ((Hp.ldSl r7.2 H.length 1).bind λs13=>(bif ((s13.n:Int)==0) then ((Hp.st r7.2 H3.length 0 (.int .i64 0)).bind λH14=>(Hp.st H14 H3.length (0+1) (.sl (⟨none,0,.ex 0⟩:Sl))).bind λH15=>(Hp.ldI H15 .i64 H3.length 0).bind λn16=>(Hp.ldSl H15 H3.length (0+1)).bind λs17=>some ((.agg [(.int .i64 n16),(.sl s17)]),H15)) else ((Hp.new r7.2 [.int .i64 0,.sl ⟨none,0,.ex 0⟩]).bind λH18=>(Hp.st H18 r7.2.length 0 (.int .i64 0)).bind λH19=>(Hp.st H19 r7.2.length (0+1) (.sl (⟨none,0,.ex 0⟩:Sl))).bind λH20=>bo.l61 F fo F H.length 0 H3.length 0 r7.2.length 0 0 H20))))
def bo.tw:=bo.twX F (bU.tw F)
def bo.lh61 (fo:ass) (ks:ast) (n:Nat) (tm:Tm) (H:Hp):OA:=match ks,tm 1,tm 2,tm 3,tm 4 with
 | [],(.ptr kD pN),(.ptr fm jc),(.ptr ir ub),(.int .i64 fF)=>bo.l61 F fo n kD pN fm jc ir ub fF H
 | _,_,_,_,_=>none
def bo.lh (fo:ass) (p:Nat) (ks:ast) (n:Nat) (tm:Tm) (H:Hp):OA:=bif p.beq 61 then bo.lh61 F fo ks n tm H else (none)
def bo.cs (F:Nat) (fo:ass):Cs:=[(85,mk10 fo)]
theorem bo.loops (fo:ass):LO (aX (bo.cs F fo)) aH (bo.lh F fo) F Try.f87:=
 (ae.rt (ae.rt (ae.rt (ae.lt (ae.rt (ae.block (ae.la (λn tm H r h=>by change bo.lh61 F fo [] n tm H=_ at h;unfold bo.lh61 at h;split at h;have e:bD tm [(1,_),(2,_),(3,_),(4,_)]:=⟨‹_›,‹_›,‹_›,‹_›,trivial⟩;obtain _ | k61:=n;cases h;exact ⟨_,rfl,by rw [<- bH e];exact Eq.trans (by kernel_rfl) h⟩;cases h) λk61=>ae.no)))))))
theorem bo.eqX (fo:ass) (aa:Int) (af:Sl) (H:Hp):EX (aX (bo.cs F fo)) aH (bo.lh F fo) F Try.f87 [(.agg [(.int .i64 aa),(.sl af)])] H=bo.twX F fo aa af H:=by kernel_rfl
theorem bo.k:Ok Try.prog 87 (mk10 (bo.tw F)):=by
 intro args H v H' h
 unfold mk10 at h
 split at h
 ·exact okT (TB:=aH) Try.func87 (aN (bU.k F) bt) (bo.loops F (bU.tw F)) ((bo.eqX F (bU.tw F) _ _ H).trans h) (by kernel_rfl)
 ·cases h
def er.twX (F:Nat) (bO:aso) (pO:aso) (pP:aso) (pQ:ass) (aa:Sl) (af:Int) (H:Hp):OA:=(Hp.new H [(.sl aa),(.int .i64 af)]).bind λH3=>(Hp.new H3 [.int .i64 0,.sl ⟨none,0,.ex 0⟩]).bind λH4=>(Hp.ldSl H4 H.length 0).bind λs5=>(Hp.ldI H4 .i64 H.length (0+1)).bind λn6=>(bO s5 n6 H4).bind λr7=>((r7.1).asTup 2).bind λl8=>(l8[0]?).bind λv9=>((v9).asSl).bind λs10=>(l8[1]?).bind λv11=>((v11).asI .i64).bind λn12=>(Hp.ldSl r7.2 H.length 0).bind λs13=>(bif ((s13.n:Int) != n12) then ((bif ((s13.n:Int) != (wrap .i64 (n12 - 1))) then ((Hp.st r7.2 H3.length 0 (.int .i64 0)).bind λH14=>(Hp.st H14 H3.length (0+1) (.sl (⟨none,0,.ex 0⟩:Sl))).bind λH15=>(Hp.ldI H15 .i64 H3.length 0).bind λn16=>(Hp.ldSl H15 H3.length (0+1)).bind λs17=>some ((.agg [(.int .i64 n16),(.sl s17)]),H15)) else ((Hp.ldSl r7.2 H.length 0).bind λs18=>(Hp.ldI r7.2 .i64 H.length (0+1)).bind λn19=>(pO s18 n19 r7.2).bind λr20=>((r20.1).asSl).bind λs21=>(pP s21 (wrap .i64 (n12 - 1)) r20.2).bind λr22=>((r22.1).asAgg 2).bind λl23=>(l23[0]?).bind λv24=>((v24).asI .i64).bind λn25=>(l23[1]?).bind λv26=>((v26).asSl).bind λs27=>(pQ n25 s27 r22.2).bind λr28=>((r28.1).asAgg 2).bind λl29=>(l29[0]?).bind λv30=>((v30).asI .i64).bind λn31=>(l29[1]?).bind λv32=>((v32).asSl).bind λs33=>(Hp.st r28.2 H3.length 0 (.int .i64 n31)).bind λH34=>(Hp.st H34 H3.length (0+1) (.sl s33)).bind λH35=>(Hp.ldI H35 .i64 H3.length 0).bind λn36=>(Hp.ldSl H35 H3.length (0+1)).bind λs37=>some ((.agg [(.int .i64 n36),(.sl s37)]),H35)))) else ((Hp.ldSl r7.2 H.length 0).bind λs38=>(Hp.ldI r7.2 .i64 H.length (0+1)).bind λn39=>(pO s38 n39 r7.2).bind λr40=>((r40.1).asSl).bind λs41=>(pP s41 (wrap .i64 (n12 - 1)) r40.2).bind λr42=>((r42.1).asAgg 2).bind λl43=>(l43[0]?).bind λv44=>((v44).asI .i64).bind λn45=>(l43[1]?).bind λv46=>((v46).asSl).bind λs47=>(pQ n45 s47 r42.2).bind λr48=>((r48.1).asAgg 2).bind λl49=>(l49[0]?).bind λv50=>((v50).asI .i64).bind λn51=>(l49[1]?).bind λv52=>((v52).asSl).bind λs53=>(Hp.st r48.2 H3.length 0 (.int .i64 n51)).bind λH54=>(Hp.st H54 H3.length (0+1) (.sl s53)).bind λH55=>(Hp.ldI H55 .i64 H3.length 0).bind λn56=>(Hp.ldSl H55 H3.length (0+1)).bind λs57=>some ((.agg [(.int .i64 n56),(.sl s57)]),H55)))
def er.tw:=er.twX F (ak.tw F) (a_.tw F) (av.tw F) (bo.tw F)
def er.cs (F:Nat) (bO:aso) (pO:aso) (pP:aso) (pQ:ass):Cs:=[(77,mk4 bO),(89,mk4 pO),(88,mk0 pP),(87,mk10 pQ)]
theorem er.eqX (bO:aso) (pO:aso) (pP:aso) (pQ:ass) (aa:Sl) (af:Int) (H:Hp):EX (aX (er.cs F bO pO pP pQ)) aH lh0 F Try.f48 [(.agg [(.sl aa),(.int .i64 af)])] H=er.twX F bO pO pP pQ aa af H:=by kernel_rfl
theorem er.k:Ok Try.prog 48 (mk4 (er.tw F)):=by
 intro args H v H' h
 unfold mk4 at h
 split at h
 ·exact okT (TB:=aH) Try.func48 (aN (ak.k F) (aN (a_.k F) (aN (av.k F) (aN (bo.k F) bt)))) ae.no ((er.eqX F (ak.tw F) (a_.tw F) (av.tw F) (bo.tw F) _ _ H).trans h) (by kernel_rfl)
 ·cases h
def eK.twX (F:Nat) (uc:aso) (pR:aso) (aa:Sl) (af:Int) (H:Hp):OA:=(Hp.new H [(.sl aa),(.int .i64 af)]).bind λH3=>(Hp.new H3 [.int .i64 0,.sl ⟨none,0,.ex 0⟩]).bind λH4=>(Hp.ldSl H4 H.length 0).bind λs5=>(Hp.ldI H4 .i64 H.length (0+1)).bind λn6=>(uc s5 n6 H4).bind λr7=>((r7.1).asB).bind λb8=>(bif (!b8) then ((Hp.st r7.2 H3.length 0 (.int .i64 0)).bind λH9=>(Hp.st H9 H3.length (0+1) (.sl (⟨none,0,.ex 0⟩:Sl))).bind λH10=>(Hp.ldI H10 .i64 H3.length 0).bind λn11=>(Hp.ldSl H10 H3.length (0+1)).bind λs12=>some ((.tup [(.agg [(.int .i64 n11),(.sl s12)]),(.int .i64 1)]),H10)) else ((Hp.ldSl r7.2 H.length 0).bind λs13=>(bif ((s13.n:Int)==0) then ((Hp.ldI r7.2 .i64 H.length 1).bind λn14=>(bif (n14==0) then ((Hp.st r7.2 H3.length 0 (.int .i64 0)).bind λH15=>(Hp.st H15 H3.length (0+1) (.sl (⟨none,0,.ex 0⟩:Sl))).bind λH16=>(Hp.ldI H16 .i64 H3.length 0).bind λn17=>(Hp.ldSl H16 H3.length (0+1)).bind λs18=>some ((.tup [(.agg [(.int .i64 n17),(.sl s18)]),(.int .i64 5)]),H16)) else ((Hp.ldSl r7.2 H.length 0).bind λs19=>(Hp.ldI r7.2 .i64 H.length (0+1)).bind λn20=>(pR s19 n20 r7.2).bind λr21=>((r21.1).asAgg 2).bind λl22=>(l22[0]?).bind λv23=>((v23).asI .i64).bind λn24=>(l22[1]?).bind λv25=>((v25).asSl).bind λs26=>(Hp.st r21.2 H3.length 0 (.int .i64 n24)).bind λH27=>(Hp.st H27 H3.length (0+1) (.sl s26)).bind λH28=>(Hp.ldI H28 .i64 H3.length 0).bind λn29=>(Hp.ldSl H28 H3.length (0+1)).bind λs30=>some ((.tup [(.agg [(.int .i64 n29),(.sl s30)]),(.int .i64 0)]),H28)))) else ((Hp.ldSl r7.2 H.length 0).bind λs31=>(Hp.ldI r7.2 .i64 H.length (0+1)).bind λn32=>(pR s31 n32 r7.2).bind λr33=>((r33.1).asAgg 2).bind λl34=>(l34[0]?).bind λv35=>((v35).asI .i64).bind λn36=>(l34[1]?).bind λv37=>((v37).asSl).bind λs38=>(Hp.st r33.2 H3.length 0 (.int .i64 n36)).bind λH39=>(Hp.st H39 H3.length (0+1) (.sl s38)).bind λH40=>(Hp.ldI H40 .i64 H3.length 0).bind λn41=>(Hp.ldSl H40 H3.length (0+1)).bind λs42=>some ((.tup [(.agg [(.int .i64 n41),(.sl s42)]),(.int .i64 0)]),H40)))))
def eK.tw:=eK.twX F (dJ.tw F) (er.tw F)
def eK.cs (F:Nat) (uc:aso) (pR:aso):Cs:=[(26,mk4 uc),(48,mk4 pR)]
theorem eK.eqX (uc:aso) (pR:aso) (aa:Sl) (af:Int) (H:Hp):EX (aX (eK.cs F uc pR)) aH lh0 F Try.f20 [(.agg [(.sl aa),(.int .i64 af)])] H=eK.twX F uc pR aa af H:=by kernel_rfl
theorem eK.k:Ok Try.prog 20 (mk4 (eK.tw F)):=by
 intro args H v H' h
 unfold mk4 at h
 split at h
 ·exact okT (TB:=aH) Try.func20 (aN (dJ.k F) (aN (er.k F) bt)) ae.no ((eK.eqX F (dJ.tw F) (er.tw F) _ _ H).trans h) (by kernel_rfl)
 ·cases h
def cR.twX (F:Nat) (aa:Sl) (H:Hp):OA:=some ((.int .i64 (aa.n:Int)),H)
def cR.tw:=cR.twX F
theorem cR.k:Ok Try.prog 62 (mk3 (cR.tw F)):=by
 intro args H v H' h
 unfold mk3 at h
 split at h
 ·exact ok0 Try.func62 (Eq.trans (by kernel_rfl) h) (by kernel_rfl) (by kernel_rfl)
 ·cases h
def dy.twX (F:Nat) (aa:Int) (au:Int) (cQ:Int) (H:Hp):OA:=(bif (decide (au<=aa)) then (some ((.bool (decide (aa<=cQ))),H)) else (some ((.bool false),H)))
def dy.tw:=dy.twX F
theorem dy.k:Ok Try.prog 63 (mk5 (dy.tw F)):=by
 intro args H v H' h
 unfold mk5 at h
 split at h
 ·exact ok0 Try.func63 (Eq.trans (by kernel_rfl) h) (by kernel_rfl) (by kernel_rfl)
 ·cases h
def fx.twX (F:Nat) (aa:Int) (af:Int) (bX:Int) (bY:Int) (bN:Int) (H:Hp):OA:=(Hp.new H [(.int .i64 aa),(.int .i64 af),(.int .i64 bX),(.int .i64 bY),(.int .i64 bN)]).bind λH6=>(Hp.ldI H6 .i64 H.length 4).bind λn7=>(bif (n7 != 1) then ((Hp.ldI H6 .i64 H.length 4).bind λn8=>some ((.bool (n8 != (-1))),H6)) else (some ((.bool false),H6)))
def fx.tw:=fx.twX F
theorem fx.k:Ok Try.prog 65 (mk2 (fx.tw F)):=by
 intro args H v H' h
 unfold mk2 at h
 split at h
 ·exact ok0 Try.func65 (Eq.trans (by kernel_rfl) h) (by kernel_rfl) (by kernel_rfl)
 ·cases h
def b_.l13 (F:Nat) (gv:asF) :Nat->Sl->Int->Int->Hp->OA
 | 0,_,_,_,_=>none
 | ig+1,jd,dj,cB,H6=>(bif (decide (cB<dj)) then ((Sl.idx jd cB 5).bind λp15=>(Hp.ldI H6 .i64 p15.1 p15.2).bind λn16=>(Hp.ldI H6 .i64 p15.1 (p15.2+1)).bind λn17=>(Hp.ldI H6 .i64 p15.1 (p15.2+2)).bind λn18=>(Hp.ldI H6 .i64 p15.1 (p15.2+3)).bind λn19=>(Hp.ldI H6 .i64 p15.1 (p15.2+4)).bind λn20=>(gv n16 n17 n18 n19 n20 H6).bind λr21=>((r21.1).asB).bind λb22=>(bif b22 then (some ((.int .i64 cB),r21.2)) else (b_.l13 F gv ig jd dj (wrap .i64 (cB+1)) r21.2))) else (some ((.int .i64 (-1)),H6)))
def b_.twX (gv:asF) (aa:Sl) (H:Hp):OA:=b_.l13 F gv F aa (aa.n:Int) 0 H
def b_.tw:=b_.twX F (fx.tw F)
def b_.lh13 (gv:asF) (ks:ast) (n:Nat) (tm:Tm) (H:Hp):OA:=match ks,tm 0,tm 1,tm 7,tm 8 with
 | [],(.sl jd),(.fn 65 []),(.int .i64 dj),(.int .i64 cB)=>b_.l13 F gv n jd dj cB H
 | _,_,_,_,_=>none
def b_.lh (gv:asF) (p:Nat) (ks:ast) (n:Nat) (tm:Tm) (H:Hp):OA:=bif p.beq 13 then b_.lh13 F gv ks n tm H else (none)
def mk11 (g:asq) (args:asD) (H:Hp):OA:=match args with
 | [(.sl aa),(.fn 65 [])]=>g aa H
 | _=>none
theorem mk11_E (g:asq) (aa:Sl) (H:Hp):mk11 g [(.sl aa),(.fn 65 [])] H=g aa H:=rfl
def b_.cs (F:Nat) (gv:asF):Cs:=[(65,mk2 gv)]
theorem b_.loops (gv:asF):LO (aX (b_.cs F gv)) aH (b_.lh F gv) F Try.f99:=
 (ae.rt (ae.lt (ae.rt (ae.block (ae.la (λn tm H r h=>by change b_.lh13 F gv [] n tm H=_ at h;unfold b_.lh13 at h;split at h;have e:bD tm [(0,_),(1,_),(7,_),(8,_)]:=⟨‹_›,‹_›,‹_›,‹_›,trivial⟩;obtain _ | k13:=n;cases h;exact ⟨_,rfl,by rw [<- bH e];exact Eq.trans (by kernel_rfl) h⟩;cases h) λk13=>ae.no)))))
theorem b_.eqX (gv:asF) (aa:Sl) (H:Hp):EX (aX (b_.cs F gv)) aH (b_.lh F gv) F Try.f99 [(.sl aa),(.fn 65 [])] H=b_.twX F gv aa H:=by kernel_rfl
theorem b_.k:Ok Try.prog 99 (mk11 (b_.tw F)):=by
 intro args H v H' h
 unfold mk11 at h
 split at h
 ·exact okT (TB:=aH) Try.func99 (aN (fx.k F) bt) (b_.loops F (fx.tw F)) ((b_.eqX F (fx.tw F) _ H).trans h) (by kernel_rfl)
 ·cases h
def eL.twX (F:Nat) (ud:asq) (aa:Sl) (H:Hp):OA:=(ud aa H).bind λr2=>((r2.1).asI .i64).bind λn3=>some ((.bool (decide (n3>=0))),r2.2)
def eL.tw:=eL.twX F (b_.tw F)
def eL.cs (F:Nat) (ud:asq):Cs:=[(99,mk11 ud)]
theorem eL.eqX (ud:asq) (aa:Sl) (H:Hp):EX (aX (eL.cs F ud)) aH lh0 F Try.f64 [(.sl aa),(.fn 65 [])] H=eL.twX F ud aa H:=by kernel_rfl
theorem eL.k:Ok Try.prog 64 (mk11 (eL.tw F)):=by
 intro args H v H' h
 unfold mk11 at h
 split at h
 ·exact okT (TB:=aH) Try.func64 (aN (b_.k F) bt) ae.no ((eL.eqX F (b_.tw F) _ H).trans h) (by kernel_rfl)
 ·cases h
def bits_Mul64.twX (F:Nat) (aa:Int) (au:Int) (H:Hp):OA:=some ((.tup [(.int .u64 (IntKind.u64.wrap ((IntKind.u64.wrap ((IntKind.u64.wrap ((Int.fdiv aa (2 ^ (min (32:Int).toNat (IntKind.u64).bits))) * (Int.fdiv au (2 ^ (min (32:Int).toNat (IntKind.u64).bits)))))+(Int.fdiv (IntKind.u64.wrap ((IntKind.u64.wrap ((Int.fdiv aa (2 ^ (min (32:Int).toNat (IntKind.u64).bits))) * (Go.bits .and .u64 au 4294967295)))+(Int.fdiv (IntKind.u64.wrap ((Go.bits .and .u64 aa 4294967295) * (Go.bits .and .u64 au 4294967295))) (2 ^ (min (32:Int).toNat (IntKind.u64).bits))))) (2 ^ (min (32:Int).toNat (IntKind.u64).bits)))))+(Int.fdiv (IntKind.u64.wrap ((Go.bits .and .u64 (IntKind.u64.wrap ((IntKind.u64.wrap ((Int.fdiv aa (2 ^ (min (32:Int).toNat (IntKind.u64).bits))) * (Go.bits .and .u64 au 4294967295)))+(Int.fdiv (IntKind.u64.wrap ((Go.bits .and .u64 aa 4294967295) * (Go.bits .and .u64 au 4294967295))) (2 ^ (min (32:Int).toNat (IntKind.u64).bits))))) 4294967295)+(IntKind.u64.wrap ((Go.bits .and .u64 aa 4294967295) * (Int.fdiv au (2 ^ (min (32:Int).toNat (IntKind.u64).bits))))))) (2 ^ (min (32:Int).toNat (IntKind.u64).bits)))))),(.int .u64 (IntKind.u64.wrap (aa * au)))]),H)
def bits_Mul64.tw:=bits_Mul64.twX F
def mk12 (g:asC) (args:asD) (H:Hp):OA:=match args with
 | [(.int .u64 aa),(.int .u64 au)]=>g aa au H
 | _=>none
theorem mk12_E (g:asC) (aa:Int) (au:Int) (H:Hp):mk12 g [(.int .u64 aa),(.int .u64 au)] H=g aa au H:=rfl
theorem bits_Mul64.k:Ok Try.prog 139 (mk12 (bits_Mul64.tw F)):=by
 intro args H v H' h
 unfold mk12 at h
 split at h
 ·exact ok0 Try.func139 (Eq.trans (by kernel_rfl) h) (by kernel_rfl) (by kernel_rfl)
 ·cases h
def bits_Mul.twX (F:Nat) (g_bits_Mul64:asC) (aa:Int) (au:Int) (H:Hp):OA:=(g_bits_Mul64 aa au H).bind λr3=>((r3.1).asTup 2).bind λl4=>(l4[0]?).bind λv5=>((v5).asI .u64).bind λn6=>(l4[1]?).bind λv7=>((v7).asI .u64).bind λn8=>some ((.tup [(.int .u64 n6),(.int .u64 n8)]),r3.2)
def bits_Mul.tw:=bits_Mul.twX F (bits_Mul64.tw F)
def bits_Mul.cs (F:Nat) (g_bits_Mul64:asC):Cs:=[(139,mk12 g_bits_Mul64)]
theorem bits_Mul.eqX (g_bits_Mul64:asC) (aa:Int) (au:Int) (H:Hp):EX (aX (bits_Mul.cs F g_bits_Mul64)) aH lh0 F Try.f112 [(.int .u64 aa),(.int .u64 au)] H=bits_Mul.twX F g_bits_Mul64 aa au H:=by kernel_rfl
theorem bits_Mul.k:Ok Try.prog 112 (mk12 (bits_Mul.tw F)):=by
 intro args H v H' h
 unfold mk12 at h
 split at h
 ·exact okT (TB:=aH) Try.func112 (aN (bits_Mul64.k F) bt) ae.no ((bits_Mul.eqX F (bits_Mul64.tw F) _ _ H).trans h) (by kernel_rfl)
 ·cases h
def bw.l254 (F:Nat) (g_bits_Mul:asC) :Nat->Sl->Int->Hp->OA
 | 0,_,_,_=>none
 | ahk+1,oh,ue,H33=>(bif (decide (ue<(oh.n:Int))) then ((Sl.cut oh 2 ue (oh.n:Int)).bind λs37=>(Sl.cut oh 2 0 ue).bind λs38=>(Hp.cpy H33 2 s37 s38).bind λc39=>bw.l254 F g_bits_Mul ahk oh (wrap .i64 (ue+(c39.1:Int))) c39.2) else (some ((.sl oh),H33)))
def bw.j1 (g_bits_Mul:asC) (ahl:Sl) (pT:Int) (H21:Hp):OA:=(Hp.mk H21 [.int .i64 0,.int .i64 0] 16 (wrap .i64 pT) (wrap .i64 pT)).bind λm22=>(Hp.cpy m22.2 2 m22.1 ahl).bind λc23=>bw.l254 F g_bits_Mul F m22.1 (c23.1:Int) c23.2
def bw.j2 (g_bits_Mul:asC) (UA:Sl) (ug:Int) (H7:Hp):OA:=(g_bits_Mul (IntKind.u64.wrap (UA.n:Int)) (IntKind.u64.wrap ug) H7).bind λr8=>((r8.1).asTup 2).bind λl9=>(l9[0]?).bind λv10=>((v10).asI .u64).bind λn11=>(l9[1]?).bind λv12=>((v12).asI .u64).bind λn13=>(bif (decide (n11>0)) then (none) else ((bif (decide (n13>9223372036854775807)) then (none) else (bw.j1 F g_bits_Mul UA n13 r8.2))))
def bw.twX (g_bits_Mul:asC) (aa:Sl) (au:Int) (H:Hp):OA:=(bif (decide (au<0)) then (none) else (bw.j2 F g_bits_Mul aa au H))
def bw.tw:=bw.twX F (bits_Mul.tw F)
def bw.lh254 (g_bits_Mul:asC) (ks:ast) (n:Nat) (tm:Tm) (H:Hp):OA:=match ks,tm 7,tm 8 with
 | [],(.sl oh),(.int .i64 ue)=>bw.l254 F g_bits_Mul n oh ue H
 | _,_,_=>none
def bw.lh (g_bits_Mul:asC) (p:Nat) (ks:ast) (n:Nat) (tm:Tm) (H:Hp):OA:=bif p.beq 254 then bw.lh254 F g_bits_Mul ks n tm H else (none)
def bw.pn:Nat->List Nat:=cP [(9,[7])]
def bw.tb:Nat->List (List Nat):=cP [(9,[[],[],[],[1,2],[],[],[4,5],[1,2,3,4,5,6],[0,1,2,3,4,5,6,7],[0,1,2,3,4,5,6,7,8]])]
def bw.cs (F:Nat) (g_bits_Mul:asC):Cs:=[(112,mk12 g_bits_Mul)]
theorem bw.loops (g_bits_Mul:asC):LO (aX (bw.cs F g_bits_Mul)) bw.pn (bw.lh F g_bits_Mul) F Try.f100:=
 (ae.rt (ae.rt (ae.rt (ae.rt (ae.rt (ae.rt (ae.lt (ae.block (ae.la (λn tm H r h=>by change bw.lh254 F g_bits_Mul [] n tm H=_ at h;unfold bw.lh254 at h;split at h;have e:bD tm [(7,_),(8,_)]:=⟨‹_›,‹_›,trivial⟩;obtain _ | k254:=n;cases h;exact ⟨_,rfl,by rw [<- bH e];exact Eq.trans (by kernel_rfl) h⟩;cases h) λk254=>ae.no)))))))))
theorem bw.eqX (g_bits_Mul:asC) (aa:Sl) (au:Int) (H:Hp):EX (aX (bw.cs F g_bits_Mul)) bw.pn (bw.lh F g_bits_Mul) F Try.f100 [(.sl aa),(.int .i64 au)] H=bw.twX F g_bits_Mul aa au H:=by kernel_rfl
theorem bw.k:Ok Try.prog 100 (mk0 (bw.tw F)):=by
 intro args H v H' h
 unfold mk0 at h
 split at h
 ·exact okT (TB:=bw.tb) Try.func100 (aN (bits_Mul.k F) bt) (bw.loops F (bits_Mul.tw F)) ((bw.eqX F (bits_Mul.tw F) _ _ H).trans h) (by kernel_rfl)
 ·cases h
def dZ.twX (F:Nat) (aa:Int) (af:Int) (bX:Int) (bY:Int) (bN:Int) (H:Hp):OA:=(Hp.new H [(.int .i64 aa),(.int .i64 af),(.int .i64 bX),(.int .i64 bY),(.int .i64 bN)]).bind λH6=>(Hp.new H6 [.int .i64 0,.int .i64 0,.int .i64 0,.int .i64 0]).bind λH7=>(Hp.ldI H7 .i64 H.length 0).bind λn8=>(Hp.ldI H7 .i64 H.length 1).bind λn9=>(Hp.ldI H7 .i64 H.length 2).bind λn10=>(Hp.ldI H7 .i64 H.length 3).bind λn11=>(Hp.st H7 H6.length 0 (.int .i64 n8)).bind λH12=>(Hp.st H12 H6.length (0+1) (.int .i64 n9)).bind λH13=>(Hp.st H13 H6.length (0+1+1) (.int .i64 n10)).bind λH14=>(Hp.st H14 H6.length (0+1+1+1) (.int .i64 n11)).bind λH15=>(Hp.ldI H15 .i64 H6.length 0).bind λn16=>(Hp.ldI H15 .i64 H6.length (0+1)).bind λn17=>(Hp.ldI H15 .i64 H6.length (0+2)).bind λn18=>(Hp.ldI H15 .i64 H6.length (0+3)).bind λn19=>some ((.agg [(.int .i64 n16),(.int .i64 n17),(.int .i64 n18),(.int .i64 n19)]),H15)
def dZ.tw:=dZ.twX F
theorem dZ.k:Ok Try.prog 101 (mk2 (dZ.tw F)):=by
 intro args H v H' h
 unfold mk2 at h
 split at h
 ·exact ok0 Try.func101 (Eq.trans (by kernel_rfl) h) (by kernel_rfl) (by kernel_rfl)
 ·cases h
def d_.twX (F:Nat) (aa:Int) (af:Int) (bX:Int) (bY:Int) (bN:Int) (cH:Int) (H:Hp):OA:=(Hp.new H [(.int .i64 aa),(.int .i64 af),(.int .i64 bX),(.int .i64 bY),(.int .i64 bN)]).bind λH7=>(bif (cH==0) then (some ((.bool true),H7)) else ((Hp.ldI H7 .i64 H.length 4).bind λn8=>some ((.bool (cH==(wrap .i64 (2+n8)))),H7)))
def d_.tw:=d_.twX F
theorem d_.k:Ok Try.prog 102 (mk6 (d_.tw F)):=by
 intro args H v H' h
 unfold mk6 at h
 split at h
 ·exact ok0 Try.func102 (Eq.trans (by kernel_rfl) h) (by kernel_rfl) (by kernel_rfl)
 ·cases h
def fZ.twX (F:Nat) (aa:Sl) (H:Hp):OA:=some ((.int .i64 (aa.n:Int)),H)
def fZ.tw:=fZ.twX F
theorem fZ.k:Ok Try.prog 131 (mk3 (fZ.tw F)):=by
 intro args H v H' h
 unfold mk3 at h
 split at h
 ·exact ok0 Try.func131 (Eq.trans (by kernel_rfl) h) (by kernel_rfl) (by kernel_rfl)
 ·cases h
def dM.twX (F:Nat) (uh:asq) (fG:asA) (aa:Sl) (au:Int) (H:Hp):OA:=(uh aa H).bind λr3=>((r3.1).asI .i64).bind λn4=>(fG au 0 (wrap .i64 (n4 - 1)) r3.2).bind λr5=>((r5.1).asB).bind λb6=>some ((.bool b6),r5.2)
def dM.tw:=dM.twX F (fZ.tw F) (dy.tw F)
def dM.cs (F:Nat) (uh:asq) (fG:asA):Cs:=[(131,mk3 uh),(63,mk5 fG)]
theorem dM.eqX (uh:asq) (fG:asA) (aa:Sl) (au:Int) (H:Hp):EX (aX (dM.cs F uh fG)) aH lh0 F Try.f103 [(.sl aa),(.int .i64 au)] H=dM.twX F uh fG aa au H:=by kernel_rfl
theorem dM.k:Ok Try.prog 103 (mk0 (dM.tw F)):=by
 intro args H v H' h
 unfold mk0 at h
 split at h
 ·exact okT (TB:=aH) Try.func103 (aN (fZ.k F) (aN (dy.k F) bt)) ae.no ((dM.eqX F (fZ.tw F) (dy.tw F) _ _ H).trans h) (by kernel_rfl)
 ·cases h
def bf.l3931 (F:Nat) (eb:aso) (dl:asF) (dp:asw) (ed:aso) (C61_:ats):Nat->Nat->Nat->Nat->Nat->Sl->Int->Int->Nat->Nat->Int->Int->Int->Int->Int->Int->Hp->OA
 | 0,_,_,_,_,_,_,_,_,_,_,_,_,_,_,_,_=>none
 | UB+1,eM,fy,f_,iw,xh,jy,jz,jA,mX,iy,fH,fI,fJ,fK,dD,H233=>(bif (decide (dD<4)) then ((if 0<=dD/\dD<(4:Int) then (([(.int .i64 fH),(.int .i64 fI),(.int .i64 fJ),(.int .i64 fK)]:List AV)[(dD:Int).toNat * 1]?).bind λv283=>((v283).asI .i64).bind λn284=>(Hp.ldSl H233 f_ iw).bind λs285=>(Hp.ldI H233 .i64 jA mX).bind λn286=>(Hp.ldI H233 .i64 jA (mX+1)).bind λn287=>(Hp.ldI H233 .i64 jA (mX+2)).bind λn288=>(Hp.ldI H233 .i64 jA (mX+3)).bind λn289=>(Hp.ldI H233 .i64 jA (mX+4)).bind λn290=>(dp n286 n287 n288 n289 n290 dD H233).bind λr291=>((r291.1).asB).bind λb292=>(bif b292 then ((Hp.ldSl r291.2 f_ (iw+1)).bind λs293=>(ed s293 n284 r291.2).bind λr294=>((r294.1).asB).bind λb295=>(bif (!b295) then ((Hp.ldSl r294.2 f_ iw).bind λs296=>(Hp.ldSl r294.2 f_ (iw+1)).bind λs297=>(Hp.st r294.2 eM fy (.sl s296)).bind λH298=>(Hp.st H298 eM (fy+1) (.sl s297)).bind λH299=>(Hp.ldSl H299 eM fy).bind λs300=>(Hp.ldSl H299 eM (fy+1)).bind λs301=>some ((.tup [(.agg [(.sl s300),(.sl s301)]),(.bool false)]),H299)) else ((Sl.idx s293 n284 2).bind λp302=>(Hp.ldI r294.2 .i64 p302.1 p302.2).bind λn303=>(bif (decide (n303>=0)) then ((Hp.ldSl r294.2 f_ iw).bind λs304=>(Hp.ldSl r294.2 f_ (iw+1)).bind λs305=>(Hp.st r294.2 eM fy (.sl s304)).bind λH306=>(Hp.st H306 eM (fy+1) (.sl s305)).bind λH307=>(Hp.ldSl H307 eM fy).bind λs308=>(Hp.ldSl H307 eM (fy+1)).bind λs309=>some ((.tup [(.agg [(.sl s308),(.sl s309)]),(.bool false)]),H307)) else ((Sl.idx s293 n284 2).bind λp310=>(Hp.st r294.2 p310.1 p310.2 (.int .i64 iy)).bind λH311=>(Hp.st H311 p310.1 (p310.2+1) (.int .i64 dD)).bind λH312=>bf.l3931 F eb dl dp ed C61_ UB eM fy f_ iw xh jy jz jA mX iy fH fI fJ fK (wrap .i64 (dD+1)) H312))))) else ((ed s285 n284 r291.2).bind λr313=>((r313.1).asB).bind λb314=>(bif (!b314) then ((Hp.ldSl r313.2 f_ iw).bind λs315=>(Hp.ldSl r313.2 f_ (iw+1)).bind λs316=>(Hp.st r313.2 eM fy (.sl s315)).bind λH317=>(Hp.st H317 eM (fy+1) (.sl s316)).bind λH318=>(Hp.ldSl H318 eM fy).bind λs319=>(Hp.ldSl H318 eM (fy+1)).bind λs320=>some ((.tup [(.agg [(.sl s319),(.sl s320)]),(.bool false)]),H318)) else ((Sl.idx s285 n284 2).bind λp321=>(Hp.ldI r313.2 .i64 p321.1 p321.2).bind λn322=>(bif (decide (n322>=0)) then ((Hp.ldSl r313.2 f_ iw).bind λs323=>(Hp.ldSl r313.2 f_ (iw+1)).bind λs324=>(Hp.st r313.2 eM fy (.sl s323)).bind λH325=>(Hp.st H325 eM (fy+1) (.sl s324)).bind λH326=>(Hp.ldSl H326 eM fy).bind λs327=>(Hp.ldSl H326 eM (fy+1)).bind λs328=>some ((.tup [(.agg [(.sl s327),(.sl s328)]),(.bool false)]),H326)) else ((Sl.idx s285 n284 2).bind λp329=>(Hp.st r313.2 p329.1 p329.2 (.int .i64 iy)).bind λH330=>(Hp.st H330 p329.1 (p329.2+1) (.int .i64 dD)).bind λH331=>bf.l3931 F eb dl dp ed C61_ UB eM fy f_ iw xh jy jz jA mX iy fH fI fJ fK (wrap .i64 (dD+1)) H331)))))) else none)) else (C61_ eM fy f_ iw xh jy (wrap .i64 (jz+1)) H233))
termination_by structural n=>n
def bf.l61 (F:Nat) (eb:aso) (dl:asF) (dp:asw) (ed:aso) :Nat->Nat->Nat->Nat->Nat->Sl->Int->Int->Hp->OA
 | 0,_,_,_,_,_,_,_,_=>none
 | bQ+1,fd,iz,mY,fv,BC,kE,iA,H29=>(bif (decide (iA<kE)) then ((Sl.idx BC iA 5).bind λp184=>(Hp.ldI H29 .i64 p184.1 p184.2).bind λn185=>(Hp.ldI H29 .i64 p184.1 (p184.2+1)).bind λn186=>(Hp.ldI H29 .i64 p184.1 (p184.2+2)).bind λn187=>(Hp.ldI H29 .i64 p184.1 (p184.2+3)).bind λn188=>(Hp.ldI H29 .i64 p184.1 (p184.2+4)).bind λn189=>(Hp.new H29 [.int .i64 0,.int .i64 0,.int .i64 0,.int .i64 0,.int .i64 0]).bind λH190=>(Hp.st H190 H29.length 0 (.int .i64 n185)).bind λH191=>(Hp.st H191 H29.length (0+1) (.int .i64 n186)).bind λH192=>(Hp.st H192 H29.length (0+1+1) (.int .i64 n187)).bind λH193=>(Hp.st H193 H29.length (0+1+1+1) (.int .i64 n188)).bind λH194=>(Hp.st H194 H29.length (0+1+1+1+1) (.int .i64 n189)).bind λH195=>(Hp.ldI H195 .i64 H29.length 0).bind λn196=>(Hp.ldI H195 .i64 H29.length (0+1)).bind λn197=>(Hp.ldI H195 .i64 H29.length (0+2)).bind λn198=>(Hp.ldI H195 .i64 H29.length (0+3)).bind λn199=>(Hp.ldI H195 .i64 H29.length (0+4)).bind λn200=>(dl n196 n197 n198 n199 n200 H195).bind λr201=>((r201.1).asAgg 4).bind λl202=>(l202[0]?).bind λv203=>((v203).asI .i64).bind λn204=>(l202[1]?).bind λv205=>((v205).asI .i64).bind λn206=>(l202[2]?).bind λv207=>((v207).asI .i64).bind λn208=>(l202[3]?).bind λv209=>((v209).asI .i64).bind λn210=>bf.l3931 F eb dl dp ed (bf.l61 F eb dl dp ed bQ) F fd iz mY fv BC kE iA H29.length 0 iA n204 n206 n208 n210 0 r201.2) else ((Hp.ldSl H29 mY fv).bind λs332=>(Hp.ldSl H29 mY (fv+1)).bind λs333=>(Hp.st H29 fd iz (.sl s332)).bind λH334=>(Hp.st H334 fd (iz+1) (.sl s333)).bind λH335=>(Hp.ldSl H335 fd iz).bind λs336=>(Hp.ldSl H335 fd (iz+1)).bind λs337=>some ((.tup [(.agg [(.sl s336),(.sl s337)]),(.bool true)]),H335)))
termination_by structural n=>n
def bf.twX (eb:aso) (dl:asF) (dp:asw) (ed:aso) (aa:Sl) (af:Int) (H:Hp):OA:=(Hp.new H [(.sl aa),(.int .i64 af)]).bind λH3=>(Hp.new H3 [.sl ⟨none,0,.ex 0⟩,.sl ⟨none,0,.ex 0⟩]).bind λH4=>(Hp.ldSl H4 H.length 0).bind λs5=>(Hp.new H4 [(.int .i64 (-1)),(.int .i64 0)]).bind λH6=>(eb (⟨some (H4.length,0),1,.ex 1⟩:Sl) (wrap .i64 (2 * (s5.n:Int))) H6).bind λr7=>((r7.1).asSl).bind λs8=>(Hp.new r7.2 [(.int .i64 (-1)),(.int .i64 0)]).bind λH9=>(eb (⟨some (r7.2.length,0),1,.ex 1⟩:Sl) (wrap .i64 (2 * (s5.n:Int))) H9).bind λr10=>((r10.1).asSl).bind λs11=>(Hp.new r10.2 [.sl ⟨none,0,.ex 0⟩,.sl ⟨none,0,.ex 0⟩]).bind λH12=>(Hp.st H12 r10.2.length 0 (.sl s8)).bind λH13=>(Hp.st H13 r10.2.length (0+1) (.sl s11)).bind λH14=>(Hp.ldSl H14 H.length 0).bind λs15=>bf.l61 F eb dl dp ed F H3.length 0 r10.2.length 0 s15 (s15.n:Int) 0 H14
def bf.tw:=bf.twX F (bw.tw F) (dZ.tw F) (d_.tw F) (dM.tw F)
def bf.lh61 (eb:aso) (dl:asF) (dp:asw) (ed:aso) (ks:ast) (n:Nat) (tm:Tm) (H:Hp):OA:=match ks,tm 2,tm 5,tm 25,tm 26,tm 27 with
 | [],(.ptr fd iz),(.ptr mY fv),(.sl BC),(.int .i64 kE),(.int .i64 iA)=>bf.l61 F eb dl dp ed n fd iz mY fv BC kE iA H
 | _,_,_,_,_,_=>none
def bf.lh3931 (eb:aso) (dl:asF) (dp:asw) (ed:aso) (ks:ast) (n:Nat) (tm:Tm) (H:Hp):OA:=match ks,tm 2,tm 5,tm 6,tm 7,tm 25,tm 26,tm 27,tm 33,tm 34 with
 | [bQ],(.ptr eM fy),(.ptr f_ iw),(.int .i64 iy),(.ptr jA mX),(.sl xh),(.int .i64 jy),(.int .i64 jz),(.agg [(.int .i64 fH),(.int .i64 fI),(.int .i64 fJ),(.int .i64 fK)]),(.int .i64 dD)=>bf.l3931 F eb dl dp ed (bf.l61 F eb dl dp ed bQ) n eM fy f_ iw xh jy jz jA mX iy fH fI fJ fK dD H
 | _,_,_,_,_,_,_,_,_,_=>none
def bf.lh (eb:aso) (dl:asF) (dp:asw) (ed:aso) (p:Nat) (ks:ast) (n:Nat) (tm:Tm) (H:Hp):OA:=bif p.beq 3931 then bf.lh3931 F eb dl dp ed ks n tm H else (bif p.beq 61 then bf.lh61 F eb dl dp ed ks n tm H else (none))
def bf.cs (F:Nat) (eb:aso) (dl:asF) (dp:asw) (ed:aso):Cs:=[(100,mk0 eb),(101,mk2 dl),(102,mk6 dp),(103,mk0 ed)]
theorem bf.loops (eb:aso) (dl:asF) (dp:asw) (ed:aso):LO (aX (bf.cs F eb dl dp ed)) aH (bf.lh F eb dl dp ed) F Try.f66:=
 (ae.rt (ae.rt (ae.rt (ae.lt (ae.rt (ae.block (ae.la (λn tm H r h=>by change bf.lh61 F eb dl dp ed [] n tm H=_ at h;unfold bf.lh61 at h;split at h;have e:bD tm [(2,_),(5,_),(25,_),(26,_),(27,_)]:=⟨‹_›,‹_›,‹_›,‹_›,‹_›,trivial⟩;obtain _ | k61:=n;cases h;exact ⟨_,rfl,by rw [<- bH e];exact Eq.trans (by kernel_rfl) h⟩;cases h) λk61=>(ae.rt (ae.rt (ae.lt (ae.block (ae.rt (ae.rt (ae.block (ae.la (λn tm H r h=>by change bf.lh3931 F eb dl dp ed [k61] n tm H=_ at h;unfold bf.lh3931 at h;split at h;have e:bD tm [(2,_),(5,_),(6,_),(7,_),(25,_),(26,_),(27,_),(33,_),(34,_)]:=⟨‹_›,‹_›,‹_›,‹_›,‹_›,‹_›,‹_›,‹_›,‹_›,trivial⟩;cases (show [k61]=_ from ‹_›);obtain _ | k3931:=n;cases h;exact ⟨_,rfl,by rw [<- bH e];exact Eq.trans (by kernel_rfl) h⟩;cases h) λk3931=>ae.no)))))))))))))))
theorem bf.eqX (eb:aso) (dl:asF) (dp:asw) (ed:aso) (aa:Sl) (af:Int) (H:Hp):EX (aX (bf.cs F eb dl dp ed)) aH (bf.lh F eb dl dp ed) F Try.f66 [(.agg [(.sl aa),(.int .i64 af)])] H=bf.twX F eb dl dp ed aa af H:=by kernel_rfl
theorem bf.k:Ok Try.prog 66 (mk4 (bf.tw F)):=by
 intro args H v H' h
 unfold mk4 at h
 split at h
 ·exact okT (TB:=aH) Try.func66 (aN (bw.k F) (aN (dZ.k F) (aN (d_.k F) (aN (dM.k F) bt)))) (bf.loops F (bw.tw F) (dZ.tw F) (d_.tw F) (dM.tw F)) ((bf.eqX F (bw.tw F) (dZ.tw F) (d_.tw F) (dM.tw F) _ _ H).trans h) (by kernel_rfl)
 ·cases h
def dq.twX (F:Nat) (dl:asF) (dp:asw) (aa:Sl) (af:Int) (ar:Sl) (bj:Sl) (je:Int) (ga:Int) (H:Hp):OA:=(Hp.new H [(.sl aa),(.int .i64 af)]).bind λH7=>(Hp.new H7 [(.sl ar),(.sl bj)]).bind λH8=>(Hp.new H8 [(.int .i64 je),(.int .i64 ga)]).bind λH9=>(Hp.new H9 [.int .i64 0,.int .i64 0]).bind λH10=>(Hp.ldSl H10 H.length 0).bind λs11=>(Hp.ldI H10 .i64 H8.length 0).bind λn12=>(Sl.idx s11 n12 5).bind λp13=>(Hp.ldI H10 .i64 p13.1 p13.2).bind λn14=>(Hp.ldI H10 .i64 p13.1 (p13.2+1)).bind λn15=>(Hp.ldI H10 .i64 p13.1 (p13.2+2)).bind λn16=>(Hp.ldI H10 .i64 p13.1 (p13.2+3)).bind λn17=>(Hp.ldI H10 .i64 p13.1 (p13.2+4)).bind λn18=>(Hp.new H10 [.int .i64 0,.int .i64 0,.int .i64 0,.int .i64 0,.int .i64 0]).bind λH19=>(Hp.st H19 H10.length 0 (.int .i64 n14)).bind λH20=>(Hp.st H20 H10.length (0+1) (.int .i64 n15)).bind λH21=>(Hp.st H21 H10.length (0+1+1) (.int .i64 n16)).bind λH22=>(Hp.st H22 H10.length (0+1+1+1) (.int .i64 n17)).bind λH23=>(Hp.st H23 H10.length (0+1+1+1+1) (.int .i64 n18)).bind λH24=>(Hp.ldI H24 .i64 H10.length 0).bind λn25=>(Hp.ldI H24 .i64 H10.length (0+1)).bind λn26=>(Hp.ldI H24 .i64 H10.length (0+2)).bind λn27=>(Hp.ldI H24 .i64 H10.length (0+3)).bind λn28=>(Hp.ldI H24 .i64 H10.length (0+4)).bind λn29=>(dl n25 n26 n27 n28 n29 H24).bind λr30=>((r30.1).asAgg 4).bind λl31=>(l31[0]?).bind λv32=>((v32).asI .i64).bind λn33=>(l31[1]?).bind λv34=>((v34).asI .i64).bind λn35=>(l31[2]?).bind λv36=>((v36).asI .i64).bind λn37=>(l31[3]?).bind λv38=>((v38).asI .i64).bind λn39=>(if aZ H24 r30.2 then ((Hp.ldI r30.2 .i64 H8.length 1).bind λn40=>(if 0<=n40/\n40<(4:Int) then (([(.int .i64 n33),(.int .i64 n35),(.int .i64 n37),(.int .i64 n39)]:List AV)[(n40:Int).toNat * 1]?).bind λv41=>((v41).asI .i64).bind λn42=>(Hp.ldI r30.2 .i64 H10.length 0).bind λn43=>(Hp.ldI r30.2 .i64 H10.length (0+1)).bind λn44=>(Hp.ldI r30.2 .i64 H10.length (0+2)).bind λn45=>(Hp.ldI r30.2 .i64 H10.length (0+3)).bind λn46=>(Hp.ldI r30.2 .i64 H10.length (0+4)).bind λn47=>(Hp.ldI r30.2 .i64 H8.length 1).bind λn48=>(dp n43 n44 n45 n46 n47 n48 r30.2).bind λr49=>((r49.1).asB).bind λb50=>(bif b50 then ((Hp.ldSl r49.2 H7.length 0).bind λs51=>(Sl.idx s51 n42 2).bind λp52=>(Hp.ldI r49.2 .i64 p52.1 p52.2).bind λn53=>(Hp.ldI r49.2 .i64 p52.1 (p52.2+1)).bind λn54=>(Hp.st r49.2 H9.length 0 (.int .i64 n53)).bind λH55=>(Hp.st H55 H9.length (0+1) (.int .i64 n54)).bind λH56=>(Hp.ldI H56 .i64 H9.length 0).bind λn57=>(Hp.ldI H56 .i64 H9.length (0+1)).bind λn58=>some ((.agg [(.int .i64 n57),(.int .i64 n58)]),H56)) else ((Hp.ldSl r49.2 H7.length 1).bind λs59=>(Sl.idx s59 n42 2).bind λp60=>(Hp.ldI r49.2 .i64 p60.1 p60.2).bind λn61=>(Hp.ldI r49.2 .i64 p60.1 (p60.2+1)).bind λn62=>(Hp.st r49.2 H9.length 0 (.int .i64 n61)).bind λH63=>(Hp.st H63 H9.length (0+1) (.int .i64 n62)).bind λH64=>(Hp.ldI H64 .i64 H9.length 0).bind λn65=>(Hp.ldI H64 .i64 H9.length (0+1)).bind λn66=>some ((.agg [(.int .i64 n65),(.int .i64 n66)]),H64))) else none)) else none)
def dq.tw:=dq.twX F (dZ.tw F) (d_.tw F)
def dq.tb:Nat->List (List Nat):=cP [(2,[[],[0],[],[2],[0,1,2,3],[0,1,2,3,4]])]
def mk13 (g:asQ) (args:asD) (H:Hp):OA:=match args with
 | [(.agg [(.sl aa),(.int .i64 af)]),(.agg [(.sl ar),(.sl bj)]),(.agg [(.int .i64 je),(.int .i64 ga)])]=>g aa af ar bj je ga H
 | _=>none
theorem mk13_E (g:asQ) (aa:Sl) (af:Int) (ar:Sl) (bj:Sl) (je:Int) (ga:Int) (H:Hp):mk13 g [(.agg [(.sl aa),(.int .i64 af)]),(.agg [(.sl ar),(.sl bj)]),(.agg [(.int .i64 je),(.int .i64 ga)])] H=g aa af ar bj je ga H:=rfl
def dq.cs (F:Nat) (dl:asF) (dp:asw):Cs:=[(101,mk2 dl),(102,mk6 dp)]
theorem dq.eqX (dl:asF) (dp:asw) (aa:Sl) (af:Int) (ar:Sl) (bj:Sl) (je:Int) (ga:Int) (H:Hp):EX (aX (dq.cs F dl dp)) aH lh0 F Try.f104 [(.agg [(.sl aa),(.int .i64 af)]),(.agg [(.sl ar),(.sl bj)]),(.agg [(.int .i64 je),(.int .i64 ga)])] H=dq.twX F dl dp aa af ar bj je ga H:=by kernel_rfl
theorem dq.k:Ok Try.prog 104 (mk13 (dq.tw F)):=by
 intro args H v H' h
 unfold mk13 at h
 split at h
 ·exact okT (TB:=dq.tb) Try.func104 (aN (dZ.k F) (aN (d_.k F) bt)) ae.no ((dq.eqX F (dZ.tw F) (d_.tw F) _ _ _ _ _ _ H).trans h) (by kernel_rfl)
 ·cases h
def aM.j4 (F:Nat) (du:asQ) (C61_:asY) (BD:Nat) (ahm:Nat) (BE:Nat) (ahn:Nat) (aho:Sl) (ahp:Sl) (ui:Int) (uj:Int) (H248:Hp):OA:=C61_ BD ahm BE ahn aho ahp ui (wrap .i64 (uj+1)) H248
def aM.j5 (du:asQ) (C61_:asY) (BF:Nat) (ahq:Nat) (sE:Nat) (ahr:Nat) (nL:Sl) (ahs:Sl) (uk:Int) (ul:Int) (H228:Hp):OA:=aM.j4 F du C61_ BF ahq sE ahr nL ahs uk ul H228
def aM.j6 (du:asQ) (C61_:asY) (xi:Nat) (UC:Nat) (xj:Nat) (UD:Nat) (UE:Sl) (UG:Sl) (UH:Sl) (ol:Int) (om:Int) (H205:Hp):OA:=(bif (decide ((UH.n:Int)>0)) then ((Hp.new H205 [(.sl UH)]).bind λH206=>(Sl.row H206 (⟨some (H205.length,0),1,.ex 1⟩:Sl) 1).bind λxs208=>(Hp.app H206 1 24 UE (⟨some (H205.length,0),1,.ex 1⟩:Sl).n xs208).bind λa207=>aM.j5 F du C61_ xi UC xj UD a207.1 UG ol om a207.2) else (aM.j5 F du C61_ xi UC xj UD UE UG ol om H205))
def aM.l15725 (F:Nat) (du:asQ) (C61_:asY):Nat->Nat->Nat->Nat->Nat->Sl->Sl->Int->Int->Sl->Int->Hp->OA
 | 0,_,_,_,_,_,_,_,_,_,_,_=>none
 | Hl+1,mf,um,mg,un,BG,uo,kF,kG,BH,gb,H164=>(Sl.idx uo gb 1).bind λp249=>(Hp.ldB H164 p249.1 p249.2).bind λb250=>(bif (!b250) then ((Sl.idx uo gb 1).bind λp251=>(Hp.st H164 p251.1 p251.2 (.bool true)).bind λH252=>(Hp.new H252 [(.int .i64 gb)]).bind λH253=>(Sl.row H253 (⟨some (H252.length,0),1,.ex 1⟩:Sl) 1).bind λxs255=>(Hp.app H253 1 8 BH (⟨some (H252.length,0),1,.ex 1⟩:Sl).n xs255).bind λa254=>(Hp.ldSl a254.2 mf um).bind λs256=>(Hp.ldI a254.2 .i64 mf (um+1)).bind λn257=>(Hp.ldSl a254.2 mg un).bind λs258=>(Hp.ldSl a254.2 mg (un+1)).bind λs259=>(du s256 n257 s258 s259 (wrap .i64 (Int.tdiv gb 4)) (Int.tmod (wrap .i64 (gb+1)) 4) a254.2).bind λr260=>((r260.1).asAgg 2).bind λl261=>(l261[0]?).bind λv262=>((v262).asI .i64).bind λn263=>(l261[1]?).bind λv264=>((v264).asI .i64).bind λn265=>(Hp.new r260.2 [.int .i64 0,.int .i64 0]).bind λH266=>(Hp.st H266 r260.2.length 0 (.int .i64 n263)).bind λH267=>(Hp.st H267 r260.2.length (0+1) (.int .i64 n265)).bind λH268=>(Hp.ldI H268 .i64 r260.2.length 0).bind λn269=>(Hp.ldI H268 .i64 r260.2.length 1).bind λn270=>aM.l15725 F du C61_ Hl mf um mg un BG uo kF kG a254.1 (wrap .i64 ((wrap .i64 (4 * n269))+n270)) H268) else (aM.j6 F du C61_ mf um mg un BG uo BH kF kG H164))
termination_by structural n=>n
def aM.l61 (F:Nat) (du:asQ) :Nat->Nat->Nat->Nat->Nat->Sl->Sl->Int->Int->Hp->OA
 | 0,_,_,_,_,_,_,_,_,_=>none
 | bQ+1,pU,jZ,pV,fz,hP,Hm,hQ,eN,H22=>(bif (decide (eN<hQ)) then (aM.l15725 F du (aM.l61 F du bQ) F pU jZ pV fz hP Hm hQ eN (⟨none,0,.ex 0⟩:Sl) eN H22) else (some ((.sl hP),H22)))
termination_by structural n=>n
def aM.twX (du:asQ) (aa:Sl) (af:Int) (ar:Sl) (bj:Sl) (H:Hp):OA:=(Hp.new H [(.sl aa),(.int .i64 af)]).bind λH5=>(Hp.new H5 [(.sl ar),(.sl bj)]).bind λH6=>(Hp.ldSl H6 H.length 0).bind λs7=>(Hp.mk H6 [.bool false] 1 (wrap .i64 (4 * (s7.n:Int))) (wrap .i64 (4 * (s7.n:Int)))).bind λm8=>aM.l61 F du F H.length 0 H5.length 0 (⟨none,0,.ex 0⟩:Sl) m8.1 (m8.1.n:Int) 0 m8.2
def aM.tw:=aM.twX F (dq.tw F)
def aM.lh61 (du:asQ) (ks:ast) (n:Nat) (tm:Tm) (H:Hp):OA:=match ks,tm 2,tm 3,tm 5,tm 6,tm 17,tm 18 with
 | [],(.ptr pU jZ),(.ptr pV fz),(.sl hP),(.sl Hm),(.int .i64 hQ),(.int .i64 eN)=>aM.l61 F du n pU jZ pV fz hP Hm hQ eN H
 | _,_,_,_,_,_,_=>none
def aM.lh15725 (du:asQ) (ks:ast) (n:Nat) (tm:Tm) (H:Hp):OA:=match ks,tm 2,tm 3,tm 5,tm 6,tm 8,tm 9,tm 17,tm 18 with
 | [bQ],(.ptr mf um),(.ptr mg un),(.sl BG),(.sl uo),(.sl BH),(.int .i64 gb),(.int .i64 kF),(.int .i64 kG)=>aM.l15725 F du (aM.l61 F du bQ) n mf um mg un BG uo kF kG BH gb H
 | _,_,_,_,_,_,_,_,_=>none
def aM.lh (du:asQ) (p:Nat) (ks:ast) (n:Nat) (tm:Tm) (H:Hp):OA:=bif p.beq 15725 then aM.lh15725 F du ks n tm H else (bif p.beq 61 then aM.lh61 F du ks n tm H else (none))
def mk14 (g:as2) (args:asD) (H:Hp):OA:=match args with
 | [(.agg [(.sl aa),(.int .i64 af)]),(.agg [(.sl ar),(.sl bj)])]=>g aa af ar bj H
 | _=>none
theorem mk14_E (g:as2) (aa:Sl) (af:Int) (ar:Sl) (bj:Sl) (H:Hp):mk14 g [(.agg [(.sl aa),(.int .i64 af)]),(.agg [(.sl ar),(.sl bj)])] H=g aa af ar bj H:=rfl
def aM.cs (F:Nat) (du:asQ):Cs:=[(104,mk13 du)]
theorem aM.loops (du:asQ):LO (aX (aM.cs F du)) aH (aM.lh F du) F Try.f68:=
 (ae.rt (ae.rt (ae.rt (ae.lt (ae.rt (ae.block (ae.la (λn tm H r h=>by change aM.lh61 F du [] n tm H=_ at h;unfold aM.lh61 at h;split at h;have e:bD tm [(2,_),(3,_),(5,_),(6,_),(17,_),(18,_)]:=⟨‹_›,‹_›,‹_›,‹_›,‹_›,‹_›,trivial⟩;obtain _ | k61:=n;cases h;exact ⟨_,rfl,by rw [<- bH e];exact Eq.trans (by kernel_rfl) h⟩;cases h) λk61=>(ae.rt (ae.rt (ae.lt (ae.block (ae.rt (ae.rt (ae.lt (ae.rt (ae.block (ae.la (λn tm H r h=>by change aM.lh15725 F du [k61] n tm H=_ at h;unfold aM.lh15725 at h;split at h;have e:bD tm [(2,_),(3,_),(5,_),(6,_),(8,_),(9,_),(17,_),(18,_)]:=⟨‹_›,‹_›,‹_›,‹_›,‹_›,‹_›,‹_›,‹_›,trivial⟩;cases (show [k61]=_ from ‹_›);obtain _ | k15725:=n;cases h;exact ⟨_,rfl,by rw [<- bH e];exact Eq.trans (by kernel_rfl) h⟩;cases h) λk15725=>ae.no)))))))))))))))))
theorem aM.eqX (du:asQ) (aa:Sl) (af:Int) (ar:Sl) (bj:Sl) (H:Hp):EX (aX (aM.cs F du)) aH (aM.lh F du) F Try.f68 [(.agg [(.sl aa),(.int .i64 af)]),(.agg [(.sl ar),(.sl bj)])] H=aM.twX F du aa af ar bj H:=by kernel_rfl
theorem aM.k:Ok Try.prog 68 (mk14 (aM.tw F)):=by
 intro args H v H' h
 unfold mk14 at h
 split at h
 ·exact okT (TB:=aH) Try.func68 (aN (dq.k F) bt) (aM.loops F (dq.tw F)) ((aM.eqX F (dq.tw F) _ _ _ _ H).trans h) (by kernel_rfl)
 ·cases h
def gc.twX (F:Nat) (aa:Sl) (H:Hp):OA:=some ((.int .i64 (aa.n:Int)),H)
def gc.tw:=gc.twX F
theorem gc.k:Ok Try.prog 67 (mk3 (gc.tw F)):=by
 intro args H v H' h
 unfold mk3 at h
 split at h
 ·exact ok0 Try.func67 (Eq.trans (by kernel_rfl) h) (by kernel_rfl) (by kernel_rfl)
 ·cases h
def bR.l29 (F:Nat) :Nat->Sl->Int->Int->Hp->OA
 | 0,_,_,_,_=>none
 | gG+1,BI,kH,iB,H7=>(bif (decide (iB<kH)) then ((Hp.new H7 [(.int .i64 iB)]).bind λH11=>(Sl.row H11 (⟨some (H7.length,0),1,.ex 1⟩:Sl) 1).bind λxs13=>(Hp.app H11 1 8 BI (⟨some (H7.length,0),1,.ex 1⟩:Sl).n xs13).bind λa12=>bR.l29 F gG a12.1 kH (wrap .i64 (iB+1)) a12.2) else (some ((.sl BI),H7)))
def bR.twX (aa:Int) (H:Hp):OA:=bR.l29 F F (⟨none,0,.ex 0⟩:Sl) aa 0 H
def bR.tw:=bR.twX F
def bR.lh29 (ks:ast) (n:Nat) (tm:Tm) (H:Hp):OA:=match ks,tm 3,tm 5,tm 6 with
 | [],(.sl BI),(.int .i64 kH),(.int .i64 iB)=>bR.l29 F n BI kH iB H
 | _,_,_,_=>none
def bR.lh (p:Nat) (ks:ast) (n:Nat) (tm:Tm) (H:Hp):OA:=bif p.beq 29 then bR.lh29 F ks n tm H else (none)
def mk15 (g:asx) (args:asD) (H:Hp):OA:=match args with
 | [(.int .i64 aa)]=>g aa H
 | _=>none
theorem mk15_E (g:asx) (aa:Int) (H:Hp):mk15 g [(.int .i64 aa)] H=g aa H:=rfl
theorem bR.loops:LO (aX []) aH (bR.lh F) F Try.f106:=
 (ae.rt (ae.rt (ae.lt (ae.rt (ae.block (ae.la (λn tm H r h=>by change bR.lh29 F [] n tm H=_ at h;unfold bR.lh29 at h;split at h;have e:bD tm [(3,_),(5,_),(6,_)]:=⟨‹_›,‹_›,‹_›,trivial⟩;obtain _ | k29:=n;cases h;exact ⟨_,rfl,by rw [<- bH e];exact Eq.trans (by kernel_rfl) h⟩;cases h) λk29=>ae.no))))))
theorem bR.k:Ok Try.prog 106 (mk15 (bR.tw F)):=by
 intro args H v H' h
 unfold mk15 at h
 split at h
 ·exact okT (PN:=aH) (LH:=(bR.lh F)) (F:=F) (TB:=aH) Try.func106 bt (bR.loops F) (Eq.trans (by kernel_rfl) h) (by kernel_rfl)
 ·cases h
def bk.j2 (F:Nat) (C7_:att) (aht:Sl) (uq:Int) (ur:Int) (ahu:Sl) (ut:Int) (uu:Int) (H50:Hp):OA:=C7_ aht uq ur ahu ut (wrap .i64 (uu+1)) H50
def bk.l7 (F:Nat) :Nat->Sl->Int->Int->Sl->Int->Int->Hp->OA
 | 0,_,_,_,_,_,_,_=>none
 | UI+1,kI,dE,jB,xk,jC,gV,H16=>(bif (decide (gV<jC)) then ((Sl.idx xk gV 1).bind λp34=>(Hp.ldI H16 .i64 p34.1 p34.2).bind λn35=>(bif (n35==dE) then ((Sl.idx kI gV 1).bind λp36=>(Hp.st H16 p36.1 p36.2 (.int .i64 jB)).bind λH37=>bk.j2 F (bk.l7 F UI) kI dE jB xk jC gV H37) else (bk.j2 F (bk.l7 F UI) kI dE jB xk jC gV H16))) else (some ((.tup []),H16)))
def bk.twX (aa:Sl) (au:Int) (cQ:Int) (H:Hp):OA:=(Sl.idx aa cQ 1).bind λp4=>(Hp.ldI H .i64 p4.1 p4.2).bind λn5=>(Sl.idx aa au 1).bind λp6=>(Hp.ldI H .i64 p6.1 p6.2).bind λn7=>bk.l7 F F aa n5 n7 aa (aa.n:Int) 0 H
def bk.tw:=bk.twX F
def bk.lh7 (ks:ast) (n:Nat) (tm:Tm) (H:Hp):OA:=match ks,tm 0,tm 6,tm 7,tm 18,tm 19,tm 20 with
 | [],(.sl kI),(.int .i64 dE),(.int .i64 jB),(.sl xk),(.int .i64 jC),(.int .i64 gV)=>bk.l7 F n kI dE jB xk jC gV H
 | _,_,_,_,_,_,_=>none
def bk.lh (p:Nat) (ks:ast) (n:Nat) (tm:Tm) (H:Hp):OA:=bif p.beq 7 then bk.lh7 F ks n tm H else (none)
def bk.tb:Nat->List (List Nat):=cP [(0,[[],[],[0,1],[0,1,2],[],[],[4,5],[4,5,6],[0,1,2,3],[0,1,2,3,4,5,6,7,8]])]
def mk16 (g:asz) (args:asD) (H:Hp):OA:=match args with
 | [(.sl aa),(.int .i64 au),(.int .i64 cQ)]=>g aa au cQ H
 | _=>none
theorem mk16_E (g:asz) (aa:Sl) (au:Int) (cQ:Int) (H:Hp):mk16 g [(.sl aa),(.int .i64 au),(.int .i64 cQ)] H=g aa au cQ H:=rfl
theorem bk.loops:LO (aX []) aH (bk.lh F) F Try.f107:=
 (ae.rt (ae.rt (ae.block (ae.la (λn tm H r h=>by change bk.lh7 F [] n tm H=_ at h;unfold bk.lh7 at h;split at h;have e:bD tm [(0,_),(6,_),(7,_),(18,_),(19,_),(20,_)]:=⟨‹_›,‹_›,‹_›,‹_›,‹_›,‹_›,trivial⟩;obtain _ | k7:=n;cases h;exact ⟨_,rfl,by rw [<- bH e];exact Eq.trans (by kernel_rfl) h⟩;cases h) λk7=>ae.no))))
theorem bk.k:Ok Try.prog 107 (mk16 (bk.tw F)):=by
 intro args H v H' h
 unfold mk16 at h
 split at h
 ·exact okT (PN:=aH) (LH:=(bk.lh F)) (F:=F) (TB:=bk.tb) Try.func107 bt (bk.loops F) (Eq.trans (by kernel_rfl) h) (by kernel_rfl)
 ·cases h
theorem nm_law:Keyed Try.prog 2:=int_keyed Try.underlying2
theorem nm_zero (w:World):(zeroValue 2).run Try.prog w=.ok (.int .i64 0) w:=by kernel_rfl
theorem nm_info:(Try.prog.info? 2).map (λi=>(i.zero,i.size,i.bytes))=some (some (.int .i64 0),1,8):=by kernel_rfl
theorem nm_none (a:Option Addr) (cap:Nat) (w:World):Calls Try.prog 108 #[.slice a 0 cap] w λe w'=>e=.returned (.slice none 0 0)/\Below w.heap.size w w':=by
 have hmm:=@run_makeMap Try.prog
 go_enter Try.func108,Try.ntmps108
 go_wp2
 refine wp_loop_rounds 1 ?_
 rw [rounds_succ]
 go_wp2
 go_ret
 exact ⟨rfl,(Below.refl _ _).alloc (Nat.le_refl _) _⟩
theorem nm_any (b off len cap:Nat) (zs:asr) (w:World) (hreach:len<=4294967296) (hz:len<=zs.length) (hb:b<w.heap.size)
  (hc:∀ j,j<zs.length->w.cell? ⟨b,off+j,none⟩=some (.int .i64 (zs.getD j 0))) (hwz:∀ n∈zs,(Lit.int .i64 n).wf=true) :
  Calls Try.prog 108 #[.slice (some ⟨b,off,none⟩) len cap] w λe w'=>∃ v,e=.returned v/\w'.ownsRow (w.heap.size+1) 2 1 v len ((nst zs len).2.map (Value.int .i64))/\Below w.heap.size w w':=by
 have hmm:=@run_makeMap Try.prog
 obtain ⟨i0,hi,hz0,hz1,hz2⟩:=info_parts nm_info
 go_enter Try.func108,Try.ntmps108
 go_wp2
 go_loopw [4,12] (λv i wr=>∃ (k:Nat) (D:DataW Unit),k<=len/\i=.int .i64 k/\wr.ownsMap Try.prog 2 (plainElem Try.prog 2) w.heap.size k D/\ND D (nst zs k).1 /\
   wr.ownsRow (w.heap.size+1) 2 1 v k ((nst zs k).2.map (Value.int .i64))/\Below w.heap.size w wr/\w.heap.size+1<=wr.heap.size)
  (λ_ i _=>len - (intOf i).toNat)
 case atStart=>exact ⟨0,.map [],Nat.zero_le _,rfl,World.ownsMap_made _ _ _ _,ND.nil,World.ownsRow_nil _ _ _ _,(Below.refl _ _).alloc (Nat.le_refl _) _,by simp⟩
 case round=>
  obtain ⟨k,D,hk,rfl,hown,hD,hrow,hnx,hws⟩:=hrel
  obtain ⟨x,hx⟩:∃ x,x=zs.getD k 0:=⟨_,rfl⟩
  have hwx:(Lit.int .i64 x).wf=true:=by rw [hx];exact aqH hwz k
  have hcx:k<len->wr.cell? ⟨b,off+k,none⟩=some (.int .i64 x):=λ_=>by rw [hx];exact (hnx.cell (by exact hb)).trans (hc k (by omega))
  have hkey:keyOf Try.prog 2 (.int .i64 x)=some (.int .i64 x):=keyOf_int_mk Try.underlying2 hwx
  have hl1:=afg zs k
  have hs1:Maps.size D<=k:=by rw [hD.size];exact hl1
  have hht:=hown.tidy nm_law
  have n1:nst zs (k+1)=(bif (nst zs k).1.contains x then (nst zs k).1 else (nst zs k).1++[x],(nst zs k).2++[(((bif (nst zs k).1.contains x then (nst zs k).1 else (nst zs k).1++[x]).idxOf x:Nat):Int)]):=by rw [hx];rfl
  clear hx
  go_wp2_with (first
   | (at_lookup;first
     | (refine wpList_lookup_own_ok_int _ rfl _ _ 155 rfl 2 2 .i64 nm_law Try.underlying155 Try.underlying2 (nm_zero _) w.heap.size k _ rfl hown _ _ rfl hkey ?_;intro c hat hwc)
     | (refine wpList_lookup_own_int _ rfl _ _ 155 rfl 2 2 .i64 nm_law Try.underlying155 Try.underlying2 (nm_zero _) w.heap.size (k+1) _ rfl hown1 _ _ rfl hkey ?_;intro c2 hat2 hwc2)
     | (refine wpList_lookup_own_int _ rfl _ _ 155 rfl 2 2 .i64 nm_law Try.underlying155 Try.underlying2 (nm_zero _) w.heap.size k _ rfl hown _ _ rfl hkey ?_;intro c2 hat2 hwc2))
   | (at_len;refine wpList_len_own _ rfl _ 155 rfl 2 2 Try.underlying155 _ w.heap.size k _ rfl hown ?_)
   | (at_mapUpdate;refine wpList_mapUpdate_own _ rfl _ _ _ 155 rfl 2 2 nm_law Try.underlying155 (plainElem Try.prog 2) w.heap.size k _ rfl hown (by unfold maxLen;omega) _ _ _ rfl rfl hkey _ [] (plainElem_int Try.underlying2 (WalkArith.wf_i64 (by omega))) ?_;intro w1 hown1 hgrow1)
   | (at_builtin;first
     | (refine wpList_append_own _ rfl _ _ 34 rfl (w.heap.size+1) 2 i0 (.int .i64 0) 1 8 Try.underlying34 hi hz0 hz1 hz2 rfl (by decide) _ _ _ rfl ((hrow.kept hgrow1 (Or.inr (GO hrow (Nat.lt_succ_self _)).symm)).alloc _) ⟨w1.heap.size,0,none⟩ 1 1 [.int .i64 c2] rfl rfl (cell_one_new _ _ _) (ints_oneCell .i64 [c2]) (by unfold maxLen;omega) (by omega) (by have:=hgrow1.size;simp at this ⊢;omega) ?_;intro v' w2 hown' hgrow2 hnil2)
     | (refine wpList_append_own _ rfl _ _ 34 rfl (w.heap.size+1) 2 i0 (.int .i64 0) 1 8 Try.underlying34 hi hz0 hz1 hz2 rfl (by decide) _ _ _ rfl (hrow.alloc _) ⟨wr.heap.size,0,none⟩ 1 1 [.int .i64 c2] rfl rfl (cell_one_new _ _ _) (ints_oneCell .i64 [c2]) (by unfold maxLen;omega) (by omega) (by simp;omega) ?_;intro v' w2 hown' hgrow2 hnil2))
   | go_in)
  ·have hlt:k<len:=by assumption
   have ht:(!Maps.has D (Lit.int .i64 x))=true:=by assumption
   have hc0:(nst zs k).1.contains x=false:=by rw [<- hD.has x];simpa using ht
   have hr1:=hrow.kept hgrow1 (Or.inr (GO hrow (Nat.lt_succ_self _)).symm)
   have s1:=hgrow1.size
   have s2:=hgrow2.size
   simp at s1 s2
   have hD1:=hD.new hht hc0
   rw [hD1.at_ x (by simp) _] at hat2
   have e2:c2=(((nst zs k).1++[x]).idxOf x:Nat):=by injection hat2 with q;injection q with _ q;exact q.symm
   rw [hc0,cond_false] at n1
   go_roundw
   case rel=>
    refine ⟨k+1,_,by omega,by go_num,(hown1.alloc _).kept hgrow2 (GO hr1 (Nat.lt_succ_self _)),by rw [n1];exact hD1,?_,?_,by omega⟩
    ·rw [n1,List.map_append,<-e2];exact hown'
    ·exact (((hnx.grown hgrow1 hnx.size (λj hj=>by cases hj;exact Nat.le_refl _)).alloc (by omega) _).grown hgrow2 (by simp;omega) (λj hj=>Nat.le_trans (Nat.le_succ _) (hr1.lt j hj).1))
   case measure=>simp [intOf];omega
  ·have hlt:k<len:=by assumption
   have ht:(!Maps.has D (Lit.int .i64 x))=false:=by assumption
   have hc1:(nst zs k).1.contains x=true:=by rw [<- hD.has x];simpa using ht
   have s2:=hgrow2.size
   simp at s2
   rw [hD.at_ x hc1 _] at hat2
   have e2:c2=((nst zs k).1.idxOf x:Nat):=by injection hat2 with q;injection q with _ q;exact q.symm
   rw [hc1,cond_true] at n1
   go_roundw
   case rel=>
    refine ⟨k+1,_,by omega,by go_num,((hown.alloc _).kept hgrow2 (GO hrow (Nat.lt_succ_self _))).mono (Nat.le_succ _),by rw [n1];exact hD,?_,?_,by omega⟩
    ·rw [n1,List.map_append,<-e2];exact hown'
    ·exact ((hnx.alloc hnx.size _).grown hgrow2 (by simp;omega) (λj hj=>Nat.le_trans (Nat.le_succ _) (hrow.lt j hj).1))
   case measure=>simp [intOf];omega
  ·have:k=len:=by omega
   subst this
   go_ret
   exact ⟨_,rfl,hrow,hnx⟩
theorem nm_ok:NumOk Try.prog 108 2:=⟨nm_none,nm_any⟩
def cW.tw (F:Nat) (aa:Sl) (H:Hp):OA:=Ao aa H
def cW.mk (g:asq) (args:asD) (H:Hp):OA:=match args with
 | [.sl aa]=>g aa H
 | _=>none
theorem cW.T {F:Nat} {aa:Sl} {H:Hp} {v:AV} {H':Hp} (h:cW.tw F aa H=some (v,H')):Go.AE.T Try.prog 108 [.sl aa] H v H':=
 nm_ok.T (aqI Try.func108 (by kernel_rfl) (by kernel_rfl)) h
theorem cW.mk_T {F:Nat} {args:asD} {H:Hp} {v:AV} {H':Hp} (h:cW.mk (cW.tw F) args H=some (v,H')):Go.AE.T Try.prog 108 args H v H':=by
 unfold cW.mk at h
 split at h
 ·exact cW.T h
 ·cases h
theorem cW.k:Ok Try.prog 108 (cW.mk (cW.tw F)):=λ_ _ _ _ h=>cW.mk_T h
def bM.l29 (F:Nat) (cD:asq) (cX:asx) (cY:asz) (cZ:asq) :Nat->Nat->Nat->Sl->Sl->Int->Int->Hp->OA
 | 0,_,_,_,_,_,_,_=>none
 | gG+1,oq,BJ,mh,BK,kJ,iC,H26=>(bif (decide (iC<kJ)) then ((Sl.idx BK iC 2).bind λp40=>(Hp.ldI H26 .i64 p40.1 p40.2).bind λn41=>(Hp.ldI H26 .i64 p40.1 (p40.2+1)).bind λn42=>(Hp.new H26 [.int .i64 0,.int .i64 0]).bind λH43=>(Hp.st H43 H26.length 0 (.int .i64 n41)).bind λH44=>(Hp.st H44 H26.length (0+1) (.int .i64 n42)).bind λH45=>(Hp.ldI H45 .i64 H26.length 0).bind λn46=>(Hp.ldSl H45 oq (BJ+1)).bind λs47=>(Sl.idx s47 iC 2).bind λp48=>(Hp.ldI H45 .i64 p48.1 p48.2).bind λn49=>(cY mh n46 n49 H45).bind λr50=>bM.l29 F cD cX cY cZ gG oq BJ mh BK kJ (wrap .i64 (iC+1)) r50.2) else ((cZ mh H26).bind λr51=>((r51.1).asSl).bind λs52=>some ((.sl s52),r51.2)))
termination_by structural n=>n
def bM.twX (cD:asq) (cX:asx) (cY:asz) (cZ:asq) (aa:Sl) (af:Int) (ar:Sl) (bj:Sl) (H:Hp):OA:=(Hp.new H [(.sl aa),(.int .i64 af)]).bind λH5=>(Hp.new H5 [(.sl ar),(.sl bj)]).bind λH6=>(Hp.ldSl H6 H.length 0).bind λs7=>(cD s7 H6).bind λr8=>((r8.1).asI .i64).bind λn9=>(cX n9 r8.2).bind λr10=>((r10.1).asSl).bind λs11=>(Hp.ldSl r10.2 H5.length 0).bind λs12=>bM.l29 F cD cX cY cZ F H5.length 0 s11 s12 (s12.n:Int) 0 r10.2
def bM.tw:=bM.twX F (cR.tw F) (bR.tw F) (bk.tw F) (cW.tw F)
def bM.lh29 (cD:asq) (cX:asx) (cY:asz) (cZ:asq) (ks:ast) (n:Nat) (tm:Tm) (H:Hp):OA:=match ks,tm 3,tm 5,tm 13,tm 14,tm 15 with
 | [],(.ptr oq BJ),(.sl mh),(.sl BK),(.int .i64 kJ),(.int .i64 iC)=>bM.l29 F cD cX cY cZ n oq BJ mh BK kJ iC H
 | _,_,_,_,_,_=>none
def bM.lh (cD:asq) (cX:asx) (cY:asz) (cZ:asq) (p:Nat) (ks:ast) (n:Nat) (tm:Tm) (H:Hp):OA:=bif p.beq 29 then bM.lh29 F cD cX cY cZ ks n tm H else (none)
def bM.pn:Nat->List Nat:=cP [(5,[9])]
def bM.tb:Nat->List (List Nat):=cP [(5,[[],[],[1],[],[3],[],[3,4,5],[3,4,5,6],[3,4,5,6,7],[0,1,2,3,4,5,6,7,8]])]
def bM.cs (F:Nat) (cD:asq) (cX:asx) (cY:asz) (cZ:asq):Cs:=[(62,mk3 cD),(106,mk15 cX),(107,mk16 cY),(108,cW.mk cZ)]
theorem bM.loops (cD:asq) (cX:asx) (cY:asz) (cZ:asq):LO (aX (bM.cs F cD cX cY cZ)) bM.pn (bM.lh F cD cX cY cZ) F Try.f70:=
 (ae.rt (ae.rt (ae.lt (ae.rt (ae.block (ae.la (λn tm H r h=>by change bM.lh29 F cD cX cY cZ [] n tm H=_ at h;unfold bM.lh29 at h;split at h;have e:bD tm [(3,_),(5,_),(13,_),(14,_),(15,_)]:=⟨‹_›,‹_›,‹_›,‹_›,‹_›,trivial⟩;obtain _ | k29:=n;cases h;exact ⟨_,rfl,by rw [<- bH e];exact Eq.trans (by kernel_rfl) h⟩;cases h) λk29=>ae.no))))))
theorem bM.eqX (cD:asq) (cX:asx) (cY:asz) (cZ:asq) (aa:Sl) (af:Int) (ar:Sl) (bj:Sl) (H:Hp):EX (aX (bM.cs F cD cX cY cZ)) bM.pn (bM.lh F cD cX cY cZ) F Try.f70 [(.agg [(.sl aa),(.int .i64 af)]),(.agg [(.sl ar),(.sl bj)])] H=bM.twX F cD cX cY cZ aa af ar bj H:=by kernel_rfl
theorem bM.k:Ok Try.prog 70 (mk14 (bM.tw F)):=by
 intro args H v H' h
 unfold mk14 at h
 split at h
 ·exact okT (TB:=bM.tb) Try.func70 (aN (cR.k F) (aN (bR.k F) (aN (bk.k F) (aN (cW.k F) bt)))) (bM.loops F (cR.tw F) (bR.tw F) (bk.tw F) (cW.tw F)) ((bM.eqX F (cR.tw F) (bR.tw F) (bk.tw F) (cW.tw F) _ _ _ _ H).trans h) (by kernel_rfl)
 ·cases h
def bK.l61 (F:Nat) :Nat->Sl->Int->Int->Hp->OA
 | 0,_,_,_,_=>none
 | bQ+1,kI,gr,gu,H13=>(bif (decide (gu<(kI.n:Int))) then ((Sl.idx kI gu 1).bind λp16=>(Hp.ldI H13 .i64 p16.1 p16.2).bind λn17=>bK.l61 F bQ kI (if n17>gr then n17 else gr) (wrap .i64 (gu+1)) H13) else (some ((.int .i64 gr),H13)))
def bK.j1 (UJ:Sl) (H5:Hp):OA:=(Sl.idx UJ 0 1).bind λp6=>(Hp.ldI H5 .i64 p6.1 p6.2).bind λn7=>bK.l61 F F UJ n7 1 H5
def bK.twX (aa:Sl) (H:Hp):OA:=(bif (decide ((aa.n:Int)<1)) then (none) else (bK.j1 F aa H))
def bK.tw:=bK.twX F
def bK.lh61 (ks:ast) (n:Nat) (tm:Tm) (H:Hp):OA:=match ks,tm 0,tm 3,tm 4 with
 | [],(.sl kI),(.int .i64 gr),(.int .i64 gu)=>bK.l61 F n kI gr gu H
 | _,_,_,_=>none
def bK.lh (p:Nat) (ks:ast) (n:Nat) (tm:Tm) (H:Hp):OA:=bif p.beq 61 then bK.lh61 F ks n tm H else (none)
theorem bK.loops:LO (aX []) aH (bK.lh F) F Try.f105:=
 (ae.rt (ae.rt (ae.rt (ae.lt (ae.rt (ae.block (ae.la (λn tm H r h=>by change bK.lh61 F [] n tm H=_ at h;unfold bK.lh61 at h;split at h;have e:bD tm [(0,_),(3,_),(4,_)]:=⟨‹_›,‹_›,‹_›,trivial⟩;obtain _ | k61:=n;cases h;exact ⟨_,rfl,by rw [<- bH e];exact Eq.trans (by kernel_rfl) h⟩;cases h) λk61=>ae.no)))))))
theorem bK.k:Ok Try.prog 105 (mk3 (bK.tw F)):=by
 intro args H v H' h
 unfold mk3 at h
 split at h
 ·exact okT (PN:=aH) (LH:=(bK.lh F)) (F:=F) (TB:=aH) Try.func105 bt (bK.loops F) (Eq.trans (by kernel_rfl) h) (by kernel_rfl)
 ·cases h
def dv.twX (F:Nat) (uv:asq) (aa:Sl) (H:Hp):OA:=(bif ((aa.n:Int)==0) then (some ((.int .i64 0),H)) else ((uv aa H).bind λr2=>((r2.1).asI .i64).bind λn3=>some ((.int .i64 (wrap .i64 (n3+1))),r2.2)))
def dv.tw:=dv.twX F (bK.tw F)
def dv.cs (F:Nat) (uv:asq):Cs:=[(105,mk3 uv)]
theorem dv.eqX (uv:asq) (aa:Sl) (H:Hp):EX (aX (dv.cs F uv)) aH lh0 F Try.f69 [(.sl aa)] H=dv.twX F uv aa H:=by kernel_rfl
theorem dv.k:Ok Try.prog 69 (mk3 (dv.tw F)):=by
 intro args H v H' h
 unfold mk3 at h
 split at h
 ·exact okT (TB:=aH) Try.func69 (aN (bK.k F) bt) ae.no ((dv.eqX F (bK.tw F) _ H).trans h) (by kernel_rfl)
 ·cases h
def dg.twX (F:Nat) (cD:asq) (fG:asA) (uw:asq) (ux:aso) (uy:as2) (uz:asq) (uA:as2) (es:asq) (aa:Sl) (af:Int) (H:Hp):OA:=(Hp.new H [(.sl aa),(.int .i64 af)]).bind λH3=>(Hp.new H3 [.sl ⟨none,0,.ex 0⟩,.sl ⟨none,0,.ex 0⟩]).bind λH4=>(Hp.ldSl H4 H.length 0).bind λs5=>(cD s5 H4).bind λr6=>((r6.1).asI .i64).bind λn7=>(bif (decide (n7>10)) then ((Hp.st r6.2 H3.length 0 (.sl (⟨none,0,.ex 0⟩:Sl))).bind λH8=>(Hp.st H8 H3.length (0+1) (.sl (⟨none,0,.ex 0⟩:Sl))).bind λH9=>(Hp.ldSl H9 H3.length 0).bind λs10=>(Hp.ldSl H9 H3.length (0+1)).bind λs11=>some ((.tup [(.agg [(.sl s10),(.sl s11)]),(.bool false)]),H9)) else ((Hp.ldI r6.2 .i64 H.length 1).bind λn12=>(fG n12 0 8 r6.2).bind λr13=>((r13.1).asB).bind λb14=>(bif (!b14) then ((Hp.st r13.2 H3.length 0 (.sl (⟨none,0,.ex 0⟩:Sl))).bind λH15=>(Hp.st H15 H3.length (0+1) (.sl (⟨none,0,.ex 0⟩:Sl))).bind λH16=>(Hp.ldSl H16 H3.length 0).bind λs17=>(Hp.ldSl H16 H3.length (0+1)).bind λs18=>some ((.tup [(.agg [(.sl s17),(.sl s18)]),(.bool false)]),H16)) else ((Hp.ldSl r13.2 H.length 0).bind λs19=>(uw s19 r13.2).bind λr20=>((r20.1).asB).bind λb21=>(bif b21 then ((Hp.st r20.2 H3.length 0 (.sl (⟨none,0,.ex 0⟩:Sl))).bind λH22=>(Hp.st H22 H3.length (0+1) (.sl (⟨none,0,.ex 0⟩:Sl))).bind λH23=>(Hp.ldSl H23 H3.length 0).bind λs24=>(Hp.ldSl H23 H3.length (0+1)).bind λs25=>some ((.tup [(.agg [(.sl s24),(.sl s25)]),(.bool false)]),H23)) else ((Hp.ldSl r20.2 H.length 0).bind λs26=>(Hp.ldI r20.2 .i64 H.length (0+1)).bind λn27=>(ux s26 n27 r20.2).bind λr28=>((r28.1).asTup 2).bind λl29=>(l29[0]?).bind λv30=>((v30).asAgg 2).bind λl31=>(l31[0]?).bind λv32=>((v32).asSl).bind λs33=>(l31[1]?).bind λv34=>((v34).asSl).bind λs35=>(l29[1]?).bind λv36=>((v36).asB).bind λb37=>(Hp.new r28.2 [.sl ⟨none,0,.ex 0⟩,.sl ⟨none,0,.ex 0⟩]).bind λH38=>(Hp.st H38 r28.2.length 0 (.sl s33)).bind λH39=>(Hp.st H39 r28.2.length (0+1) (.sl s35)).bind λH40=>(bif (!b37) then ((Hp.st H40 H3.length 0 (.sl (⟨none,0,.ex 0⟩:Sl))).bind λH41=>(Hp.st H41 H3.length (0+1) (.sl (⟨none,0,.ex 0⟩:Sl))).bind λH42=>(Hp.ldSl H42 H3.length 0).bind λs43=>(Hp.ldSl H42 H3.length (0+1)).bind λs44=>some ((.tup [(.agg [(.sl s43),(.sl s44)]),(.bool false)]),H42)) else ((Hp.ldSl H40 H.length 0).bind λs45=>(Hp.ldI H40 .i64 H.length (0+1)).bind λn46=>(Hp.ldSl H40 r28.2.length 0).bind λs47=>(Hp.ldSl H40 r28.2.length (0+1)).bind λs48=>(uy s45 n46 s47 s48 H40).bind λr49=>((r49.1).asSl).bind λs50=>(if aZ H40 r49.2 then ((uz s50 r49.2).bind λr51=>((r51.1).asI .i64).bind λn52=>(if aZ r49.2 r51.2 then ((Hp.ldSl r51.2 H.length 0).bind λs53=>(Hp.ldI r51.2 .i64 H.length (0+1)).bind λn54=>(Hp.ldSl r51.2 r28.2.length 0).bind λs55=>(Hp.ldSl r51.2 r28.2.length (0+1)).bind λs56=>(uA s53 n54 s55 s56 r51.2).bind λr57=>((r57.1).asSl).bind λs58=>(es s58 r57.2).bind λr59=>((r59.1).asI .i64).bind λn60=>(bif (n52 != (wrap .i64 (n7+(wrap .i64 (2 * n60))))) then ((Hp.st r59.2 H3.length 0 (.sl (⟨none,0,.ex 0⟩:Sl))).bind λH61=>(Hp.st H61 H3.length (0+1) (.sl (⟨none,0,.ex 0⟩:Sl))).bind λH62=>(Hp.ldSl H62 H3.length 0).bind λs63=>(Hp.ldSl H62 H3.length (0+1)).bind λs64=>some ((.tup [(.agg [(.sl s63),(.sl s64)]),(.bool false)]),H62)) else ((Hp.ldSl r59.2 r28.2.length 0).bind λs65=>(Hp.ldSl r59.2 r28.2.length (0+1)).bind λs66=>(Hp.st r59.2 H3.length 0 (.sl s65)).bind λH67=>(Hp.st H67 H3.length (0+1) (.sl s66)).bind λH68=>(Hp.ldSl H68 H3.length 0).bind λs69=>(Hp.ldSl H68 H3.length (0+1)).bind λs70=>some ((.tup [(.agg [(.sl s69),(.sl s70)]),(.bool true)]),H68)))) else none)) else none)))))))))
def dg.tw:=dg.twX F (cR.tw F) (dy.tw F) (eL.tw F) (bf.tw F) (aM.tw F) (gc.tw F) (bM.tw F) (dv.tw F)
def dg.pn:Nat->List Nat:=cP [(5,[10,11])]
def dg.tb:Nat->List (List Nat):=cP [(5,[[],[0],[0,1],[0,1,2],[0,1,2],[0,1,2,3,4],[0,1,2,3,4,5],[0,1,2],[0,1,2],[0,1,2],[0,1,2,3,4,5,6,8,9],[0,1,2,3,4,5,6,8,9,10],[0,1,2,3,4,5,6,8,9,10,11],[0,1,2,3,4,5,6,7,8,9,10,11,12],[0,1,2,3,4,5,6,7,8,9,10,11,12,13],[0,1,2,3,4,5,6,7,8,9,10,11,12,13,14]])]
def dg.cs (F:Nat) (cD:asq) (fG:asA) (uw:asq) (ux:aso) (uy:as2) (uz:asq) (uA:as2) (es:asq):Cs:=[(62,mk3 cD),(63,mk5 fG),(64,mk11 uw),(66,mk4 ux),(68,mk14 uy),(67,mk3 uz),(70,mk14 uA),(69,mk3 es)]
theorem dg.eqX (cD:asq) (fG:asA) (uw:asq) (ux:aso) (uy:as2) (uz:asq) (uA:as2) (es:asq) (aa:Sl) (af:Int) (H:Hp):EX (aX (dg.cs F cD fG uw ux uy uz uA es)) dg.pn lh0 F Try.f33 [(.agg [(.sl aa),(.int .i64 af)])] H=dg.twX F cD fG uw ux uy uz uA es aa af H:=by kernel_rfl
theorem dg.k:Ok Try.prog 33 (mk4 (dg.tw F)):=by
 intro args H v H' h
 unfold mk4 at h
 split at h
 ·exact okT (TB:=dg.tb) Try.func33 (aN (cR.k F) (aN (dy.k F) (aN (eL.k F) (aN (bf.k F) (aN (aM.k F) (aN (gc.k F) (aN (bM.k F) (aN (dv.k F) bt)))))))) ae.no ((dg.eqX F (cR.tw F) (dy.tw F) (eL.tw F) (bf.tw F) (aM.tw F) (gc.tw F) (bM.tw F) (dv.tw F) _ _ H).trans h) (by kernel_rfl)
 ·cases h
def et.twX (F:Nat) (uB:aso) (aa:Sl) (af:Int) (H:Hp):OA:=(Hp.new H [(.sl aa),(.int .i64 af)]).bind λH3=>(Hp.ldSl H3 H.length 0).bind λs4=>(Hp.ldI H3 .i64 H.length (0+1)).bind λn5=>(uB s4 n5 H3).bind λr6=>((r6.1).asTup 2).bind λl7=>(l7[0]?).bind λv8=>((v8).asAgg 2).bind λl9=>(l9[0]?).bind λv10=>((v10).asSl).bind λs11=>(l9[1]?).bind λv12=>((v12).asSl).bind λs13=>(l7[1]?).bind λv14=>((v14).asB).bind λb15=>(Hp.new r6.2 [.sl ⟨none,0,.ex 0⟩,.sl ⟨none,0,.ex 0⟩]).bind λH16=>(Hp.st H16 r6.2.length 0 (.sl s11)).bind λH17=>(Hp.st H17 r6.2.length (0+1) (.sl s13)).bind λH18=>some ((.bool b15),H18)
def et.tw:=et.twX F (dg.tw F)
def et.cs (F:Nat) (uB:aso):Cs:=[(33,mk4 uB)]
theorem et.eqX (uB:aso) (aa:Sl) (af:Int) (H:Hp):EX (aX (et.cs F uB)) aH lh0 F Try.f60 [(.agg [(.sl aa),(.int .i64 af)])] H=et.twX F uB aa af H:=by kernel_rfl
theorem et.k:Ok Try.prog 60 (mk4 (et.tw F)):=by
 intro args H v H' h
 unfold mk4 at h
 split at h
 ·exact okT (TB:=aH) Try.func60 (aN (dg.k F) bt) ae.no ((et.eqX F (dg.tw F) _ _ H).trans h) (by kernel_rfl)
 ·cases h
def gd.twX (F:Nat) (aa:Sl) (af:Int) (H:Hp):OA:=(Hp.new H [(.sl aa),(.int .i64 af)]).bind λH3=>(Hp.ldSl H3 H.length 0).bind λs4=>(bif ((s4.n:Int)==0) then ((Hp.ldI H3 .i64 H.length 1).bind λn5=>some ((.bool (n5==0)),H3)) else (some ((.bool false),H3)))
def gd.tw:=gd.twX F
theorem gd.k:Ok Try.prog 61 (mk4 (gd.tw F)):=by
 intro args H v H' h
 unfold mk4 at h
 split at h
 ·exact ok0 Try.func61 (Eq.trans (by kernel_rfl) h) (by kernel_rfl) (by kernel_rfl)
 ·cases h
def eR.twX (F:Nat) (uC:aso) (uD:aso) (aa:Sl) (af:Int) (H:Hp):OA:=(Hp.new H [(.sl aa),(.int .i64 af)]).bind λH3=>(Hp.ldSl H3 H.length 0).bind λs4=>(Hp.ldI H3 .i64 H.length (0+1)).bind λn5=>(uC s4 n5 H3).bind λr6=>((r6.1).asB).bind λb7=>(bif (!b7) then (some ((.int .i64 1),r6.2)) else ((Hp.ldSl r6.2 H.length 0).bind λs8=>(Hp.ldI r6.2 .i64 H.length (0+1)).bind λn9=>(uD s8 n9 r6.2).bind λr10=>((r10.1).asB).bind λb11=>(bif b11 then (some ((.int .i64 5),r10.2)) else (some ((.int .i64 0),r10.2)))))
def eR.tw:=eR.twX F (et.tw F) (gd.tw F)
def eR.cs (F:Nat) (uC:aso) (uD:aso):Cs:=[(60,mk4 uC),(61,mk4 uD)]
theorem eR.eqX (uC:aso) (uD:aso) (aa:Sl) (af:Int) (H:Hp):EX (aX (eR.cs F uC uD)) aH lh0 F Try.f32 [(.agg [(.sl aa),(.int .i64 af)])] H=eR.twX F uC uD aa af H:=by kernel_rfl
theorem eR.k:Ok Try.prog 32 (mk4 (eR.tw F)):=by
 intro args H v H' h
 unfold mk4 at h
 split at h
 ·exact okT (TB:=aH) Try.func32 (aN (et.k F) (aN (gd.k F) bt)) ae.no ((eR.eqX F (et.tw F) (gd.tw F) _ _ H).trans h) (by kernel_rfl)
 ·cases h
def bg.j1 (F:Nat) (cD:asq) (cX:asx) (cY:asz) (cZ:asq) (es:asq) (BL:Nat) (ahv:Nat) (ahw:Sl) (H47:Hp):OA:=(cZ ahw H47).bind λr48=>((r48.1).asSl).bind λs49=>(es s49 r48.2).bind λr50=>((r50.1).asI .i64).bind λn51=>(if aZ r48.2 r50.2 then ((Hp.ldI r50.2 .i64 BL (ahv+1)).bind λn52=>some ((.tup [(.sl s49),(.int .i64 (wrap .i64 (n51+n52)))]),r50.2)) else none)
def bg.l29 (F:Nat) (cD:asq) (cX:asx) (cY:asz) (cZ:asq) (es:asq) :Nat->Nat->Nat->Sl->Sl->Int->Int->Hp->OA
 | 0,_,_,_,_,_,_,_=>none
 | gG+1,ou,BM,xl,BN,kK,jD,H20=>(bif (decide (jD<kK)) then ((Sl.idx BN jD 5).bind λp53=>(Hp.ldI H20 .i64 p53.1 p53.2).bind λn54=>(Hp.ldI H20 .i64 p53.1 (p53.2+1)).bind λn55=>(Hp.ldI H20 .i64 p53.1 (p53.2+2)).bind λn56=>(Hp.ldI H20 .i64 p53.1 (p53.2+3)).bind λn57=>(Hp.ldI H20 .i64 p53.1 (p53.2+4)).bind λn58=>(Hp.new H20 [.int .i64 0,.int .i64 0,.int .i64 0,.int .i64 0,.int .i64 0]).bind λH59=>(Hp.st H59 H20.length 0 (.int .i64 n54)).bind λH60=>(Hp.st H60 H20.length (0+1) (.int .i64 n55)).bind λH61=>(Hp.st H61 H20.length (0+1+1) (.int .i64 n56)).bind λH62=>(Hp.st H62 H20.length (0+1+1+1) (.int .i64 n57)).bind λH63=>(Hp.st H63 H20.length (0+1+1+1+1) (.int .i64 n58)).bind λH64=>(Hp.ldI H64 .i64 H20.length 1).bind λn65=>(Hp.ldI H64 .i64 H20.length 3).bind λn66=>(cY xl n65 n66 H64).bind λr67=>bg.l29 F cD cX cY cZ es gG ou BM xl BN kK (wrap .i64 (jD+1)) r67.2) else (bg.j1 F cD cX cY cZ es ou BM xl H20))
termination_by structural n=>n
def bg.twX (cD:asq) (cX:asx) (cY:asz) (cZ:asq) (es:asq) (aa:Sl) (af:Int) (H:Hp):OA:=(Hp.new H [(.sl aa),(.int .i64 af)]).bind λH3=>(Hp.ldSl H3 H.length 0).bind λs4=>(cD s4 H3).bind λr5=>((r5.1).asI .i64).bind λn6=>(cX (wrap .i64 (2 * n6)) r5.2).bind λr7=>((r7.1).asSl).bind λs8=>(Hp.ldSl r7.2 H.length 0).bind λs9=>bg.l29 F cD cX cY cZ es F H.length 0 s8 s9 (s9.n:Int) 0 r7.2
def bg.tw:=bg.twX F (cR.tw F) (bR.tw F) (bk.tw F) (cW.tw F) (dv.tw F)
def bg.lh29 (cD:asq) (cX:asx) (cY:asz) (cZ:asq) (es:asq) (ks:ast) (n:Nat) (tm:Tm) (H:Hp):OA:=match ks,tm 1,tm 4,tm 14,tm 15,tm 16 with
 | [],(.ptr ou BM),(.sl xl),(.sl BN),(.int .i64 kK),(.int .i64 jD)=>bg.l29 F cD cX cY cZ es n ou BM xl BN kK jD H
 | _,_,_,_,_,_=>none
def bg.lh (cD:asq) (cX:asx) (cY:asz) (cZ:asq) (es:asq) (p:Nat) (ks:ast) (n:Nat) (tm:Tm) (H:Hp):OA:=bif p.beq 29 then bg.lh29 F cD cX cY cZ es ks n tm H else (none)
def bg.tb:Nat->List (List Nat):=cP [(8,[[],[],[1],[],[3],[1,2,3,4],[0,1,2],[0,1,2,3,4,5,6]])]
def bg.cs (F:Nat) (cD:asq) (cX:asx) (cY:asz) (cZ:asq) (es:asq):Cs:=[(62,mk3 cD),(106,mk15 cX),(107,mk16 cY),(108,cW.mk cZ),(69,mk3 es)]
theorem bg.loops (cD:asq) (cX:asx) (cY:asz) (cZ:asq) (es:asq):LO (aX (bg.cs F cD cX cY cZ es)) aH (bg.lh F cD cX cY cZ es) F Try.f91:=
 (ae.rt (ae.rt (ae.lt (ae.rt (ae.block (ae.la (λn tm H r h=>by change bg.lh29 F cD cX cY cZ es [] n tm H=_ at h;unfold bg.lh29 at h;split at h;have e:bD tm [(1,_),(4,_),(14,_),(15,_),(16,_)]:=⟨‹_›,‹_›,‹_›,‹_›,‹_›,trivial⟩;obtain _ | k29:=n;cases h;exact ⟨_,rfl,by rw [<- bH e];exact Eq.trans (by kernel_rfl) h⟩;cases h) λk29=>ae.no))))))
theorem bg.eqX (cD:asq) (cX:asx) (cY:asz) (cZ:asq) (es:asq) (aa:Sl) (af:Int) (H:Hp):EX (aX (bg.cs F cD cX cY cZ es)) aH (bg.lh F cD cX cY cZ es) F Try.f91 [(.agg [(.sl aa),(.int .i64 af)])] H=bg.twX F cD cX cY cZ es aa af H:=by kernel_rfl
theorem bg.k:Ok Try.prog 91 (mk4 (bg.tw F)):=by
 intro args H v H' h
 unfold mk4 at h
 split at h
 ·exact okT (TB:=bg.tb) Try.func91 (aN (cR.k F) (aN (bR.k F) (aN (bk.k F) (aN (cW.k F) (aN (dv.k F) bt))))) (bg.loops F (cR.tw F) (bR.tw F) (bk.tw F) (cW.tw F) (dv.tw F)) ((bg.eqX F (cR.tw F) (bR.tw F) (bk.tw F) (cW.tw F) (dv.tw F) _ _ H).trans h) (by kernel_rfl)
 ·cases h
def bL.l61 (F:Nat) (bz:aso) :Nat->Sl->Sl->Sl->Int->Int->Hp->OA
 | 0,_,_,_,_,_,_=>none
 | bQ+1,jW,BO,hQ,eN,jE,H23=>(bif (decide (jE<eN)) then ((Sl.idx hQ jE 5).bind λp51=>(Hp.ldI H23 .i64 p51.1 p51.2).bind λn52=>(Hp.ldI H23 .i64 p51.1 (p51.2+1)).bind λn53=>(Hp.ldI H23 .i64 p51.1 (p51.2+2)).bind λn54=>(Hp.ldI H23 .i64 p51.1 (p51.2+3)).bind λn55=>(Hp.ldI H23 .i64 p51.1 (p51.2+4)).bind λn56=>(Hp.new H23 [.int .i64 0,.int .i64 0,.int .i64 0,.int .i64 0,.int .i64 0]).bind λH57=>(Hp.st H57 H23.length 0 (.int .i64 n52)).bind λH58=>(Hp.st H58 H23.length (0+1) (.int .i64 n53)).bind λH59=>(Hp.st H59 H23.length (0+1+1) (.int .i64 n54)).bind λH60=>(Hp.st H60 H23.length (0+1+1+1) (.int .i64 n55)).bind λH61=>(Hp.st H61 H23.length (0+1+1+1+1) (.int .i64 n56)).bind λH62=>(Hp.ldI H62 .i64 H23.length 0).bind λn63=>(Sl.idx jW n63 1).bind λp64=>(Hp.ldI H62 .i64 p64.1 p64.2).bind λn65=>(Hp.ldI H62 .i64 H23.length 2).bind λn66=>(Sl.idx jW n66 1).bind λp67=>(Hp.ldI H62 .i64 p67.1 p67.2).bind λn68=>(Hp.ldI H62 .i64 H23.length 1).bind λn69=>(Sl.idx jW n69 1).bind λp70=>(Hp.ldI H62 .i64 p70.1 p70.2).bind λn71=>(Hp.ldI H62 .i64 H23.length 4).bind λn72=>(Hp.ldI H62 .i64 H23.length 4).bind λn73=>(Hp.new H62 [(.int .i64 (wrap .i64 (n68+1))),(.int .i64 (wrap .i64 (n72 * (wrap .i64 (n71+1))))),(.int .i64 (wrap .i64 (0 - (wrap .i64 (n65+1))))),(.int .i64 (wrap .i64 ((wrap .i64 (0 - n73)) * (wrap .i64 (n71+1)))))]).bind λH74=>(Hp.new H74 [(.sl (⟨some (H62.length,0),4,.ex 4⟩:Sl))]).bind λH75=>(Sl.row H75 (⟨some (H74.length,0),1,.ex 1⟩:Sl) 1).bind λxs77=>(Hp.app H75 1 24 BO (⟨some (H74.length,0),1,.ex 1⟩:Sl).n xs77).bind λa76=>bL.l61 F bz bQ jW a76.1 hQ eN (wrap .i64 (jE+1)) a76.2) else (some ((.sl BO),H23)))
def bL.twX (bz:aso) (aa:Sl) (af:Int) (H:Hp):OA:=(Hp.new H [(.sl aa),(.int .i64 af)]).bind λH3=>(Hp.ldSl H3 H.length 0).bind λs4=>(Hp.ldI H3 .i64 H.length (0+1)).bind λn5=>(bz s4 n5 H3).bind λr6=>((r6.1).asTup 2).bind λl7=>(l7[0]?).bind λv8=>((v8).asSl).bind λs9=>(l7[1]?).bind λv10=>((v10).asI .i64).bind λn11=>(Hp.ldSl r6.2 H.length 0).bind λs12=>bL.l61 F bz F s9 (⟨none,0,.ex 0⟩:Sl) s12 (s12.n:Int) 0 r6.2
def bL.tw:=bL.twX F (bg.tw F)
def bL.lh61 (bz:aso) (ks:ast) (n:Nat) (tm:Tm) (H:Hp):OA:=match ks,tm 3,tm 5,tm 17,tm 18,tm 19 with
 | [],(.sl jW),(.sl BO),(.sl hQ),(.int .i64 eN),(.int .i64 jE)=>bL.l61 F bz n jW BO hQ eN jE H
 | _,_,_,_,_,_=>none
def bL.lh (bz:aso) (p:Nat) (ks:ast) (n:Nat) (tm:Tm) (H:Hp):OA:=bif p.beq 61 then bL.lh61 F bz ks n tm H else (none)
def bL.tb:Nat->List (List Nat):=cP [(6,[[],[],[1],[0,1,2],[0,1,2,3],[0,1,2,3,4],[],[],[7],[6,7,8],[6,7,8,9],[6,7,8,9,10],[],[],[13],[12,13,14],[12,13,14,15],[12,13,14,15,16],[0,1,2,3,4,5],[0,1,2,3,4,5,6,7,8,9,10,11,18],[0,1,2,3,4,5,6,7,8,9,10,11,12,13,14,15,16,17,18,19]])]
def bL.cs (F:Nat) (bz:aso):Cs:=[(91,mk4 bz)]
theorem bL.loops (bz:aso):LO (aX (bL.cs F bz)) aH (bL.lh F bz) F Try.f124:=
 (ae.rt (ae.rt (ae.rt (ae.lt (ae.rt (ae.block (ae.la (λn tm H r h=>by change bL.lh61 F bz [] n tm H=_ at h;unfold bL.lh61 at h;split at h;have e:bD tm [(3,_),(5,_),(17,_),(18,_),(19,_)]:=⟨‹_›,‹_›,‹_›,‹_›,‹_›,trivial⟩;obtain _ | k61:=n;cases h;exact ⟨_,rfl,by rw [<- bH e];exact Eq.trans (by kernel_rfl) h⟩;cases h) λk61=>ae.no)))))))
theorem bL.eqX (bz:aso) (aa:Sl) (af:Int) (H:Hp):EX (aX (bL.cs F bz)) aH (bL.lh F bz) F Try.f124 [(.agg [(.sl aa),(.int .i64 af)])] H=bL.twX F bz aa af H:=by kernel_rfl
theorem bL.k:Ok Try.prog 124 (mk4 (bL.tw F)):=by
 intro args H v H' h
 unfold mk4 at h
 split at h
 ·exact okT (TB:=bL.tb) Try.func124 (aN (bg.k F) bt) (bL.loops F (bg.tw F)) ((bL.eqX F (bg.tw F) _ _ H).trans h) (by kernel_rfl)
 ·cases h
def dz.twX (F:Nat) (aa:Sl) (H:Hp):OA:=(bif (aa.a.isNone) then (some ((.sl (⟨none,0,.ex 0⟩:Sl)),H)) else ((Hp.new H []).bind λH2=>(Sl.row H2 aa 1).bind λxs4=>(Hp.app H2 1 8 (⟨some (H.length,0),0,.ex 0⟩:Sl) aa.n xs4).bind λa3=>some ((.sl a3.1),a3.2)))
def dz.tw:=dz.twX F
theorem dz.k:Ok Try.prog 126 (mk3 (dz.tw F)):=by
 intro args H v H' h
 unfold mk3 at h
 split at h
 ·exact ok0 Try.func126 (Eq.trans (by kernel_rfl) h) (by kernel_rfl) (by kernel_rfl)
 ·cases h
def aW.j1 (F:Nat) (cn:asq) (uE:Nat) (Hn:Nat) (kL:Nat) (ov:Nat) (H54:Hp):OA:=(Hp.ldSl H54 uE (Hn+1)).bind λs55=>(bif ((s55.n:Int)==0) then ((Hp.st H54 kL ov (.int .i64 0)).bind λH56=>(Hp.st H56 kL (ov+1) (.sl (⟨none,0,.ex 0⟩:Sl))).bind λH57=>(Hp.ldI H57 .i64 kL ov).bind λn58=>(Hp.ldSl H57 kL (ov+1)).bind λs59=>some ((.agg [(.int .i64 n58),(.sl s59)]),H57)) else ((Hp.ldI H54 .i64 uE Hn).bind λn60=>(Hp.ldSl H54 uE (Hn+1)).bind λs61=>(cn s61 H54).bind λr62=>((r62.1).asSl).bind λs63=>(if aZ H54 r62.2 then ((Hp.st r62.2 kL ov (.int .i64 n60)).bind λH64=>(Hp.st H64 kL (ov+1) (.sl s63)).bind λH65=>(Hp.ldI H65 .i64 kL ov).bind λn66=>(Hp.ldSl H65 kL (ov+1)).bind λs67=>some ((.agg [(.int .i64 n66),(.sl s67)]),H65)) else none)))
def aW.l14 (F:Nat) (cn:asq) :Nat->Nat->Nat->Nat->Nat->Hp->OA
 | 0,_,_,_,_,_=>none
 | Hf+1,fb,kM,mZ,xm,H36=>(Hp.ldSl H36 fb (kM+1)).bind λs68=>(bif (decide ((s68.n:Int)>0)) then ((Hp.ldSl H36 fb (kM+1)).bind λs69=>(Hp.ldSl H36 fb (kM+1)).bind λs70=>(Sl.idx s69 (wrap .i64 ((s70.n:Int) - 1)) 1).bind λp71=>(Hp.ldI H36 .i64 p71.1 p71.2).bind λn72=>(bif (n72==0) then ((Hp.ldSl H36 fb (kM+1)).bind λs73=>(Hp.ldSl H36 fb (kM+1)).bind λs74=>(Sl.cut s73 1 0 (wrap .i64 ((s74.n:Int) - 1))).bind λs75=>(Hp.st H36 fb (kM+1) (.sl s75)).bind λH76=>aW.l14 F cn Hf fb kM mZ xm H76) else (aW.j1 F cn fb kM mZ xm H36))) else (aW.j1 F cn fb kM mZ xm H36))
termination_by structural n=>n
def aW.j2 (cn:asq) (BP:Nat) (ahx:Nat) (mi:Nat) (ahy:Nat) (H28:Hp):OA:=aW.l14 F cn F BP ahx mi ahy H28
def aW.l6 (F:Nat) (cn:asq) :Nat->Nat->Nat->Nat->Nat->Hp->OA
 | 0,_,_,_,_,_=>none
 | ahz+1,di,cA,fP,xn,H11=>(Hp.ldSl H11 di (cA+1)).bind λs77=>(bif (decide ((s77.n:Int)>0)) then ((Hp.ldSl H11 di (cA+1)).bind λs78=>(Sl.idx s78 0 1).bind λp79=>(Hp.ldI H11 .i64 p79.1 p79.2).bind λn80=>(bif (n80==0) then ((Hp.ldI H11 .i64 di cA).bind λn81=>(Hp.st H11 di cA (.int .i64 (wrap .i64 (n81+1)))).bind λH82=>(Hp.ldSl H82 di (cA+1)).bind λs83=>(Sl.cut s83 1 1 (s83.n:Int)).bind λs84=>(Hp.st H82 di (cA+1) (.sl s84)).bind λH85=>aW.l6 F cn ahz di cA fP xn H85) else (aW.j2 F cn di cA fP xn H11))) else (aW.j2 F cn di cA fP xn H11))
termination_by structural n=>n
def aW.twX (cn:asq) (aa:Int) (af:Sl) (H:Hp):OA:=(Hp.new H [(.int .i64 aa),(.sl af)]).bind λH3=>(Hp.new H3 [.int .i64 0,.sl ⟨none,0,.ex 0⟩]).bind λH4=>aW.l6 F cn F H.length 0 H3.length 0 H4
def aW.tw:=aW.twX F (dz.tw F)
def aW.lh6 (cn:asq) (ks:ast) (n:Nat) (tm:Tm) (H:Hp):OA:=match ks,tm 1,tm 2 with
 | [],(.ptr di cA),(.ptr fP xn)=>aW.l6 F cn n di cA fP xn H
 | _,_,_=>none
def aW.lh14 (cn:asq) (ks:ast) (n:Nat) (tm:Tm) (H:Hp):OA:=match ks,tm 1,tm 2 with
 | [],(.ptr fb kM),(.ptr mZ xm)=>aW.l14 F cn n fb kM mZ xm H
 | _,_,_=>none
def aW.lh (cn:asq) (p:Nat) (ks:ast) (n:Nat) (tm:Tm) (H:Hp):OA:=bif p.beq 14 then aW.lh14 F cn ks n tm H else (bif p.beq 6 then aW.lh6 F cn ks n tm H else (none))
def aW.pn:Nat->List Nat:=cP [(8,[6])]
def aW.tb:Nat->List (List Nat):=cP [(8,[[],[0],[],[2],[2,3],[0,1,2,3,4],[0,1,2,3,4,5]])]
def aW.cs (F:Nat) (cn:asq):Cs:=[(126,mk3 cn)]
theorem aW.loops (cn:asq):LO (aX (aW.cs F cn)) aW.pn (aW.lh F cn) F Try.f144:=
 (ae.rt (ae.seq (ae.block (ae.la (λn tm H r h=>by change aW.lh6 F cn [] n tm H=_ at h;unfold aW.lh6 at h;split at h;have e:bD tm [(1,_),(2,_)]:=⟨‹_›,‹_›,trivial⟩;obtain _ | k6:=n;cases h;exact ⟨_,rfl,by rw [<- bH e];exact Eq.trans (by kernel_rfl) h⟩;cases h) λk6=>ae.no)) (ae.lt (ae.block (ae.la (λn tm H r h=>by change aW.lh14 F cn [] n tm H=_ at h;unfold aW.lh14 at h;split at h;have e:bD tm [(1,_),(2,_)]:=⟨‹_›,‹_›,trivial⟩;obtain _ | k14:=n;cases h;exact ⟨_,rfl,by rw [<- bH e];exact Eq.trans (by kernel_rfl) h⟩;cases h) λk14=>ae.no)))))
theorem aW.eqX (cn:asq) (aa:Int) (af:Sl) (H:Hp):EX (aX (aW.cs F cn)) aW.pn (aW.lh F cn) F Try.f144 [(.agg [(.int .i64 aa),(.sl af)])] H=aW.twX F cn aa af H:=by kernel_rfl
theorem aW.k:Ok Try.prog 144 (mk10 (aW.tw F)):=by
 intro args H v H' h
 unfold mk10 at h
 split at h
 ·exact okT (TB:=aW.tb) Try.func144 (aN (dz.k F) bt) (aW.loops F (dz.tw F)) ((aW.eqX F (dz.tw F) _ _ H).trans h) (by kernel_rfl)
 ·cases h
def cq.twX (F:Nat) (jF:ass) (aa:Int) (au:Int) (H:Hp):OA:=(Hp.new H [.int .i64 0,.sl ⟨none,0,.ex 0⟩]).bind λH3=>(Hp.new H3 [(.int .i64 aa)]).bind λH4=>(jF au (⟨some (H3.length,0),1,.ex 1⟩:Sl) H4).bind λr5=>((r5.1).asAgg 2).bind λl6=>(l6[0]?).bind λv7=>((v7).asI .i64).bind λn8=>(l6[1]?).bind λv9=>((v9).asSl).bind λs10=>(Hp.st r5.2 H.length 0 (.int .i64 n8)).bind λH11=>(Hp.st H11 H.length (0+1) (.sl s10)).bind λH12=>(Hp.ldI H12 .i64 H.length 0).bind λn13=>(Hp.ldSl H12 H.length (0+1)).bind λs14=>some ((.agg [(.int .i64 n13),(.sl s14)]),H12)
def cq.tw:=cq.twX F (aW.tw F)
def mk17 (g:asC) (args:asD) (H:Hp):OA:=match args with
 | [(.int .i64 aa),(.int .i64 au)]=>g aa au H
 | _=>none
theorem mk17_E (g:asC) (aa:Int) (au:Int) (H:Hp):mk17 g [(.int .i64 aa),(.int .i64 au)] H=g aa au H:=rfl
def cq.cs (F:Nat) (jF:ass):Cs:=[(144,mk10 jF)]
theorem cq.eqX (jF:ass) (aa:Int) (au:Int) (H:Hp):EX (aX (cq.cs F jF)) aH lh0 F Try.f127 [(.int .i64 aa),(.int .i64 au)] H=cq.twX F jF aa au H:=by kernel_rfl
theorem cq.k:Ok Try.prog 127 (mk17 (cq.tw F)):=by
 intro args H v H' h
 unfold mk17 at h
 split at h
 ·exact okT (TB:=aH) Try.func127 (aN (aW.k F) bt) ae.no ((cq.eqX F (aW.tw F) _ _ H).trans h) (by kernel_rfl)
 ·cases h
def gf.twX (F:Nat) (aa:Sl) (H:Hp):OA:=some ((.int .i64 (aa.n:Int)),H)
def gf.tw:=gf.twX F
theorem gf.k:Ok Try.prog 140 (mk3 (gf.tw F)):=by
 intro args H v H' h
 unfold mk3 at h
 split at h
 ·exact ok0 Try.func140 (Eq.trans (by kernel_rfl) h) (by kernel_rfl) (by kernel_rfl)
 ·cases h
def cS.twX (F:Nat) (uF:asq) (aa:Int) (af:Sl) (H:Hp):OA:=(Hp.new H [(.int .i64 aa),(.sl af)]).bind λH3=>(Hp.ldI H3 .i64 H.length 0).bind λn4=>(Hp.ldSl H3 H.length 1).bind λs5=>(uF s5 H3).bind λr6=>((r6.1).asI .i64).bind λn7=>(if aZ H3 r6.2 then (some ((.int .i64 (wrap .i64 ((wrap .i64 (n4+n7)) - 1))),r6.2)) else none)
def cS.tw:=cS.twX F (gf.tw F)
def cS.tb:Nat->List (List Nat):=cP [(1,[[],[0],[],[2],[2,3],[0,1,2,3,4],[0,1,2,3,4,5],[0,1,2,3,4,5,6]])]
def cS.cs (F:Nat) (uF:asq):Cs:=[(140,mk3 uF)]
theorem cS.eqX (uF:asq) (aa:Int) (af:Sl) (H:Hp):EX (aX (cS.cs F uF)) aH lh0 F Try.f117 [(.agg [(.int .i64 aa),(.sl af)])] H=cS.twX F uF aa af H:=by kernel_rfl
theorem cS.k:Ok Try.prog 117 (mk10 (cS.tw F)):=by
 intro args H v H' h
 unfold mk10 at h
 split at h
 ·exact okT (TB:=cS.tb) Try.func117 (aN (gf.k F) bt) ae.no ((cS.eqX F (gf.tw F) _ _ H).trans h) (by kernel_rfl)
 ·cases h
def eC.twX (F:Nat) (fG:asA) (aa:Int) (H:Hp):OA:=(fG aa (-1000000000000) 1000000000000 H).bind λr2=>((r2.1).asB).bind λb3=>some ((.bool (!b3)),r2.2)
def eC.tw:=eC.twX F (dy.tw F)
def eC.cs (F:Nat) (fG:asA):Cs:=[(63,mk5 fG)]
theorem eC.eqX (fG:asA) (aa:Int) (H:Hp):EX (aX (eC.cs F fG)) aH lh0 F Try.f119 [(.int .i64 aa)] H=eC.twX F fG aa H:=by kernel_rfl
theorem eC.k:Ok Try.prog 119 (mk15 (eC.tw F)):=by
 intro args H v H' h
 unfold mk15 at h
 split at h
 ·exact okT (TB:=aH) Try.func119 (aN (dy.k F) bt) ae.no ((eC.eqX F (dy.tw F) _ H).trans h) (by kernel_rfl)
 ·cases h
def ci.l13 (F:Nat) (gw:asx) :Nat->Sl->Int->Int->Hp->OA
 | 0,_,_,_,_=>none
 | ig+1,jd,dj,cB,H6=>(bif (decide (cB<dj)) then ((Sl.idx jd cB 1).bind λp11=>(Hp.ldI H6 .i64 p11.1 p11.2).bind λn12=>(gw n12 H6).bind λr13=>((r13.1).asB).bind λb14=>(bif b14 then (some ((.int .i64 cB),r13.2)) else (ci.l13 F gw ig jd dj (wrap .i64 (cB+1)) r13.2))) else (some ((.int .i64 (-1)),H6)))
def ci.twX (gw:asx) (aa:Sl) (H:Hp):OA:=ci.l13 F gw F aa (aa.n:Int) 0 H
def ci.tw:=ci.twX F (eC.tw F)
def ci.lh13 (gw:asx) (ks:ast) (n:Nat) (tm:Tm) (H:Hp):OA:=match ks,tm 0,tm 1,tm 7,tm 8 with
 | [],(.sl jd),(.fn 119 []),(.int .i64 dj),(.int .i64 cB)=>ci.l13 F gw n jd dj cB H
 | _,_,_,_,_=>none
def ci.lh (gw:asx) (p:Nat) (ks:ast) (n:Nat) (tm:Tm) (H:Hp):OA:=bif p.beq 13 then ci.lh13 F gw ks n tm H else (none)
def mk18 (g:asq) (args:asD) (H:Hp):OA:=match args with
 | [(.sl aa),(.fn 119 [])]=>g aa H
 | _=>none
theorem mk18_E (g:asq) (aa:Sl) (H:Hp):mk18 g [(.sl aa),(.fn 119 [])] H=g aa H:=rfl
def ci.cs (F:Nat) (gw:asx):Cs:=[(119,mk15 gw)]
theorem ci.loops (gw:asx):LO (aX (ci.cs F gw)) aH (ci.lh F gw) F Try.f141:=
 (ae.rt (ae.lt (ae.rt (ae.block (ae.la (λn tm H r h=>by change ci.lh13 F gw [] n tm H=_ at h;unfold ci.lh13 at h;split at h;have e:bD tm [(0,_),(1,_),(7,_),(8,_)]:=⟨‹_›,‹_›,‹_›,‹_›,trivial⟩;obtain _ | k13:=n;cases h;exact ⟨_,rfl,by rw [<- bH e];exact Eq.trans (by kernel_rfl) h⟩;cases h) λk13=>ae.no)))))
theorem ci.eqX (gw:asx) (aa:Sl) (H:Hp):EX (aX (ci.cs F gw)) aH (ci.lh F gw) F Try.f141 [(.sl aa),(.fn 119 [])] H=ci.twX F gw aa H:=by kernel_rfl
theorem ci.k:Ok Try.prog 141 (mk18 (ci.tw F)):=by
 intro args H v H' h
 unfold mk18 at h
 split at h
 ·exact okT (TB:=aH) Try.func141 (aN (eC.k F) bt) (ci.loops F (eC.tw F)) ((ci.eqX F (eC.tw F) _ H).trans h) (by kernel_rfl)
 ·cases h
def eS.twX (F:Nat) (uG:asq) (aa:Sl) (H:Hp):OA:=(uG aa H).bind λr2=>((r2.1).asI .i64).bind λn3=>some ((.bool (decide (n3>=0))),r2.2)
def eS.tw:=eS.twX F (ci.tw F)
def eS.cs (F:Nat) (uG:asq):Cs:=[(141,mk18 uG)]
theorem eS.eqX (uG:asq) (aa:Sl) (H:Hp):EX (aX (eS.cs F uG)) aH lh0 F Try.f118 [(.sl aa),(.fn 119 [])] H=eS.twX F uG aa H:=by kernel_rfl
theorem eS.k:Ok Try.prog 118 (mk18 (eS.tw F)):=by
 intro args H v H' h
 unfold mk18 at h
 split at h
 ·exact okT (TB:=aH) Try.func118 (aN (ci.k F) bt) ae.no ((eS.eqX F (ci.tw F) _ H).trans h) (by kernel_rfl)
 ·cases h
def dA.twX (F:Nat) (cT:ass) (uH:asq) (aa:Int) (af:Sl) (H:Hp):OA:=(Hp.new H [(.int .i64 aa),(.sl af)]).bind λH3=>(Hp.ldSl H3 H.length 1).bind λs4=>(bif ((s4.n:Int)==0) then ((Hp.ldI H3 .i64 H.length 0).bind λn5=>some ((.bool (n5==0)),H3)) else ((bif (decide ((s4.n:Int)<=160)) then ((Hp.ldSl H3 H.length 1).bind λs6=>(Sl.idx s6 0 1).bind λp7=>(Hp.ldI H3 .i64 p7.1 p7.2).bind λn8=>(bif (n8 != 0) then ((Hp.ldSl H3 H.length 1).bind λs9=>(Sl.idx s9 (wrap .i64 ((s4.n:Int) - 1)) 1).bind λp10=>(Hp.ldI H3 .i64 p10.1 p10.2).bind λn11=>(bif (n11 != 0) then ((Hp.ldI H3 .i64 H.length 0).bind λn12=>(bif (decide (n12>=(-240))) then ((Hp.ldI H3 .i64 H.length 0).bind λn13=>(Hp.ldSl H3 H.length (0+1)).bind λs14=>(cT n13 s14 H3).bind λr15=>((r15.1).asI .i64).bind λn16=>(bif (decide (n16<=240)) then ((Hp.ldI r15.2 .i64 H.length 0).bind λn17=>(bif (decide (n17<=240)) then ((Hp.ldSl r15.2 H.length 1).bind λs18=>(uH s18 r15.2).bind λr19=>((r19.1).asB).bind λb20=>some ((.bool (!b20)),r19.2)) else (some ((.bool false),r15.2)))) else (some ((.bool false),r15.2)))) else (some ((.bool false),H3)))) else (some ((.bool false),H3)))) else (some ((.bool false),H3)))) else (some ((.bool false),H3)))))
def dA.tw:=dA.twX F (cS.tw F) (eS.tw F)
def dA.cs (F:Nat) (cT:ass) (uH:asq):Cs:=[(117,mk10 cT),(118,mk18 uH)]
theorem dA.eqX (cT:ass) (uH:asq) (aa:Int) (af:Sl) (H:Hp):EX (aX (dA.cs F cT uH)) aH lh0 F Try.f86 [(.agg [(.int .i64 aa),(.sl af)])] H=dA.twX F cT uH aa af H:=by kernel_rfl
theorem dA.k:Ok Try.prog 86 (mk10 (dA.tw F)):=by
 intro args H v H' h
 unfold mk10 at h
 split at h
 ·exact okT (TB:=aH) Try.func86 (aN (cS.k F) (aN (eS.k F) bt)) ae.no ((dA.eqX F (cS.tw F) (eS.tw F) _ _ H).trans h) (by kernel_rfl)
 ·cases h
def eu.twX (F:Nat) (jG:ass) (aa:Int) (af:Sl) (H:Hp):OA:=(Hp.new H [(.int .i64 aa),(.sl af)]).bind λH3=>(Hp.ldI H3 .i64 H.length 0).bind λn4=>(Hp.ldSl H3 H.length (0+1)).bind λs5=>(jG n4 s5 H3).bind λr6=>((r6.1).asB).bind λb7=>some ((.bool (!b7)),r6.2)
def eu.tw:=eu.twX F (dA.tw F)
def eu.cs (F:Nat) (jG:ass):Cs:=[(86,mk10 jG)]
theorem eu.eqX (jG:ass) (aa:Int) (af:Sl) (H:Hp):EX (aX (eu.cs F jG)) aH lh0 F Try.f157 [(.agg [(.int .i64 aa),(.sl af)])] H=eu.twX F jG aa af H:=by kernel_rfl
theorem eu.k:Ok Try.prog 157 (mk10 (eu.tw F)):=by
 intro args H v H' h
 unfold mk10 at h
 split at h
 ·exact okT (TB:=aH) Try.func157 (aN (dA.k F) bt) ae.no ((eu.eqX F (dA.tw F) _ _ H).trans h) (by kernel_rfl)
 ·cases h
def cg.l13 (F:Nat) (gy:ass) :Nat->Sl->Int->Int->Hp->OA
 | 0,_,_,_,_=>none
 | ig+1,jd,dj,cB,H6=>(bif (decide (cB<dj)) then ((Sl.idx jd cB 2).bind λp12=>(Hp.ldI H6 .i64 p12.1 p12.2).bind λn13=>(Hp.ldSl H6 p12.1 (p12.2+1)).bind λs14=>(gy n13 s14 H6).bind λr15=>((r15.1).asB).bind λb16=>(bif b16 then (some ((.int .i64 cB),r15.2)) else (cg.l13 F gy ig jd dj (wrap .i64 (cB+1)) r15.2))) else (some ((.int .i64 (-1)),H6)))
def cg.twX (gy:ass) (aa:Sl) (H:Hp):OA:=cg.l13 F gy F aa (aa.n:Int) 0 H
def cg.tw:=cg.twX F (eu.tw F)
def cg.lh13 (gy:ass) (ks:ast) (n:Nat) (tm:Tm) (H:Hp):OA:=match ks,tm 0,tm 1,tm 7,tm 8 with
 | [],(.sl jd),(.fn 157 []),(.int .i64 dj),(.int .i64 cB)=>cg.l13 F gy n jd dj cB H
 | _,_,_,_,_=>none
def cg.lh (gy:ass) (p:Nat) (ks:ast) (n:Nat) (tm:Tm) (H:Hp):OA:=bif p.beq 13 then cg.lh13 F gy ks n tm H else (none)
def mk19 (g:asq) (args:asD) (H:Hp):OA:=match args with
 | [(.sl aa),(.fn 157 [])]=>g aa H
 | _=>none
theorem mk19_E (g:asq) (aa:Sl) (H:Hp):mk19 g [(.sl aa),(.fn 157 [])] H=g aa H:=rfl
def cg.cs (F:Nat) (gy:ass):Cs:=[(157,mk10 gy)]
theorem cg.loops (gy:ass):LO (aX (cg.cs F gy)) aH (cg.lh F gy) F Try.f159:=
 (ae.rt (ae.lt (ae.rt (ae.block (ae.la (λn tm H r h=>by change cg.lh13 F gy [] n tm H=_ at h;unfold cg.lh13 at h;split at h;have e:bD tm [(0,_),(1,_),(7,_),(8,_)]:=⟨‹_›,‹_›,‹_›,‹_›,trivial⟩;obtain _ | k13:=n;cases h;exact ⟨_,rfl,by rw [<- bH e];exact Eq.trans (by kernel_rfl) h⟩;cases h) λk13=>ae.no)))))
theorem cg.eqX (gy:ass) (aa:Sl) (H:Hp):EX (aX (cg.cs F gy)) aH (cg.lh F gy) F Try.f159 [(.sl aa),(.fn 157 [])] H=cg.twX F gy aa H:=by kernel_rfl
theorem cg.k:Ok Try.prog 159 (mk19 (cg.tw F)):=by
 intro args H v H' h
 unfold mk19 at h
 split at h
 ·exact okT (TB:=aH) Try.func159 (aN (eu.k F) bt) (cg.loops F (eu.tw F)) ((cg.eqX F (eu.tw F) _ H).trans h) (by kernel_rfl)
 ·cases h
def eT.twX (F:Nat) (uI:asq) (aa:Sl) (H:Hp):OA:=(uI aa H).bind λr2=>((r2.1).asI .i64).bind λn3=>some ((.bool (decide (n3>=0))),r2.2)
def eT.tw:=eT.twX F (cg.tw F)
def eT.cs (F:Nat) (uI:asq):Cs:=[(159,mk19 uI)]
theorem eT.eqX (uI:asq) (aa:Sl) (H:Hp):EX (aX (eT.cs F uI)) aH lh0 F Try.f156 [(.sl aa),(.fn 157 [])] H=eT.twX F uI aa H:=by kernel_rfl
theorem eT.k:Ok Try.prog 156 (mk19 (eT.tw F)):=by
 intro args H v H' h
 unfold mk19 at h
 split at h
 ·exact okT (TB:=aH) Try.func156 (aN (cg.k F) bt) ae.no ((eT.eqX F (cg.tw F) _ H).trans h) (by kernel_rfl)
 ·cases h
def cL.twX (F:Nat) (uJ:asq) (aa:Sl) (H:Hp):OA:=(uJ aa H).bind λr2=>((r2.1).asB).bind λb3=>some ((.bool (!b3)),r2.2)
def cL.tw:=cL.twX F (eT.tw F)
def cL.cs (F:Nat) (uJ:asq):Cs:=[(156,mk19 uJ)]
theorem cL.eqX (uJ:asq) (aa:Sl) (H:Hp):EX (aX (cL.cs F uJ)) aH lh0 F Try.f150 [(.sl aa)] H=cL.twX F uJ aa H:=by kernel_rfl
theorem cL.k:Ok Try.prog 150 (mk3 (cL.tw F)):=by
 intro args H v H' h
 unfold mk3 at h
 split at h
 ·exact okT (TB:=aH) Try.func150 (aN (eT.k F) bt) ae.no ((cL.eqX F (eT.tw F) _ H).trans h) (by kernel_rfl)
 ·cases h
def cM.twX (F:Nat) (jF:ass) (jG:ass) (aa:Int) (af:Sl) (H:Hp):OA:=(Hp.new H [(.int .i64 aa),(.sl af)]).bind λH3=>(Hp.new H3 [.int .i64 0,.sl ⟨none,0,.ex 0⟩]).bind λH4=>(Hp.ldI H4 .i64 H.length 0).bind λn5=>(Hp.ldSl H4 H.length (0+1)).bind λs6=>(jF n5 s6 H4).bind λr7=>((r7.1).asAgg 2).bind λl8=>(l8[0]?).bind λv9=>((v9).asI .i64).bind λn10=>(l8[1]?).bind λv11=>((v11).asSl).bind λs12=>(Hp.st r7.2 H.length 0 (.int .i64 n10)).bind λH13=>(Hp.st H13 H.length (0+1) (.sl s12)).bind λH14=>(Hp.ldI H14 .i64 H.length 0).bind λn15=>(Hp.ldSl H14 H.length (0+1)).bind λs16=>(jG n15 s16 H14).bind λr17=>((r17.1).asB).bind λb18=>(bif (!b18) then ((Hp.st r17.2 H3.length 0 (.int .i64 0)).bind λH19=>(Hp.st H19 H3.length (0+1) (.sl (⟨none,0,.ex 0⟩:Sl))).bind λH20=>(Hp.ldI H20 .i64 H3.length 0).bind λn21=>(Hp.ldSl H20 H3.length (0+1)).bind λs22=>some ((.tup [(.agg [(.int .i64 n21),(.sl s22)]),(.int .i64 3)]),H20)) else ((Hp.ldI r17.2 .i64 H.length 0).bind λn23=>(Hp.ldSl r17.2 H.length (0+1)).bind λs24=>(Hp.st r17.2 H3.length 0 (.int .i64 n23)).bind λH25=>(Hp.st H25 H3.length (0+1) (.sl s24)).bind λH26=>(Hp.ldI H26 .i64 H3.length 0).bind λn27=>(Hp.ldSl H26 H3.length (0+1)).bind λs28=>some ((.tup [(.agg [(.int .i64 n27),(.sl s28)]),(.int .i64 0)]),H26)))
def cM.tw:=cM.twX F (aW.tw F) (dA.tw F)
def cM.cs (F:Nat) (jF:ass) (jG:ass):Cs:=[(144,mk10 jF),(86,mk10 jG)]
theorem cM.eqX (jF:ass) (jG:ass) (aa:Int) (af:Sl) (H:Hp):EX (aX (cM.cs F jF jG)) aH lh0 F Try.f153 [(.agg [(.int .i64 aa),(.sl af)])] H=cM.twX F jF jG aa af H:=by kernel_rfl
theorem cM.k:Ok Try.prog 153 (mk10 (cM.tw F)):=by
 intro args H v H' h
 unfold mk10 at h
 split at h
 ·exact okT (TB:=aH) Try.func153 (aN (aW.k F) (aN (dA.k F) bt)) ae.no ((cM.eqX F (aW.tw F) (dA.tw F) _ _ H).trans h) (by kernel_rfl)
 ·cases h
def aO.j3 (F:Nat) (bE:asq) (cT:ass) (bF:ass) (pW:Nat) (BQ:Nat) (xo:Nat) (UK:Nat) (H176:Hp):OA:=(Hp.ldI H176 .i64 xo UK).bind λn177=>(Hp.ldSl H176 xo (UK+1)).bind λs178=>(bF n177 s178 H176).bind λr179=>((r179.1).asTup 2).bind λl180=>(l180[0]?).bind λv181=>((v181).asAgg 2).bind λl182=>(l182[0]?).bind λv183=>((v183).asI .i64).bind λn184=>(l182[1]?).bind λv185=>((v185).asSl).bind λs186=>(l180[1]?).bind λv187=>((v187).asI .i64).bind λn188=>(Hp.st r179.2 pW BQ (.int .i64 n184)).bind λH189=>(Hp.st H189 pW (BQ+1) (.sl s186)).bind λH190=>(Hp.ldI H190 .i64 pW BQ).bind λn191=>(Hp.ldSl H190 pW (BQ+1)).bind λs192=>some ((.tup [(.agg [(.int .i64 n191),(.sl s192)]),(.int .i64 n188)]),H190)
def aO.j4 (F:Nat) (bE:asq) (cT:ass) (bF:ass) (C125_:as_) (BR:Nat) (Ho:Nat) (mj:Int) (BS:Nat) (ahA:Nat) (ahB:Sl) (uK:Int) (uL:Int) (H284:Hp):OA:=C125_ BR Ho mj BS ahA ahB uK (wrap .i64 (uL+1)) H284
def aO.j5 (bE:asq) (cT:ass) (bF:ass) (C125_:as_) (BT:Nat) (ahC:Nat) (uM:Int) (BU:Nat) (ahD:Nat) (ahE:Sl) (uN:Int) (uO:Int) (H258:Hp):OA:=aO.j4 F bE cT bF C125_ BT ahC uM BU ahD ahE uN uO H258
def aO.l8027 (F:Nat) (bE:asq) (cT:ass) (bF:ass) (C125_:as_):Nat->Nat->Nat->Int->Nat->Nat->Sl->Int->Int->Nat->Nat->Sl->Int->Int->Hp->OA
 | 0,_,_,_,_,_,_,_,_,_,_,_,_,_,_=>none
 | Hq+1,ox,BV,iD,m_,xp,BW,kN,kO,oy,BX,BY,kP,gW,H224=>(bif (decide (gW<kP)) then ((Sl.idx BY gW 1).bind λp285=>(Hp.ldI H224 .i64 p285.1 p285.2).bind λn286=>(Hp.ldSl H224 m_ (xp+1)).bind λs287=>(Hp.ldI H224 .i64 oy BX).bind λn288=>(Sl.idx s287 (wrap .i64 ((wrap .i64 (n288 - iD))+gW)) 1).bind λp289=>(Hp.ldI H224 .i64 p289.1 p289.2).bind λn290=>(Sl.idx s287 (wrap .i64 ((wrap .i64 (n288 - iD))+gW)) 1).bind λp291=>(Hp.st H224 p291.1 p291.2 (.int .i64 (wrap .i64 (n290+n286)))).bind λH292=>aO.l8027 F bE cT bF C125_ Hq ox BV iD m_ xp BW kN kO oy BX BY kP (wrap .i64 (gW+1)) H292) else (aO.j5 F bE cT bF C125_ ox BV iD m_ xp BW kN kO H224))
termination_by structural n=>n
def aO.l125 (F:Nat) (bE:asq) (cT:ass) (bF:ass) :Nat->Nat->Nat->Int->Nat->Nat->Sl->Int->Int->Hp->OA
 | 0,_,_,_,_,_,_,_,_,_=>none
 | fY+1,oz,BZ,na,oA,B_,Ca,kQ,jH,H56=>(bif (decide (jH<kQ)) then ((Sl.idx Ca jH 2).bind λp193=>(Hp.ldI H56 .i64 p193.1 p193.2).bind λn194=>(Hp.ldSl H56 p193.1 (p193.2+1)).bind λs195=>(Hp.new H56 [.int .i64 0,.sl ⟨none,0,.ex 0⟩]).bind λH196=>(Hp.st H196 H56.length 0 (.int .i64 n194)).bind λH197=>(Hp.st H197 H56.length (0+1) (.sl s195)).bind λH198=>(Hp.ldSl H198 H56.length 1).bind λs199=>aO.l8027 F bE cT bF (aO.l125 F bE cT bF fY) F oz BZ na oA B_ Ca kQ jH H56.length 0 s199 (s199.n:Int) 0 H198) else (aO.j3 F bE cT bF oz BZ oA B_ H56))
termination_by structural n=>n
def aO.twX (bE:asq) (cT:ass) (bF:ass) (aa:Int) (af:Sl) (ar:Int) (bj:Sl) (H:Hp):OA:=(Hp.new H [(.int .i64 aa),(.sl af)]).bind λH5=>(Hp.new H5 [(.int .i64 ar),(.sl bj)]).bind λH6=>(Hp.new H6 [.int .i64 0,.sl ⟨none,0,.ex 0⟩]).bind λH7=>(Hp.ldI H7 .i64 H.length 0).bind λn8=>(Hp.ldSl H7 H.length (0+1)).bind λs9=>(Hp.ldI H7 .i64 H5.length 0).bind λn10=>(Hp.ldSl H7 H5.length (0+1)).bind λs11=>(Hp.new H7 [(.int .i64 n8),(.sl s9),(.int .i64 n10),(.sl s11)]).bind λH12=>(bE (⟨some (H7.length,0),2,.ex 2⟩:Sl) H12).bind λr13=>((r13.1).asB).bind λb14=>(bif (!b14) then ((Hp.st r13.2 H6.length 0 (.int .i64 0)).bind λH15=>(Hp.st H15 H6.length (0+1) (.sl (⟨none,0,.ex 0⟩:Sl))).bind λH16=>(Hp.ldI H16 .i64 H6.length 0).bind λn17=>(Hp.ldSl H16 H6.length (0+1)).bind λs18=>some ((.tup [(.agg [(.int .i64 n17),(.sl s18)]),(.int .i64 1)]),H16)) else ((Hp.ldI r13.2 .i64 H.length 0).bind λn19=>(Hp.ldI r13.2 .i64 H5.length 0).bind λn20=>(Hp.ldI r13.2 .i64 H.length 0).bind λn21=>(Hp.ldSl r13.2 H.length (0+1)).bind λs22=>(cT n21 s22 r13.2).bind λr23=>((r23.1).asI .i64).bind λn24=>(if aZ r13.2 r23.2 then ((Hp.ldI r23.2 .i64 H5.length 0).bind λn25=>(Hp.ldSl r23.2 H5.length (0+1)).bind λs26=>(cT n25 s26 r23.2).bind λr27=>((r27.1).asI .i64).bind λn28=>(if aZ r23.2 r27.2 then ((Hp.mk r27.2 [.int .i64 0] 8 (wrap .i64 ((wrap .i64 ((if (if n20<n19 then n20 else n19)>(if n28>n24 then n28 else n24) then (if n20<n19 then n20 else n19) else (if n28>n24 then n28 else n24)) - (if n20<n19 then n20 else n19)))+1)) (wrap .i64 ((wrap .i64 ((if (if n20<n19 then n20 else n19)>(if n28>n24 then n28 else n24) then (if n20<n19 then n20 else n19) else (if n28>n24 then n28 else n24)) - (if n20<n19 then n20 else n19)))+1))).bind λm29=>(Hp.new m29.2 [.int .i64 0,.sl ⟨none,0,.ex 0⟩]).bind λH30=>(Hp.st H30 m29.2.length 0 (.int .i64 (if n20<n19 then n20 else n19))).bind λH31=>(Hp.st H31 m29.2.length (0+1) (.sl m29.1)).bind λH32=>(Hp.ldI H32 .i64 H.length 0).bind λn33=>(Hp.ldSl H32 H.length (0+1)).bind λs34=>(Hp.ldI H32 .i64 H5.length 0).bind λn35=>(Hp.ldSl H32 H5.length (0+1)).bind λs36=>(Hp.new H32 [(.int .i64 n33),(.sl s34),(.int .i64 n35),(.sl s36)]).bind λH37=>aO.l125 F bE cT bF F H6.length 0 (if n20<n19 then n20 else n19) m29.2.length 0 (⟨some (H32.length,0),2,.ex 2⟩:Sl) ((⟨some (H32.length,0),2,.ex 2⟩:Sl).n:Int) 0 H37) else none)) else none)))
def aO.tw:=aO.twX F (cL.tw F) (cS.tw F) (cM.tw F)
def aO.lh125 (bE:asq) (cT:ass) (bF:ass) (ks:ast) (n:Nat) (tm:Tm) (H:Hp):OA:=match ks,tm 4,tm 6,tm 7,tm 37,tm 38,tm 39 with
 | [],(.ptr oz BZ),(.int .i64 na),(.ptr oA B_),(.sl Ca),(.int .i64 kQ),(.int .i64 jH)=>aO.l125 F bE cT bF n oz BZ na oA B_ Ca kQ jH H
 | _,_,_,_,_,_,_=>none
def aO.lh8027 (bE:asq) (cT:ass) (bF:ass) (ks:ast) (n:Nat) (tm:Tm) (H:Hp):OA:=match ks,tm 4,tm 6,tm 7,tm 9,tm 37,tm 38,tm 39,tm 44,tm 45,tm 46 with
 | [fY],(.ptr ox BV),(.int .i64 iD),(.ptr m_ xp),(.ptr oy BX),(.sl BW),(.int .i64 kN),(.int .i64 kO),(.sl BY),(.int .i64 kP),(.int .i64 gW)=>aO.l8027 F bE cT bF (aO.l125 F bE cT bF fY) n ox BV iD m_ xp BW kN kO oy BX BY kP gW H
 | _,_,_,_,_,_,_,_,_,_,_=>none
def aO.lh (bE:asq) (cT:ass) (bF:ass) (p:Nat) (ks:ast) (n:Nat) (tm:Tm) (H:Hp):OA:=bif p.beq 8027 then aO.lh8027 F bE cT bF ks n tm H else (bif p.beq 125 then aO.lh125 F bE cT bF ks n tm H else (none))
def aO.pn:Nat->List Nat:=cP [(4,[13])]
def aO.tb:Nat->List (List Nat):=cP [(4,[[],[],[1],[],[1,2,3],[],[1,2,3,4,5],[],[1,2,3,4,5,6,7],[1,2,3,4,5,6,7,8],[1,2,3,4,5,6,7,8,9],[0,1,2,3,4,5,6,7,8,9,10],[],[0,1,2,3,4,5,6,7,8,9,10,11,12]])]
def aO.cs (F:Nat) (bE:asq) (cT:ass) (bF:ass):Cs:=[(150,mk3 bE),(117,mk10 cT),(153,mk10 bF)]
theorem aO.loops (bE:asq) (cT:ass) (bF:ass):LO (aX (aO.cs F bE cT bF)) aO.pn (aO.lh F bE cT bF) F Try.f146:=
 (ae.rt (ae.rt (ae.rt (ae.rt (ae.lt (ae.rt (ae.block (ae.la (λn tm H r h=>by change aO.lh125 F bE cT bF [] n tm H=_ at h;unfold aO.lh125 at h;split at h;have e:bD tm [(4,_),(6,_),(7,_),(37,_),(38,_),(39,_)]:=⟨‹_›,‹_›,‹_›,‹_›,‹_›,‹_›,trivial⟩;obtain _ | k125:=n;cases h;exact ⟨_,rfl,by rw [<- bH e];exact Eq.trans (by kernel_rfl) h⟩;cases h) λk125=>(ae.rt (ae.rt (ae.lt (ae.block (ae.rt (ae.rt (ae.block (ae.la (λn tm H r h=>by change aO.lh8027 F bE cT bF [k125] n tm H=_ at h;unfold aO.lh8027 at h;split at h;have e:bD tm [(4,_),(6,_),(7,_),(9,_),(37,_),(38,_),(39,_),(44,_),(45,_),(46,_)]:=⟨‹_›,‹_›,‹_›,‹_›,‹_›,‹_›,‹_›,‹_›,‹_›,‹_›,trivial⟩;cases (show [k125]=_ from ‹_›);obtain _ | k8027:=n;cases h;exact ⟨_,rfl,by rw [<- bH e];exact Eq.trans (by kernel_rfl) h⟩;cases h) λk8027=>ae.no))))))))))))))))
theorem aO.eqX (bE:asq) (cT:ass) (bF:ass) (aa:Int) (af:Sl) (ar:Int) (bj:Sl) (H:Hp):EX (aX (aO.cs F bE cT bF)) aO.pn (aO.lh F bE cT bF) F Try.f146 [(.agg [(.int .i64 aa),(.sl af)]),(.agg [(.int .i64 ar),(.sl bj)])] H=aO.twX F bE cT bF aa af ar bj H:=by kernel_rfl
theorem aO.k:Ok Try.prog 146 (mk9 (aO.tw F)):=by
 intro args H v H' h
 unfold mk9 at h
 split at h
 ·exact okT (TB:=aO.tb) Try.func146 (aN (cL.k F) (aN (cS.k F) (aN (cM.k F) bt))) (aO.loops F (cL.tw F) (cS.tw F) (cM.tw F)) ((aO.eqX F (cL.tw F) (cS.tw F) (cM.tw F) _ _ _ _ H).trans h) (by kernel_rfl)
 ·cases h
def cz.twX (F:Nat) (uP:asu) (aa:Int) (af:Sl) (ar:Int) (bj:Sl) (H:Hp):OA:=(Hp.new H [(.int .i64 aa),(.sl af)]).bind λH5=>(Hp.new H5 [(.int .i64 ar),(.sl bj)]).bind λH6=>(Hp.new H6 [.int .i64 0,.sl ⟨none,0,.ex 0⟩]).bind λH7=>(Hp.ldI H7 .i64 H.length 0).bind λn8=>(Hp.ldSl H7 H.length (0+1)).bind λs9=>(Hp.ldI H7 .i64 H5.length 0).bind λn10=>(Hp.ldSl H7 H5.length (0+1)).bind λs11=>(uP n8 s9 n10 s11 H7).bind λr12=>((r12.1).asTup 2).bind λl13=>(l13[0]?).bind λv14=>((v14).asAgg 2).bind λl15=>(l15[0]?).bind λv16=>((v16).asI .i64).bind λn17=>(l15[1]?).bind λv18=>((v18).asSl).bind λs19=>(l13[1]?).bind λv20=>((v20).asI .i64).bind λn21=>(Hp.new r12.2 [.int .i64 0,.sl ⟨none,0,.ex 0⟩]).bind λH22=>(Hp.st H22 r12.2.length 0 (.int .i64 n17)).bind λH23=>(Hp.st H23 r12.2.length (0+1) (.sl s19)).bind λH24=>(Hp.ldI H24 .i64 r12.2.length 0).bind λn25=>(Hp.ldSl H24 r12.2.length (0+1)).bind λs26=>(Hp.st H24 H6.length 0 (.int .i64 n25)).bind λH27=>(Hp.st H27 H6.length (0+1) (.sl s26)).bind λH28=>(Hp.ldI H28 .i64 H6.length 0).bind λn29=>(Hp.ldSl H28 H6.length (0+1)).bind λs30=>some ((.agg [(.int .i64 n29),(.sl s30)]),H28)
def cz.tw:=cz.twX F (aO.tw F)
def cz.cs (F:Nat) (uP:asu):Cs:=[(146,mk9 uP)]
theorem cz.eqX (uP:asu) (aa:Int) (af:Sl) (ar:Int) (bj:Sl) (H:Hp):EX (aX (cz.cs F uP)) aH lh0 F Try.f129 [(.agg [(.int .i64 aa),(.sl af)]),(.agg [(.int .i64 ar),(.sl bj)])] H=cz.twX F uP aa af ar bj H:=by kernel_rfl
theorem cz.k:Ok Try.prog 129 (mk9 (cz.tw F)):=by
 intro args H v H' h
 unfold mk9 at h
 split at h
 ·exact okT (TB:=aH) Try.func129 (aN (aO.k F) bt) ae.no ((cz.eqX F (aO.tw F) _ _ _ _ H).trans h) (by kernel_rfl)
 ·cases h
def ev.twX (F:Nat) (aa:Int) (H:Hp):OA:=(bif (decide (aa<0)) then (some ((.int .i64 (-1)),H)) else (some ((.int .i64 1),H)))
def ev.tw:=ev.twX F
theorem ev.k:Ok Try.prog 143 (mk15 (ev.tw F)):=by
 intro args H v H' h
 unfold mk15 at h
 split at h
 ·exact ok0 Try.func143 (Eq.trans (by kernel_rfl) h) (by kernel_rfl) (by kernel_rfl)
 ·cases h
def aV.j4 (F:Nat) (bp:asC) (bu:asu) (ef:asx) (C61_:ata) (uQ:Int) (Cb:Nat) (ahF:Nat) (Cc:Nat) (ahG:Nat) (uR:Int) (uS:Int) (ahH:Sl) (uT:Int) (uU:Int) (H139:Hp):OA:=(ef uS H139).bind λr140=>((r140.1).asI .i64).bind λn141=>C61_ uQ Cb ahF Cc ahG (wrap .i64 (uR+n141)) ahH uT (wrap .i64 (uU+1)) r140.2
def aV.j5 (F:Nat) (bp:asC) (bu:asu) (ef:asx) (C61_:ata) (uV:Int) (Cd:Nat) (ahI:Nat) (Ce:Nat) (ahJ:Nat) (uW:Int) (uX:Int) (ahK:Sl) (uY:Int) (uZ:Int) (H189:Hp):OA:=(ef uX H189).bind λr190=>((r190.1).asI .i64).bind λn191=>C61_ uV Cd ahI Ce ahJ (wrap .i64 (uW+n191)) ahK uY (wrap .i64 (uZ+1)) r190.2
def aV.j6 (bp:asC) (bu:asu) (ef:asx) (C61_:ata) (u_:Int) (Cf:Nat) (ahL:Nat) (Cg:Nat) (ahM:Nat) (vd:Int) (ve:Int) (ahN:Sl) (vf:Int) (vg:Int) (H173:Hp):OA:=aV.j5 F bp bu ef C61_ u_ Cf ahL Cg ahM vd ve ahN vf vg H173
def aV.l61 (F:Nat) (bp:asC) (bu:asu) (ef:asx) :Nat->Int->Nat->Nat->Nat->Nat->Int->Sl->Int->Int->Hp->OA
 | 0,_,_,_,_,_,_,_,_,_,_=>none
 | bQ+1,gX,fX,nb,gg,iE,dE,vh,iF,gY,H15=>(bif (decide (gY<iF)) then ((Sl.idx vh gY 1).bind λp107=>(Hp.ldI H15 .i64 p107.1 p107.2).bind λn108=>(bif (n108==gX) then ((Hp.ldI H15 .i64 gg iE).bind λn109=>(Hp.ldSl H15 gg (iE+1)).bind λs110=>(bp 1 dE H15).bind λr111=>((r111.1).asAgg 2).bind λl112=>(l112[0]?).bind λv113=>((v113).asI .i64).bind λn114=>(l112[1]?).bind λv115=>((v115).asSl).bind λs116=>(if aZ H15 r111.2 then ((bu n109 s110 n114 s116 r111.2).bind λr117=>((r117.1).asAgg 2).bind λl118=>(l118[0]?).bind λv119=>((v119).asI .i64).bind λn120=>(l118[1]?).bind λv121=>((v121).asSl).bind λs122=>(Hp.st r117.2 gg iE (.int .i64 n120)).bind λH123=>(Hp.st H123 gg (iE+1) (.sl s122)).bind λH124=>aV.j4 F bp bu ef (aV.l61 F bp bu ef bQ) gX fX nb gg iE dE n108 vh iF gY H124) else none)) else ((bif (n108==(wrap .i64 (0 - gX))) then ((Hp.ldI H15 .i64 gg iE).bind λn142=>(Hp.ldSl H15 gg (iE+1)).bind λs143=>(bp (-1) (wrap .i64 (dE - 1)) H15).bind λr144=>((r144.1).asAgg 2).bind λl145=>(l145[0]?).bind λv146=>((v146).asI .i64).bind λn147=>(l145[1]?).bind λv148=>((v148).asSl).bind λs149=>(if aZ H15 r144.2 then ((bu n142 s143 n147 s149 r144.2).bind λr150=>((r150.1).asAgg 2).bind λl151=>(l151[0]?).bind λv152=>((v152).asI .i64).bind λn153=>(l151[1]?).bind λv154=>((v154).asSl).bind λs155=>(Hp.st r150.2 gg iE (.int .i64 n153)).bind λH156=>(Hp.st H156 gg (iE+1) (.sl s155)).bind λH157=>aV.j6 F bp bu ef (aV.l61 F bp bu ef bQ) gX fX nb gg iE dE n108 vh iF gY H157) else none)) else (aV.j6 F bp bu ef (aV.l61 F bp bu ef bQ) gX fX nb gg iE dE n108 vh iF gY H15))))) else ((Hp.ldI H15 .i64 gg iE).bind λn192=>(Hp.ldSl H15 gg (iE+1)).bind λs193=>(Hp.st H15 fX nb (.int .i64 n192)).bind λH194=>(Hp.st H194 fX (nb+1) (.sl s193)).bind λH195=>(Hp.ldI H195 .i64 fX nb).bind λn196=>(Hp.ldSl H195 fX (nb+1)).bind λs197=>some ((.agg [(.int .i64 n196),(.sl s197)]),H195)))
termination_by structural n=>n
def aV.twX (bp:asC) (bu:asu) (ef:asx) (aa:Sl) (au:Int) (H:Hp):OA:=(Hp.new H [.int .i64 0,.sl ⟨none,0,.ex 0⟩]).bind λH3=>(Hp.new H3 [.int .i64 0,.sl ⟨none,0,.ex 0⟩]).bind λH4=>aV.l61 F bp bu ef F au H.length 0 H3.length 0 0 aa (aa.n:Int) 0 H4
def aV.tw:=aV.twX F (cq.tw F) (cz.tw F) (ev.tw F)
def aV.lh61 (bp:asC) (bu:asu) (ef:asx) (ks:ast) (n:Nat) (tm:Tm) (H:Hp):OA:=match ks,tm 1,tm 4,tm 5,tm 6,tm 9,tm 10,tm 11 with
 | [],(.int .i64 gX),(.ptr fX nb),(.ptr gg iE),(.int .i64 dE),(.sl vh),(.int .i64 iF),(.int .i64 gY)=>aV.l61 F bp bu ef n gX fX nb gg iE dE vh iF gY H
 | _,_,_,_,_,_,_,_=>none
def aV.lh (bp:asC) (bu:asu) (ef:asx) (p:Nat) (ks:ast) (n:Nat) (tm:Tm) (H:Hp):OA:=bif p.beq 61 then aV.lh61 F bp bu ef ks n tm H else (none)
def aV.pn:Nat->List Nat:=cP [(8,[3,4]),(10,[4,5])]
def aV.tb:Nat->List (List Nat):=cP [(8,[[],[],[1],[0,1,2],[0,1,2,3]]),(10,[[],[],[1],[1,2],[0,1,2,3],[0,1,2,3,4]])]
def aV.cs (F:Nat) (bp:asC) (bu:asu) (ef:asx):Cs:=[(127,mk17 bp),(129,mk9 bu),(143,mk15 ef)]
theorem aV.loops (bp:asC) (bu:asu) (ef:asx):LO (aX (aV.cs F bp bu ef)) aV.pn (aV.lh F bp bu ef) F Try.f125:=
 (ae.rt (ae.rt (ae.rt (ae.lt (ae.rt (ae.block (ae.la (λn tm H r h=>by change aV.lh61 F bp bu ef [] n tm H=_ at h;unfold aV.lh61 at h;split at h;have e:bD tm [(1,_),(4,_),(5,_),(6,_),(9,_),(10,_),(11,_)]:=⟨‹_›,‹_›,‹_›,‹_›,‹_›,‹_›,‹_›,trivial⟩;obtain _ | k61:=n;cases h;exact ⟨_,rfl,by rw [<- bH e];exact Eq.trans (by kernel_rfl) h⟩;cases h) λk61=>ae.no)))))))
theorem aV.eqX (bp:asC) (bu:asu) (ef:asx) (aa:Sl) (au:Int) (H:Hp):EX (aX (aV.cs F bp bu ef)) aV.pn (aV.lh F bp bu ef) F Try.f125 [(.sl aa),(.int .i64 au)] H=aV.twX F bp bu ef aa au H:=by kernel_rfl
theorem aV.k:Ok Try.prog 125 (mk0 (aV.tw F)):=by
 intro args H v H' h
 unfold mk0 at h
 split at h
 ·exact okT (TB:=aV.tb) Try.func125 (aN (cq.k F) (aN (cz.k F) (aN (ev.k F) bt))) (aV.loops F (cq.tw F) (cz.tw F) (ev.tw F)) ((aV.eqX F (cq.tw F) (cz.tw F) (ev.tw F) _ _ H).trans h) (by kernel_rfl)
 ·cases h
def aY.j3 (F:Nat) (bz:aso) (dN:aso) (dO:aso) (C61_:atb) (vi:Int) (ahO:Sl) (ahP:Sl) (vj:Int) (vk:Int) (H163:Hp):OA:=C61_ vi ahO ahP vj (wrap .i64 (vk+1)) H163
def aY.j4 (bz:aso) (dN:aso) (dO:aso) (C61_:atb) (vl:Int) (ahQ:Sl) (ahR:Sl) (ahS:Sl) (vm:Int) (vn:Int) (H143:Hp):OA:=(Hp.new H143 [(.sl ahR)]).bind λH144=>(Sl.row H144 (⟨some (H143.length,0),1,.ex 1⟩:Sl) 1).bind λxs146=>(Hp.app H144 1 24 ahQ (⟨some (H143.length,0),1,.ex 1⟩:Sl).n xs146).bind λa145=>aY.j3 F bz dN dO C61_ vl a145.1 ahS vm vn a145.2
def aY.l15725 (F:Nat) (bz:aso) (dN:aso) (dO:aso) (C61_:atb):Nat->Int->Sl->Sl->Int->Int->Sl->Sl->Int->Int->Hp->OA
 | 0,_,_,_,_,_,_,_,_,_,_=>none
 | Hl+1,kR,Ch,Ci,kS,kT,Cj,Ck,kU,jI,H117=>(bif (decide (jI<kU)) then ((dO Cj (wrap .i64 (jI+1)) H117).bind λr164=>((r164.1).asAgg 2).bind λl165=>(l165[0]?).bind λv166=>((v166).asI .i64).bind λn167=>(l165[1]?).bind λv168=>((v168).asSl).bind λs169=>(Hp.new r164.2 [(.int .i64 n167),(.sl s169)]).bind λH170=>(Sl.row H170 (⟨some (r164.2.length,0),1,.ex 1⟩:Sl) 2).bind λxs172=>(Hp.app H170 2 32 Ck (⟨some (r164.2.length,0),1,.ex 1⟩:Sl).n xs172).bind λa171=>aY.l15725 F bz dN dO C61_ Hl kR Ch Ci kS kT Cj a171.1 kU (wrap .i64 (jI+1)) a171.2) else (aY.j4 F bz dN dO C61_ kR Ch Ck Ci kS kT H117))
def aY.l61 (F:Nat) (bz:aso) (dN:aso) (dO:aso) :Nat->Int->Sl->Sl->Int->Int->Hp->OA
 | 0,_,_,_,_,_,_=>none
 | bQ+1,kV,mh,Cl,kW,jJ,H26=>(bif (decide (jJ<kW)) then ((Sl.idx Cl jJ 1).bind λp100=>(Hp.ldSl H26 p100.1 p100.2).bind λs101=>aY.l15725 F bz dN dO (aY.l61 F bz dN dO bQ) F kV mh Cl kW jJ s101 (⟨none,0,.ex 0⟩:Sl) kV 0 H26) else (some ((.sl mh),H26)))
def aY.twX (bz:aso) (dN:aso) (dO:aso) (aa:Sl) (af:Int) (H:Hp):OA:=(Hp.new H [(.sl aa),(.int .i64 af)]).bind λH3=>(Hp.ldSl H3 H.length 0).bind λs4=>(Hp.ldI H3 .i64 H.length (0+1)).bind λn5=>(bz s4 n5 H3).bind λr6=>((r6.1).asTup 2).bind λl7=>(l7[0]?).bind λv8=>((v8).asSl).bind λs9=>(l7[1]?).bind λv10=>((v10).asI .i64).bind λn11=>(Hp.ldSl r6.2 H.length 0).bind λs12=>(Hp.ldI r6.2 .i64 H.length (0+1)).bind λn13=>(dN s12 n13 r6.2).bind λr14=>((r14.1).asSl).bind λs15=>aY.l61 F bz dN dO F n11 (⟨none,0,.ex 0⟩:Sl) s15 (s15.n:Int) 0 r14.2
def aY.tw:=aY.twX F (bg.tw F) (bL.tw F) (aV.tw F)
def aY.lh61 (bz:aso) (dN:aso) (dO:aso) (ks:ast) (n:Nat) (tm:Tm) (H:Hp):OA:=match ks,tm 4,tm 5,tm 16,tm 17,tm 18 with
 | [],(.int .i64 kV),(.sl mh),(.sl Cl),(.int .i64 kW),(.int .i64 jJ)=>aY.l61 F bz dN dO n kV mh Cl kW jJ H
 | _,_,_,_,_,_=>none
def aY.lh15725 (bz:aso) (dN:aso) (dO:aso) (ks:ast) (n:Nat) (tm:Tm) (H:Hp):OA:=match ks,tm 4,tm 5,tm 7,tm 8,tm 16,tm 17,tm 18,tm 22,tm 23 with
 | [bQ],(.int .i64 kR),(.sl Ch),(.sl Cj),(.sl Ck),(.sl Ci),(.int .i64 kS),(.int .i64 kT),(.int .i64 kU),(.int .i64 jI)=>aY.l15725 F bz dN dO (aY.l61 F bz dN dO bQ) n kR Ch Ci kS kT Cj Ck kU jI H
 | _,_,_,_,_,_,_,_,_,_=>none
def aY.lh (bz:aso) (dN:aso) (dO:aso) (p:Nat) (ks:ast) (n:Nat) (tm:Tm) (H:Hp):OA:=bif p.beq 15725 then aY.lh15725 F bz dN dO ks n tm H else (bif p.beq 61 then aY.lh61 F bz dN dO ks n tm H else (none))
def aY.cs (F:Nat) (bz:aso) (dN:aso) (dO:aso):Cs:=[(91,mk4 bz),(124,mk4 dN),(125,mk0 dO)]
theorem aY.loops (bz:aso) (dN:aso) (dO:aso):LO (aX (aY.cs F bz dN dO)) aH (aY.lh F bz dN dO) F Try.f90:=
 (ae.rt (ae.rt (ae.rt (ae.lt (ae.rt (ae.block (ae.la (λn tm H r h=>by change aY.lh61 F bz dN dO [] n tm H=_ at h;unfold aY.lh61 at h;split at h;have e:bD tm [(4,_),(5,_),(16,_),(17,_),(18,_)]:=⟨‹_›,‹_›,‹_›,‹_›,‹_›,trivial⟩;obtain _ | k61:=n;cases h;exact ⟨_,rfl,by rw [<- bH e];exact Eq.trans (by kernel_rfl) h⟩;cases h) λk61=>(ae.rt (ae.rt (ae.lt (ae.block (ae.rt (ae.rt (ae.lt (ae.rt (ae.block (ae.la (λn tm H r h=>by change aY.lh15725 F bz dN dO [k61] n tm H=_ at h;unfold aY.lh15725 at h;split at h;have e:bD tm [(4,_),(5,_),(7,_),(8,_),(16,_),(17,_),(18,_),(22,_),(23,_)]:=⟨‹_›,‹_›,‹_›,‹_›,‹_›,‹_›,‹_›,‹_›,‹_›,trivial⟩;cases (show [k61]=_ from ‹_›);obtain _ | k15725:=n;cases h;exact ⟨_,rfl,by rw [<- bH e];exact Eq.trans (by kernel_rfl) h⟩;cases h) λk15725=>ae.no)))))))))))))))))
theorem aY.eqX (bz:aso) (dN:aso) (dO:aso) (aa:Sl) (af:Int) (H:Hp):EX (aX (aY.cs F bz dN dO)) aH (aY.lh F bz dN dO) F Try.f90 [(.agg [(.sl aa),(.int .i64 af)])] H=aY.twX F bz dN dO aa af H:=by kernel_rfl
theorem aY.k:Ok Try.prog 90 (mk4 (aY.tw F)):=by
 intro args H v H' h
 unfold mk4 at h
 split at h
 ·exact okT (TB:=aH) Try.func90 (aN (bg.k F) (aN (bL.k F) (aN (aV.k F) bt))) (aY.loops F (bg.tw F) (bL.tw F) (aV.tw F)) ((aY.eqX F (bg.tw F) (bL.tw F) (aV.tw F) _ _ H).trans h) (by kernel_rfl)
 ·cases h
def ew.twX (F:Nat) (aa:Sl) (H:Hp):OA:=some ((.int .i64 (aa.n:Int)),H)
def ew.tw:=ew.twX F
theorem ew.k:Ok Try.prog 92 (mk3 (ew.tw F)):=by
 intro args H v H' h
 unfold mk3 at h
 split at h
 ·exact ok0 Try.func92 (Eq.trans (by kernel_rfl) h) (by kernel_rfl) (by kernel_rfl)
 ·cases h
def dR.twX (F:Nat) (aa:Int) (H:Hp):OA:=(bif (decide (aa<0)) then (some ((.int .i64 (wrap .i64 (0 - aa))),H)) else (some ((.int .i64 aa),H)))
def dR.tw:=dR.twX F
theorem dR.k:Ok Try.prog 35 (mk15 (dR.tw F)):=by
 intro args H v H' h
 unfold mk15 at h
 split at h
 ·exact ok0 Try.func35 (Eq.trans (by kernel_rfl) h) (by kernel_rfl) (by kernel_rfl)
 ·cases h
def bJ.l29 (F:Nat) (eD:asx) :Nat->Int->Sl->Int->Int->Hp->OA
 | 0,_,_,_,_,_=>none
 | gG+1,eJ,Cm,kX,jK,H14=>(bif (decide (jK<kX)) then ((Sl.idx Cm jK 1).bind λp19=>(Hp.ldI H14 .i64 p19.1 p19.2).bind λn20=>(eD n20 H14).bind λr21=>((r21.1).asI .i64).bind λn22=>bJ.l29 F eD gG (wrap .i64 (eJ+n22)) Cm kX (wrap .i64 (jK+1)) r21.2) else (some ((.int .i64 eJ),H14)))
def bJ.twX (eD:asx) (aa:Int) (af:Sl) (H:Hp):OA:=(Hp.new H [(.int .i64 aa),(.sl af)]).bind λH3=>(Hp.ldSl H3 H.length 1).bind λs4=>bJ.l29 F eD F 0 s4 (s4.n:Int) 0 H3
def bJ.tw:=bJ.twX F (dR.tw F)
def bJ.lh29 (eD:asx) (ks:ast) (n:Nat) (tm:Tm) (H:Hp):OA:=match ks,tm 3,tm 7,tm 8,tm 9 with
 | [],(.int .i64 eJ),(.sl Cm),(.int .i64 kX),(.int .i64 jK)=>bJ.l29 F eD n eJ Cm kX jK H
 | _,_,_,_,_=>none
def bJ.lh (eD:asx) (p:Nat) (ks:ast) (n:Nat) (tm:Tm) (H:Hp):OA:=bif p.beq 29 then bJ.lh29 F eD ks n tm H else (none)
def bJ.cs (F:Nat) (eD:asx):Cs:=[(35,mk15 eD)]
theorem bJ.loops (eD:asx):LO (aX (bJ.cs F eD)) aH (bJ.lh F eD) F Try.f152:=
 (ae.rt (ae.rt (ae.lt (ae.rt (ae.block (ae.la (λn tm H r h=>by change bJ.lh29 F eD [] n tm H=_ at h;unfold bJ.lh29 at h;split at h;have e:bD tm [(3,_),(7,_),(8,_),(9,_)]:=⟨‹_›,‹_›,‹_›,‹_›,trivial⟩;obtain _ | k29:=n;cases h;exact ⟨_,rfl,by rw [<- bH e];exact Eq.trans (by kernel_rfl) h⟩;cases h) λk29=>ae.no))))))
theorem bJ.eqX (eD:asx) (aa:Int) (af:Sl) (H:Hp):EX (aX (bJ.cs F eD)) aH (bJ.lh F eD) F Try.f152 [(.agg [(.int .i64 aa),(.sl af)])] H=bJ.twX F eD aa af H:=by kernel_rfl
theorem bJ.k:Ok Try.prog 152 (mk10 (bJ.tw F)):=by
 intro args H v H' h
 unfold mk10 at h
 split at h
 ·exact okT (TB:=aH) Try.func152 (aN (dR.k F) bt) (bJ.loops F (dR.tw F)) ((bJ.eqX F (dR.tw F) _ _ H).trans h) (by kernel_rfl)
 ·cases h
def dG.twX (F:Nat) (eD:asx) (aa:Int) (au:Int) (cQ:Int) (H:Hp):OA:=(bif (aa != 0) then ((eD au H).bind λr4=>((r4.1).asI .i64).bind λn5=>(eD aa r4.2).bind λr6=>((r6.1).asI .i64).bind λn7=>(if n7=0 then none else ((bif (decide (n5>(wrap .i64 (Int.tdiv cQ n7)))) then (some ((.tup [(.int .i64 0),(.bool false)]),r6.2)) else (some ((.tup [(.int .i64 (wrap .i64 (aa * au))),(.bool true)]),r6.2)))))) else (some ((.tup [(.int .i64 (wrap .i64 (aa * au))),(.bool true)]),H)))
def dG.tw:=dG.twX F (dR.tw F)
def dG.cs (F:Nat) (eD:asx):Cs:=[(35,mk15 eD)]
theorem dG.eqX (eD:asx) (aa:Int) (au:Int) (cQ:Int) (H:Hp):EX (aX (dG.cs F eD)) aH lh0 F Try.f151 [(.int .i64 aa),(.int .i64 au),(.int .i64 cQ)] H=dG.twX F eD aa au cQ H:=by kernel_rfl
theorem dG.k:Ok Try.prog 151 (mk5 (dG.tw F)):=by
 intro args H v H' h
 unfold mk5 at h
 split at h
 ·exact okT (TB:=aH) Try.func151 (aN (dR.k F) bt) ae.no ((dG.eqX F (dR.tw F) _ _ _ H).trans h) (by kernel_rfl)
 ·cases h
def aQ.j3 (F:Nat) (bE:asq) (dw:ass) (dB:asA) (bF:ass) (jY:Nat) (tE:Nat) (xq:Nat) (UL:Nat) (H183:Hp):OA:=(Hp.ldI H183 .i64 xq UL).bind λn184=>(Hp.ldSl H183 xq (UL+1)).bind λs185=>(bF n184 s185 H183).bind λr186=>((r186.1).asTup 2).bind λl187=>(l187[0]?).bind λv188=>((v188).asAgg 2).bind λl189=>(l189[0]?).bind λv190=>((v190).asI .i64).bind λn191=>(l189[1]?).bind λv192=>((v192).asSl).bind λs193=>(l187[1]?).bind λv194=>((v194).asI .i64).bind λn195=>(Hp.st r186.2 jY tE (.int .i64 n191)).bind λH196=>(Hp.st H196 jY (tE+1) (.sl s193)).bind λH197=>(Hp.ldI H197 .i64 jY tE).bind λn198=>(Hp.ldSl H197 jY (tE+1)).bind λs199=>some ((.tup [(.agg [(.int .i64 n198),(.sl s199)]),(.int .i64 n195)]),H197)
def aQ.j4 (F:Nat) (bE:asq) (dw:ass) (dB:asA) (bF:ass) (C125_:as3) (Cn:Nat) (ahT:Nat) (Co:Nat) (ahU:Nat) (Cp:Nat) (ahV:Nat) (ahW:Sl) (vo:Int) (vp:Int) (H289:Hp):OA:=C125_ Cn ahT Co ahU Cp ahV ahW vo (wrap .i64 (vp+1)) H289
def aQ.j5 (bE:asq) (dw:ass) (dB:asA) (bF:ass) (C125_:as3) (Cq:Nat) (ahX:Nat) (Ct:Nat) (ahY:Nat) (Cu:Nat) (ahZ:Nat) (ah0:Sl) (vq:Int) (vr:Int) (H262:Hp):OA:=aQ.j4 F bE dw dB bF C125_ Cq ahX Ct ahY Cu ahZ ah0 vq vr H262
def aQ.l8027 (F:Nat) (bE:asq) (dw:ass) (dB:asA) (bF:ass) (C125_:as3):Nat->Nat->Nat->Nat->Nat->Nat->Nat->Sl->Int->Int->Int->Int->Sl->Int->Int->Hp->OA
 | 0,_,_,_,_,_,_,_,_,_,_,_,_,_,_,_=>none
 | Hq+1,oB,Cv,oC,Cw,ng,xr,Cx,kY,kZ,jL,k_,Cy,lf,gZ,H228=>(bif (decide (gZ<lf)) then ((Sl.idx Cy gZ 1).bind λp290=>(Hp.ldI H228 .i64 p290.1 p290.2).bind λn291=>(Hp.ldSl H228 ng (xr+1)).bind λs292=>(Sl.idx s292 (wrap .i64 (jL+gZ)) 1).bind λp293=>(Hp.ldI H228 .i64 p293.1 p293.2).bind λn294=>(Sl.idx s292 (wrap .i64 (jL+gZ)) 1).bind λp295=>(Hp.st H228 p295.1 p295.2 (.int .i64 (wrap .i64 (n294+(wrap .i64 (k_ * n291)))))).bind λH296=>aQ.l8027 F bE dw dB bF C125_ Hq oB Cv oC Cw ng xr Cx kY kZ jL k_ Cy lf (wrap .i64 (gZ+1)) H296) else (aQ.j5 F bE dw dB bF C125_ oB Cv oC Cw ng xr Cx kY kZ H228))
termination_by structural n=>n
def aQ.l125 (F:Nat) (bE:asq) (dw:ass) (dB:asA) (bF:ass) :Nat->Nat->Nat->Nat->Nat->Nat->Nat->Sl->Int->Int->Hp->OA
 | 0,_,_,_,_,_,_,_,_,_,_=>none
 | fY+1,oD,Cz,oE,CA,oF,CB,CC,lg,iG,H65=>(bif (decide (iG<lg)) then ((Sl.idx CC iG 1).bind λp200=>(Hp.ldI H65 .i64 p200.1 p200.2).bind λn201=>(Hp.ldSl H65 oD (Cz+1)).bind λs202=>aQ.l8027 F bE dw dB bF (aQ.l125 F bE dw dB bF fY) F oD Cz oE CA oF CB CC lg iG iG n201 s202 (s202.n:Int) 0 H65) else (aQ.j3 F bE dw dB bF oE CA oF CB H65))
termination_by structural n=>n
def aQ.twX (bE:asq) (dw:ass) (dB:asA) (bF:ass) (aa:Int) (af:Sl) (ar:Int) (bj:Sl) (H:Hp):OA:=(Hp.new H [(.int .i64 aa),(.sl af)]).bind λH5=>(Hp.new H5 [(.int .i64 ar),(.sl bj)]).bind λH6=>(Hp.new H6 [.int .i64 0,.sl ⟨none,0,.ex 0⟩]).bind λH7=>(Hp.ldI H7 .i64 H.length 0).bind λn8=>(Hp.ldSl H7 H.length (0+1)).bind λs9=>(Hp.ldI H7 .i64 H5.length 0).bind λn10=>(Hp.ldSl H7 H5.length (0+1)).bind λs11=>(Hp.new H7 [(.int .i64 n8),(.sl s9),(.int .i64 n10),(.sl s11)]).bind λH12=>(bE (⟨some (H7.length,0),2,.ex 2⟩:Sl) H12).bind λr13=>((r13.1).asB).bind λb14=>(bif (!b14) then ((Hp.st r13.2 H6.length 0 (.int .i64 0)).bind λH15=>(Hp.st H15 H6.length (0+1) (.sl (⟨none,0,.ex 0⟩:Sl))).bind λH16=>(Hp.ldI H16 .i64 H6.length 0).bind λn17=>(Hp.ldSl H16 H6.length (0+1)).bind λs18=>some ((.tup [(.agg [(.int .i64 n17),(.sl s18)]),(.int .i64 1)]),H16)) else ((Hp.ldI r13.2 .i64 H.length 0).bind λn19=>(Hp.ldSl r13.2 H.length (0+1)).bind λs20=>(dw n19 s20 r13.2).bind λr21=>((r21.1).asI .i64).bind λn22=>(if aZ r13.2 r21.2 then ((Hp.ldI r21.2 .i64 H5.length 0).bind λn23=>(Hp.ldSl r21.2 H5.length (0+1)).bind λs24=>(dw n23 s24 r21.2).bind λr25=>((r25.1).asI .i64).bind λn26=>(dB n22 n26 1000000000000 r25.2).bind λr27=>((r27.1).asTup 2).bind λl28=>(l28[0]?).bind λv29=>((v29).asI .i64).bind λn30=>(l28[1]?).bind λv31=>((v31).asB).bind λb32=>(bif (!b32) then ((Hp.st r27.2 H6.length 0 (.int .i64 0)).bind λH33=>(Hp.st H33 H6.length (0+1) (.sl (⟨none,0,.ex 0⟩:Sl))).bind λH34=>(Hp.ldI H34 .i64 H6.length 0).bind λn35=>(Hp.ldSl H34 H6.length (0+1)).bind λs36=>some ((.tup [(.agg [(.int .i64 n35),(.sl s36)]),(.int .i64 3)]),H34)) else ((Hp.ldI r27.2 .i64 H.length 0).bind λn37=>(Hp.ldI r27.2 .i64 H5.length 0).bind λn38=>(Hp.ldSl r27.2 H.length 1).bind λs39=>(Hp.ldSl r27.2 H5.length 1).bind λs40=>(Hp.mk r27.2 [.int .i64 0] 8 (wrap .i64 ((s39.n:Int)+(s40.n:Int))) (wrap .i64 ((s39.n:Int)+(s40.n:Int)))).bind λm41=>(Hp.new m41.2 [.int .i64 0,.sl ⟨none,0,.ex 0⟩]).bind λH42=>(Hp.st H42 m41.2.length 0 (.int .i64 (wrap .i64 (n37+n38)))).bind λH43=>(Hp.st H43 m41.2.length (0+1) (.sl m41.1)).bind λH44=>(Hp.ldSl H44 H.length 1).bind λs45=>aQ.l125 F bE dw dB bF F H5.length 0 H6.length 0 m41.2.length 0 s45 (s45.n:Int) 0 H44))) else none)))
def aQ.tw:=aQ.twX F (cL.tw F) (bJ.tw F) (dG.tw F) (cM.tw F)
def aQ.lh125 (bE:asq) (dw:ass) (dB:asA) (bF:ass) (ks:ast) (n:Nat) (tm:Tm) (H:Hp):OA:=match ks,tm 3,tm 4,tm 8,tm 45,tm 46,tm 47 with
 | [],(.ptr oD Cz),(.ptr oE CA),(.ptr oF CB),(.sl CC),(.int .i64 lg),(.int .i64 iG)=>aQ.l125 F bE dw dB bF n oD Cz oE CA oF CB CC lg iG H
 | _,_,_,_,_,_,_=>none
def aQ.lh8027 (bE:asq) (dw:ass) (dB:asA) (bF:ass) (ks:ast) (n:Nat) (tm:Tm) (H:Hp):OA:=match ks,tm 3,tm 4,tm 8,tm 9,tm 10,tm 45,tm 46,tm 47,tm 53,tm 54,tm 55 with
 | [fY],(.ptr oB Cv),(.ptr oC Cw),(.ptr ng xr),(.int .i64 jL),(.int .i64 k_),(.sl Cx),(.int .i64 kY),(.int .i64 kZ),(.sl Cy),(.int .i64 lf),(.int .i64 gZ)=>aQ.l8027 F bE dw dB bF (aQ.l125 F bE dw dB bF fY) n oB Cv oC Cw ng xr Cx kY kZ jL k_ Cy lf gZ H
 | _,_,_,_,_,_,_,_,_,_,_,_=>none
def aQ.lh (bE:asq) (dw:ass) (dB:asA) (bF:ass) (p:Nat) (ks:ast) (n:Nat) (tm:Tm) (H:Hp):OA:=bif p.beq 8027 then aQ.lh8027 F bE dw dB bF ks n tm H else (bif p.beq 125 then aQ.lh125 F bE dw dB bF ks n tm H else (none))
def aQ.pn:Nat->List Nat:=cP [(3,[3,4]),(6,[15])]
def aQ.tb:Nat->List (List Nat):=cP [(3,[[],[0],[],[0,1,2],[0,1,2,3],[0,1,2,3,4],[0,1,2,3,4,5],[0,1,2,3,4,5],[0,1,2,3,4,5,6],[0,1,2,3,4,5,6,7,8]]),(6,[[],[0],[],[2],[0,1,2,3],[],[5],[5,6],[],[8],[8,9],[5,6,7,8,9,10],[5,6,7,8,9,10,11],[0,1,2,3,4,5,6,7,8,9,10,11,12],[],[0,1,2,3,4,5,6,7,8,9,10,11,12,13,14]])]
def aQ.cs (F:Nat) (bE:asq) (dw:ass) (dB:asA) (bF:ass):Cs:=[(150,mk3 bE),(152,mk10 dw),(151,mk5 dB),(153,mk10 bF)]
theorem aQ.loops (bE:asq) (dw:ass) (dB:asA) (bF:ass):LO (aX (aQ.cs F bE dw dB bF)) aQ.pn (aQ.lh F bE dw dB bF) F Try.f145:=
 (ae.rt (ae.rt (ae.rt (ae.rt (ae.lt (ae.rt (ae.block (ae.la (λn tm H r h=>by change aQ.lh125 F bE dw dB bF [] n tm H=_ at h;unfold aQ.lh125 at h;split at h;have e:bD tm [(3,_),(4,_),(8,_),(45,_),(46,_),(47,_)]:=⟨‹_›,‹_›,‹_›,‹_›,‹_›,‹_›,trivial⟩;obtain _ | k125:=n;cases h;exact ⟨_,rfl,by rw [<- bH e];exact Eq.trans (by kernel_rfl) h⟩;cases h) λk125=>(ae.rt (ae.rt (ae.lt (ae.block (ae.rt (ae.rt (ae.block (ae.la (λn tm H r h=>by change aQ.lh8027 F bE dw dB bF [k125] n tm H=_ at h;unfold aQ.lh8027 at h;split at h;have e:bD tm [(3,_),(4,_),(8,_),(9,_),(10,_),(45,_),(46,_),(47,_),(53,_),(54,_),(55,_)]:=⟨‹_›,‹_›,‹_›,‹_›,‹_›,‹_›,‹_›,‹_›,‹_›,‹_›,‹_›,trivial⟩;cases (show [k125]=_ from ‹_›);obtain _ | k8027:=n;cases h;exact ⟨_,rfl,by rw [<- bH e];exact Eq.trans (by kernel_rfl) h⟩;cases h) λk8027=>ae.no))))))))))))))))
theorem aQ.eqX (bE:asq) (dw:ass) (dB:asA) (bF:ass) (aa:Int) (af:Sl) (ar:Int) (bj:Sl) (H:Hp):EX (aX (aQ.cs F bE dw dB bF)) aQ.pn (aQ.lh F bE dw dB bF) F Try.f145 [(.agg [(.int .i64 aa),(.sl af)]),(.agg [(.int .i64 ar),(.sl bj)])] H=aQ.twX F bE dw dB bF aa af ar bj H:=by kernel_rfl
theorem aQ.k:Ok Try.prog 145 (mk9 (aQ.tw F)):=by
 intro args H v H' h
 unfold mk9 at h
 split at h
 ·exact okT (TB:=aQ.tb) Try.func145 (aN (cL.k F) (aN (bJ.k F) (aN (dG.k F) (aN (cM.k F) bt)))) (aQ.loops F (cL.tw F) (bJ.tw F) (dG.tw F) (cM.tw F)) ((aQ.eqX F (cL.tw F) (bJ.tw F) (dG.tw F) (cM.tw F) _ _ _ _ H).trans h) (by kernel_rfl)
 ·cases h
def dc.twX (F:Nat) (vt:asu) (aa:Int) (af:Sl) (ar:Int) (bj:Sl) (H:Hp):OA:=(Hp.new H [(.int .i64 aa),(.sl af)]).bind λH5=>(Hp.new H5 [(.int .i64 ar),(.sl bj)]).bind λH6=>(Hp.new H6 [.int .i64 0,.sl ⟨none,0,.ex 0⟩]).bind λH7=>(Hp.ldI H7 .i64 H.length 0).bind λn8=>(Hp.ldSl H7 H.length (0+1)).bind λs9=>(Hp.ldI H7 .i64 H5.length 0).bind λn10=>(Hp.ldSl H7 H5.length (0+1)).bind λs11=>(vt n8 s9 n10 s11 H7).bind λr12=>((r12.1).asTup 2).bind λl13=>(l13[0]?).bind λv14=>((v14).asAgg 2).bind λl15=>(l15[0]?).bind λv16=>((v16).asI .i64).bind λn17=>(l15[1]?).bind λv18=>((v18).asSl).bind λs19=>(l13[1]?).bind λv20=>((v20).asI .i64).bind λn21=>(Hp.new r12.2 [.int .i64 0,.sl ⟨none,0,.ex 0⟩]).bind λH22=>(Hp.st H22 r12.2.length 0 (.int .i64 n17)).bind λH23=>(Hp.st H23 r12.2.length (0+1) (.sl s19)).bind λH24=>(Hp.ldI H24 .i64 r12.2.length 0).bind λn25=>(Hp.ldSl H24 r12.2.length (0+1)).bind λs26=>(Hp.st H24 H6.length 0 (.int .i64 n25)).bind λH27=>(Hp.st H27 H6.length (0+1) (.sl s26)).bind λH28=>(Hp.ldI H28 .i64 H6.length 0).bind λn29=>(Hp.ldSl H28 H6.length (0+1)).bind λs30=>some ((.agg [(.int .i64 n29),(.sl s30)]),H28)
def dc.tw:=dc.twX F (aQ.tw F)
def dc.cs (F:Nat) (vt:asu):Cs:=[(145,mk9 vt)]
theorem dc.eqX (vt:asu) (aa:Int) (af:Sl) (ar:Int) (bj:Sl) (H:Hp):EX (aX (dc.cs F vt)) aH lh0 F Try.f128 [(.agg [(.int .i64 aa),(.sl af)]),(.agg [(.int .i64 ar),(.sl bj)])] H=dc.twX F vt aa af ar bj H:=by kernel_rfl
theorem dc.k:Ok Try.prog 128 (mk9 (dc.tw F)):=by
 intro args H v H' h
 unfold mk9 at h
 split at h
 ·exact okT (TB:=aH) Try.func128 (aN (aQ.k F) bt) ae.no ((dc.eqX F (aQ.tw F) _ _ _ _ H).trans h) (by kernel_rfl)
 ·cases h
def dS.twX (F:Nat) (aa:Int) (H:Hp):OA:=some ((.int .i64 (wrap .i64 (1 - (wrap .i64 (2 * (Int.tmod aa 2)))))),H)
def dS.tw:=dS.twX F
theorem dS.k:Ok Try.prog 130 (mk15 (dS.tw F)):=by
 intro args H v H' h
 unfold mk15 at h
 split at h
 ·exact ok0 Try.func130 (Eq.trans (by kernel_rfl) h) (by kernel_rfl) (by kernel_rfl)
 ·cases h
def aC.j6 (F:Nat) (bp:asC) (cC:asu) (cE:asx) (bu:asu) (pX:Nat) (CD:Nat) (oG:Int) (ah1:Sl) (H228:Hp):OA:=(if oG<0 then none else ((Sl.idx ah1 (wrap .i64 ((wrap .i64 (1 * 2 ^ (min (oG:Int).toNat (IntKind.i64).bits))) - 1)) 2).bind λp229=>(Hp.ldI H228 .i64 p229.1 p229.2).bind λn230=>(Hp.ldSl H228 p229.1 (p229.2+1)).bind λs231=>(Hp.st H228 pX CD (.int .i64 n230)).bind λH232=>(Hp.st H232 pX (CD+1) (.sl s231)).bind λH233=>(Hp.ldI H233 .i64 pX CD).bind λn234=>(Hp.ldSl H233 pX (CD+1)).bind λs235=>some ((.agg [(.int .i64 n234),(.sl s235)]),H233)))
def aC.j8 (F:Nat) (bp:asC) (cC:asu) (cE:asx) (bu:asu) (C125_:asX) (ah2:Sl) (CE:Nat) (ah3:Nat) (vu:Int) (ah4:Sl) (vv:Int) (H372:Hp):OA:=C125_ ah2 CE ah3 vu ah4 (wrap .i64 (vv+1)) H372
def aC.j9 (bp:asC) (cC:asu) (cE:asx) (bu:asu) (C125_:asX) (ah5:Sl) (CF:Nat) (ah6:Nat) (vw:Int) (ah7:Sl) (vx:Int) (H355:Hp):OA:=aC.j8 F bp cC cE bu C125_ ah5 CF ah6 vw ah7 vx H355
def aC.l16047 (F:Nat) (bp:asC) (cC:asu) (cE:asx) (bu:asu) (C125_:asX):Nat->Sl->Nat->Nat->Int->Sl->Int->Int->Sl->Int->Int->Hp->OA
 | 0,_,_,_,_,_,_,_,_,_,_,_=>none
 | ah8+1,xt,oH,CG,lj,pY,g_,jM,CH,ll,iH,H291=>(bif (decide (iH<ll)) then ((Sl.idx CH iH 1).bind λp373=>(Hp.ldI H291 .i64 p373.1 p373.2).bind λn374=>(Sl.idx xt jM 1).bind λp375=>(Hp.ldSl H291 p375.1 p375.2).bind λs376=>(Sl.idx s376 n374 2).bind λp377=>(Hp.ldI H291 .i64 p377.1 p377.2).bind λn378=>(Hp.ldSl H291 p377.1 (p377.2+1)).bind λs379=>(if n374<0 then none else ((Sl.idx pY (Go.bits .andNot .i64 g_ (wrap .i64 (1 * 2 ^ (min (n374:Int).toNat (IntKind.i64).bits)))) 2).bind λp380=>(Hp.ldI H291 .i64 p380.1 p380.2).bind λn381=>(Hp.ldSl H291 p380.1 (p380.2+1)).bind λs382=>(cC n378 s379 n381 s382 H291).bind λr383=>((r383.1).asAgg 2).bind λl384=>(l384[0]?).bind λv385=>((v385).asI .i64).bind λn386=>(l384[1]?).bind λv387=>((v387).asSl).bind λs388=>(if aZ H291 r383.2 then ((Hp.new r383.2 [.int .i64 0,.sl ⟨none,0,.ex 0⟩]).bind λH389=>(Hp.st H389 r383.2.length 0 (.int .i64 n386)).bind λH390=>(Hp.st H390 r383.2.length (0+1) (.sl s388)).bind λH391=>(Sl.idx pY g_ 2).bind λp392=>(Hp.ldI H391 .i64 p392.1 p392.2).bind λn393=>(Hp.ldSl H391 p392.1 (p392.2+1)).bind λs394=>(Hp.ldI H391 .i64 r383.2.length 0).bind λn395=>(Hp.ldSl H391 r383.2.length (0+1)).bind λs396=>(cE (wrap .i64 (jM - iH)) H391).bind λr397=>((r397.1).asI .i64).bind λn398=>(if aZ H391 r397.2 then ((bp n398 0 r397.2).bind λr399=>((r399.1).asAgg 2).bind λl400=>(l400[0]?).bind λv401=>((v401).asI .i64).bind λn402=>(l400[1]?).bind λv403=>((v403).asSl).bind λs404=>(if aZ r397.2 r399.2 then ((cC n395 s396 n402 s404 r399.2).bind λr405=>((r405.1).asAgg 2).bind λl406=>(l406[0]?).bind λv407=>((v407).asI .i64).bind λn408=>(l406[1]?).bind λv409=>((v409).asSl).bind λs410=>(if aZ r399.2 r405.2 then ((bu n393 s394 n408 s410 r405.2).bind λr411=>((r411.1).asAgg 2).bind λl412=>(l412[0]?).bind λv413=>((v413).asI .i64).bind λn414=>(l412[1]?).bind λv415=>((v415).asSl).bind λs416=>(Sl.idx pY g_ 2).bind λp417=>(Hp.st r411.2 p417.1 p417.2 (.int .i64 n414)).bind λH418=>(Hp.st H418 p417.1 (p417.2+1) (.sl s416)).bind λH419=>aC.l16047 F bp cC cE bu C125_ ah8 xt oH CG lj pY g_ jM CH ll (wrap .i64 (iH+1)) H419) else none)) else none)) else none)) else none)))) else (aC.j9 F bp cC cE bu C125_ xt oH CG lj pY g_ H291))
termination_by structural n=>n
def aC.j10 (bp:asC) (cC:asu) (cE:asx) (bu:asu) (C125_:asX) (ah9:Sl) (CI:Nat) (ah_:Nat) (vy:Int) (Ho:Sl) (vz:Int) (mj:Sl) (H275:Hp):OA:=aC.l16047 F bp cC cE bu C125_ F ah9 CI ah_ vy Ho vz (wrap .i64 ((mj.n:Int) - 1)) mj (mj.n:Int) 0 H275
def aC.j11 (F:Nat) (bp:asC) (cC:asu) (cE:asx) (bu:asu) (C8021_:atu) (aia:Sl) (CJ:Nat) (aib:Nat) (vA:Int) (aic:Sl) (vB:Int) (aid:Sl) (vC:Int) (vD:Int) (H436:Hp):OA:=C8021_ aia CJ aib vA aic vB aid vC (wrap .i64 (vD+1)) H436
def aC.l8021 (F:Nat) (bp:asC) (cC:asu) (cE:asx) (bu:asu) (C125_:asX):Nat->Sl->Nat->Nat->Int->Sl->Int->Sl->Int->Int->Hp->OA
 | 0,_,_,_,_,_,_,_,_,_,_=>none
 | Ba+1,xu,nh,xv,jN,xw,iI,xx,jO,fA,H246=>(bif (decide (fA<jO)) then ((if fA<0 then none else ((bif ((Go.bits .and .i64 (Int.fdiv iI (2 ^ (min (fA:Int).toNat (IntKind.i64).bits))) 1)==1) then ((Hp.new H246 [(.int .i64 fA)]).bind λH420=>(Sl.row H420 (⟨some (H246.length,0),1,.ex 1⟩:Sl) 1).bind λxs422=>(Hp.app H420 1 8 xx (⟨some (H246.length,0),1,.ex 1⟩:Sl).n xs422).bind λa421=>aC.j11 F bp cC cE bu (aC.l8021 F bp cC cE bu C125_ Ba) xu nh xv jN xw iI a421.1 jO fA a421.2) else (aC.j11 F bp cC cE bu (aC.l8021 F bp cC cE bu C125_ Ba) xu nh xv jN xw iI xx jO fA H246))))) else (aC.j10 F bp cC cE bu C125_ xu nh xv jN xw iI xx H246))
termination_by structural n=>n
def aC.l125 (F:Nat) (bp:asC) (cC:asu) (cE:asx) (bu:asu) :Nat->Sl->Nat->Nat->Int->Sl->Int->Hp->OA
 | 0,_,_,_,_,_,_,_=>none
 | fY+1,Hr,jZ,CK,fz,CL,hP,H19=>(if fz<0 then none else ((bif (decide (hP<(wrap .i64 (1 * 2 ^ (min (fz:Int).toNat (IntKind.i64).bits))))) then (aC.l8021 F bp cC cE bu (aC.l125 F bp cC cE bu fY) F Hr jZ CK fz CL hP (⟨none,0,.ex 0⟩:Sl) fz 0 H19) else (aC.j6 F bp cC cE bu jZ CK fz CL H19))))
termination_by structural n=>n
def aC.twX (bp:asC) (cC:asu) (cE:asx) (bu:asu) (aa:Sl) (H:Hp):OA:=(Hp.new H [.int .i64 0,.sl ⟨none,0,.ex 0⟩]).bind λH2=>(if (aa.n:Int)<0 then none else ((Hp.mk H2 [.int .i64 0,.sl ⟨none,0,.ex 0⟩] 32 (wrap .i64 (1 * 2 ^ (min ((aa.n:Int):Int).toNat (IntKind.i64).bits))) (wrap .i64 (1 * 2 ^ (min ((aa.n:Int):Int).toNat (IntKind.i64).bits)))).bind λm3=>(bp 1 0 m3.2).bind λr4=>((r4.1).asAgg 2).bind λl5=>(l5[0]?).bind λv6=>((v6).asI .i64).bind λn7=>(l5[1]?).bind λv8=>((v8).asSl).bind λs9=>(Sl.idx m3.1 0 2).bind λp10=>(Hp.st r4.2 p10.1 p10.2 (.int .i64 n7)).bind λH11=>(Hp.st H11 p10.1 (p10.2+1) (.sl s9)).bind λH12=>aC.l125 F bp cC cE bu F aa H.length 0 (aa.n:Int) m3.1 1 H12))
def aC.tw:=aC.twX F (cq.tw F) (dc.tw F) (dS.tw F) (cz.tw F)
def aC.lh125 (bp:asC) (cC:asu) (cE:asx) (bu:asu) (ks:ast) (n:Nat) (tm:Tm) (H:Hp):OA:=match ks,tm 0,tm 2,tm 3,tm 4,tm 5 with
 | [],(.sl Hr),(.ptr jZ CK),(.int .i64 fz),(.sl CL),(.int .i64 hP)=>aC.l125 F bp cC cE bu n Hr jZ CK fz CL hP H
 | _,_,_,_,_,_=>none
def aC.lh8021 (bp:asC) (cC:asu) (cE:asx) (bu:asu) (ks:ast) (n:Nat) (tm:Tm) (H:Hp):OA:=match ks,tm 0,tm 2,tm 3,tm 4,tm 5,tm 6,tm 26,tm 27 with
 | [fY],(.sl xu),(.ptr nh xv),(.int .i64 jN),(.sl xw),(.int .i64 iI),(.sl xx),(.int .i64 jO),(.int .i64 fA)=>aC.l8021 F bp cC cE bu (aC.l125 F bp cC cE bu fY) n xu nh xv jN xw iI xx jO fA H
 | _,_,_,_,_,_,_,_,_=>none
def aC.lh16047 (bp:asC) (cC:asu) (cE:asx) (bu:asu) (ks:ast) (n:Nat) (tm:Tm) (H:Hp):OA:=match ks,tm 0,tm 2,tm 3,tm 4,tm 5,tm 8,tm 43,tm 44,tm 45 with
 | [fY],(.sl xt),(.ptr oH CG),(.int .i64 lj),(.sl pY),(.int .i64 g_),(.int .i64 jM),(.sl CH),(.int .i64 ll),(.int .i64 iH)=>aC.l16047 F bp cC cE bu (aC.l125 F bp cC cE bu fY) n xt oH CG lj pY g_ jM CH ll iH H
 | _,_,_,_,_,_,_,_,_,_=>none
def aC.lh (bp:asC) (cC:asu) (cE:asx) (bu:asu) (p:Nat) (ks:ast) (n:Nat) (tm:Tm) (H:Hp):OA:=bif p.beq 16047 then aC.lh16047 F bp cC cE bu ks n tm H else (bif p.beq 8021 then aC.lh8021 F bp cC cE bu ks n tm H else (bif p.beq 125 then aC.lh125 F bp cC cE bu ks n tm H else (none)))
def aC.pn:Nat->List Nat:=cP [(18,[16]),(19,[13,15])]
def aC.tb:Nat->List (List Nat):=cP [(18,[[],[],[0,1],[0,1,2],[],[0,1,2,3,4],[0,1,2,3,4,5],[],[],[],[9],[8,9,10],[7,8,9,10,11],[7,8,9,10,11,12],[0,1,2,3,4,5,6,7,8,9,10,11,12,13],[],[0,1,2,3,4,5,6,7,8,9,10,11,12,13,14,15]]),(19,[[],[],[],[],[2,3],[2,3,4],[],[],[],[7,8],[7,8,9],[7,8,9,10],[6,7,8,9,10,11],[2,3,4,5,6,7,8,9,10,11,12],[0,1,2,3,4,5,6,7,8,9,10,11,12,13],[0,1,2,3,4,5,6,7,8,9,10,11,12,13,14]])]
def aC.cs (F:Nat) (bp:asC) (cC:asu) (cE:asx) (bu:asu):Cs:=[(127,mk17 bp),(128,mk9 cC),(130,mk15 cE),(129,mk9 bu)]
theorem aC.loops (bp:asC) (cC:asu) (cE:asx) (bu:asu):LO (aX (aC.cs F bp cC cE bu)) aC.pn (aC.lh F bp cC cE bu) F Try.f94:=
 (ae.rt (ae.rt (ae.rt (ae.rt (ae.lt (ae.rt (ae.block (ae.la (λn tm H r h=>by change aC.lh125 F bp cC cE bu [] n tm H=_ at h;unfold aC.lh125 at h;split at h;have e:bD tm [(0,_),(2,_),(3,_),(4,_),(5,_)]:=⟨‹_›,‹_›,‹_›,‹_›,‹_›,trivial⟩;obtain _ | k125:=n;cases h;exact ⟨_,rfl,by rw [<- bH e];exact Eq.trans (by kernel_rfl) h⟩;cases h) λk125=>(ae.rt (ae.lt (ae.block (ae.rt (ae.seq (ae.rt (ae.block (ae.la (λn tm H r h=>by change aC.lh8021 F bp cC cE bu [k125] n tm H=_ at h;unfold aC.lh8021 at h;split at h;have e:bD tm [(0,_),(2,_),(3,_),(4,_),(5,_),(6,_),(26,_),(27,_)]:=⟨‹_›,‹_›,‹_›,‹_›,‹_›,‹_›,‹_›,‹_›,trivial⟩;cases (show [k125]=_ from ‹_›);obtain _ | k8021:=n;cases h;exact ⟨_,rfl,by rw [<- bH e];exact Eq.trans (by kernel_rfl) h⟩;cases h) λk8021=>ae.no))) (ae.rt (ae.rt (ae.block (ae.la (λn tm H r h=>by change aC.lh16047 F bp cC cE bu [k125] n tm H=_ at h;unfold aC.lh16047 at h;split at h;have e:bD tm [(0,_),(2,_),(3,_),(4,_),(5,_),(8,_),(43,_),(44,_),(45,_)]:=⟨‹_›,‹_›,‹_›,‹_›,‹_›,‹_›,‹_›,‹_›,‹_›,trivial⟩;cases (show [k125]=_ from ‹_›);obtain _ | k16047:=n;cases h;exact ⟨_,rfl,by rw [<- bH e];exact Eq.trans (by kernel_rfl) h⟩;cases h) λk16047=>ae.no)))))))))))))))))
theorem aC.eqX (bp:asC) (cC:asu) (cE:asx) (bu:asu) (aa:Sl) (H:Hp):EX (aX (aC.cs F bp cC cE bu)) aC.pn (aC.lh F bp cC cE bu) F Try.f94 [(.sl aa)] H=aC.twX F bp cC cE bu aa H:=by kernel_rfl
theorem aC.k:Ok Try.prog 94 (mk3 (aC.tw F)):=by
 intro args H v H' h
 unfold mk3 at h
 split at h
 ·exact okT (TB:=aC.tb) Try.func94 (aN (cq.k F) (aN (dc.k F) (aN (dS.k F) (aN (cz.k F) bt)))) (aC.loops F (cq.tw F) (dc.tw F) (dS.tw F) (cz.tw F)) ((aC.eqX F (cq.tw F) (dc.tw F) (dS.tw F) (cz.tw F) _ H).trans h) (by kernel_rfl)
 ·cases h
def bG.l117 (F:Nat) (cn:asq) :Nat->Nat->Nat->Nat->Nat->Int->Int->Hp->OA
 | 0,_,_,_,_,_,_,_=>none
 | aie+1,fd,iz,hO,pZ,lm,iJ,H27=>(bif (decide (iJ<lm)) then ((Hp.ldSl H27 hO (pZ+1)).bind λs40=>(Hp.ldSl H27 hO (pZ+1)).bind λs41=>(Sl.idx s41 iJ 1).bind λp42=>(Hp.ldI H27 .i64 p42.1 p42.2).bind λn43=>(Sl.idx s40 iJ 1).bind λp44=>(Hp.st H27 p44.1 p44.2 (.int .i64 (wrap .i64 (0 - n43)))).bind λH45=>bG.l117 F cn aie fd iz hO pZ lm (wrap .i64 (iJ+1)) H45) else ((Hp.ldI H27 .i64 hO pZ).bind λn46=>(Hp.ldSl H27 hO (pZ+1)).bind λs47=>(Hp.st H27 fd iz (.int .i64 n46)).bind λH48=>(Hp.st H48 fd (iz+1) (.sl s47)).bind λH49=>(Hp.ldI H49 .i64 fd iz).bind λn50=>(Hp.ldSl H49 fd (iz+1)).bind λs51=>some ((.agg [(.int .i64 n50),(.sl s51)]),H49)))
termination_by structural n=>n
def bG.twX (cn:asq) (aa:Int) (af:Sl) (H:Hp):OA:=(Hp.new H [(.int .i64 aa),(.sl af)]).bind λH3=>(Hp.new H3 [.int .i64 0,.sl ⟨none,0,.ex 0⟩]).bind λH4=>(Hp.ldSl H4 H.length 1).bind λs5=>(cn s5 H4).bind λr6=>((r6.1).asSl).bind λs7=>(Hp.new r6.2 [.int .i64 0,.sl ⟨none,0,.ex 0⟩]).bind λH8=>(Hp.st H8 r6.2.length 0 (.int .i64 0)).bind λH9=>(Hp.st H9 r6.2.length (0+1) (.sl s7)).bind λH10=>(Hp.ldSl H10 r6.2.length 1).bind λs11=>(bif (decide ((s11.n:Int)>0)) then ((Hp.ldSl H10 r6.2.length 1).bind λs12=>(Sl.idx s12 0 1).bind λp13=>(Hp.ldI H10 .i64 p13.1 p13.2).bind λn14=>(bif (decide (n14<0)) then ((Hp.ldSl H10 r6.2.length 1).bind λs15=>bG.l117 F cn F H3.length 0 r6.2.length 0 (s15.n:Int) 0 H10) else ((Hp.ldI H10 .i64 r6.2.length 0).bind λn52=>(Hp.ldSl H10 r6.2.length (0+1)).bind λs53=>(Hp.st H10 H3.length 0 (.int .i64 n52)).bind λH54=>(Hp.st H54 H3.length (0+1) (.sl s53)).bind λH55=>(Hp.ldI H55 .i64 H3.length 0).bind λn56=>(Hp.ldSl H55 H3.length (0+1)).bind λs57=>some ((.agg [(.int .i64 n56),(.sl s57)]),H55)))) else ((Hp.ldI H10 .i64 r6.2.length 0).bind λn58=>(Hp.ldSl H10 r6.2.length (0+1)).bind λs59=>(Hp.st H10 H3.length 0 (.int .i64 n58)).bind λH60=>(Hp.st H60 H3.length (0+1) (.sl s59)).bind λH61=>(Hp.ldI H61 .i64 H3.length 0).bind λn62=>(Hp.ldSl H61 H3.length (0+1)).bind λs63=>some ((.agg [(.int .i64 n62),(.sl s63)]),H61)))
def bG.tw:=bG.twX F (dz.tw F)
def bG.lh117 (cn:asq) (ks:ast) (n:Nat) (tm:Tm) (H:Hp):OA:=match ks,tm 2,tm 3,tm 22,tm 23 with
 | [],(.ptr fd iz),(.ptr hO pZ),(.int .i64 lm),(.int .i64 iJ)=>bG.l117 F cn n fd iz hO pZ lm iJ H
 | _,_,_,_,_=>none
def bG.lh (cn:asq) (p:Nat) (ks:ast) (n:Nat) (tm:Tm) (H:Hp):OA:=bif p.beq 117 then bG.lh117 F cn ks n tm H else (none)
def bG.pn:Nat->List Nat:=cP [(6,[10])]
def bG.tb:Nat->List (List Nat):=cP [(6,[[],[0],[],[],[3],[],[3,4,5],[3,4,5,6],[3,4,5,6,7],[0,1,2,3,4,5,6,7,8],[0,1,2,3,4,5,6,7,8,9]])]
def bG.cs (F:Nat) (cn:asq):Cs:=[(126,mk3 cn)]
theorem bG.loops (cn:asq):LO (aX (bG.cs F cn)) bG.pn (bG.lh F cn) F Try.f93:=
 (ae.rt (ae.rt (ae.lt (ae.rt (ae.cond (ae.rt (ae.block (ae.la (λn tm H r h=>by change bG.lh117 F cn [] n tm H=_ at h;unfold bG.lh117 at h;split at h;have e:bD tm [(2,_),(3,_),(22,_),(23,_)]:=⟨‹_›,‹_›,‹_›,‹_›,trivial⟩;obtain _ | k117:=n;cases h;exact ⟨_,rfl,by rw [<- bH e];exact Eq.trans (by kernel_rfl) h⟩;cases h) λk117=>ae.no))) ae.no)))))
theorem bG.eqX (cn:asq) (aa:Int) (af:Sl) (H:Hp):EX (aX (bG.cs F cn)) bG.pn (bG.lh F cn) F Try.f93 [(.agg [(.int .i64 aa),(.sl af)])] H=bG.twX F cn aa af H:=by kernel_rfl
theorem bG.k:Ok Try.prog 93 (mk10 (bG.tw F)):=by
 intro args H v H' h
 unfold mk10 at h
 split at h
 ·exact okT (TB:=bG.tb) Try.func93 (aN (dz.k F) bt) (bG.loops F (dz.tw F)) ((bG.eqX F (dz.tw F) _ _ H).trans h) (by kernel_rfl)
 ·cases h
def bh.j1 (F:Nat) (fe:aso) (bz:aso) (eU:asq) (ff:asq) (fg:ass) (p_:Nat) (CM:Nat) (aif:Sl) (H67:Hp):OA:=(ff aif H67).bind λr68=>((r68.1).asAgg 2).bind λl69=>(l69[0]?).bind λv70=>((v70).asI .i64).bind λn71=>(l69[1]?).bind λv72=>((v72).asSl).bind λs73=>(fg n71 s73 r68.2).bind λr74=>((r74.1).asAgg 2).bind λl75=>(l75[0]?).bind λv76=>((v76).asI .i64).bind λn77=>(l75[1]?).bind λv78=>((v78).asSl).bind λs79=>(Hp.st r74.2 p_ CM (.int .i64 n77)).bind λH80=>(Hp.st H80 p_ (CM+1) (.sl s79)).bind λH81=>(Hp.ldI H81 .i64 p_ CM).bind λn82=>(Hp.ldSl H81 p_ (CM+1)).bind λs83=>some ((.agg [(.int .i64 n82),(.sl s83)]),H81)
def bh.l253 (F:Nat) (fe:aso) (bz:aso) (eU:asq) (ff:asq) (fg:ass) :Nat->Nat->Nat->Sl->Int->Int->Int->Hp->OA
 | 0,_,_,_,_,_,_,_=>none
 | aig+1,oI,CN,vE,lq,lr,iK,H48=>(bif (decide (iK<lr)) then ((Sl.idx vE iK 1).bind λp84=>(Hp.ldSl H48 p84.1 p84.2).bind λs85=>(Sl.cut s85 2 0 (wrap .i64 (lq - 1))).bind λs86=>(Sl.idx vE iK 1).bind λp87=>(Hp.st H48 p87.1 p87.2 (.sl s86)).bind λH88=>bh.l253 F fe bz eU ff fg aig oI CN vE lq lr (wrap .i64 (iK+1)) H88) else (bh.j1 F fe bz eU ff fg oI CN vE H48))
termination_by structural n=>n
def bh.j2 (fe:aso) (bz:aso) (eU:asq) (ff:asq) (fg:ass) (oJ:Nat) (mi:Nat) (Hs:Sl) (oK:Int) (H29:Hp):OA:=(eU Hs H29).bind λr30=>((r30.1).asI .i64).bind λn31=>(bif (n31 != (wrap .i64 (oK - 1))) then ((Hp.st r30.2 oJ mi (.int .i64 0)).bind λH32=>(Hp.st H32 oJ (mi+1) (.sl (⟨none,0,.ex 0⟩:Sl))).bind λH33=>(Hp.ldI H33 .i64 oJ mi).bind λn34=>(Hp.ldSl H33 oJ (mi+1)).bind λs35=>some ((.agg [(.int .i64 n34),(.sl s35)]),H33)) else (bh.l253 F fe bz eU ff fg F oJ mi Hs oK (Hs.n:Int) 0 r30.2))
def bh.twX (fe:aso) (bz:aso) (eU:asq) (ff:asq) (fg:ass) (aa:Sl) (af:Int) (H:Hp):OA:=(Hp.new H [(.sl aa),(.int .i64 af)]).bind λH3=>(Hp.new H3 [.int .i64 0,.sl ⟨none,0,.ex 0⟩]).bind λH4=>(Hp.ldSl H4 H.length 0).bind λs5=>(Hp.ldI H4 .i64 H.length (0+1)).bind λn6=>(fe s5 n6 H4).bind λr7=>((r7.1).asSl).bind λs8=>(Hp.ldSl r7.2 H.length 0).bind λs9=>(Hp.ldI r7.2 .i64 H.length (0+1)).bind λn10=>(bz s9 n10 r7.2).bind λr11=>((r11.1).asTup 2).bind λl12=>(l12[0]?).bind λv13=>((v13).asSl).bind λs14=>(l12[1]?).bind λv15=>((v15).asI .i64).bind λn16=>(eU s8 r11.2).bind λr17=>((r17.1).asI .i64).bind λn18=>(bif (n18==n16) then ((Sl.cut s8 1 0 (wrap .i64 (n16 - 1))).bind λs19=>bh.j2 F fe bz eU ff fg H3.length 0 s19 n16 r17.2) else (bh.j2 F fe bz eU ff fg H3.length 0 s8 n16 r17.2))
def bh.tw:=bh.twX F (aY.tw F) (bg.tw F) (ew.tw F) (aC.tw F) (bG.tw F)
def bh.lh253 (fe:aso) (bz:aso) (eU:asq) (ff:asq) (fg:ass) (ks:ast) (n:Nat) (tm:Tm) (H:Hp):OA:=match ks,tm 2,tm 3,tm 5,tm 29,tm 30 with
 | [],(.ptr oI CN),(.sl vE),(.int .i64 lq),(.int .i64 lr),(.int .i64 iK)=>bh.l253 F fe bz eU ff fg n oI CN vE lq lr iK H
 | _,_,_,_,_,_=>none
def bh.lh (fe:aso) (bz:aso) (eU:asq) (ff:asq) (fg:ass) (p:Nat) (ks:ast) (n:Nat) (tm:Tm) (H:Hp):OA:=bif p.beq 253 then bh.lh253 F fe bz eU ff fg ks n tm H else (none)
def bh.cs (F:Nat) (fe:aso) (bz:aso) (eU:asq) (ff:asq) (fg:ass):Cs:=[(90,mk4 fe),(91,mk4 bz),(92,mk3 eU),(94,mk3 ff),(93,mk10 fg)]
theorem bh.loops (fe:aso) (bz:aso) (eU:asq) (ff:asq) (fg:ass):LO (aX (bh.cs F fe bz eU ff fg)) aH (bh.lh F fe bz eU ff fg) F Try.f49:=
 (ae.rt (ae.rt (ae.rt (ae.rt (ae.rt (ae.lt (ae.rt (ae.block (ae.la (λn tm H r h=>by change bh.lh253 F fe bz eU ff fg [] n tm H=_ at h;unfold bh.lh253 at h;split at h;have e:bD tm [(2,_),(3,_),(5,_),(29,_),(30,_)]:=⟨‹_›,‹_›,‹_›,‹_›,‹_›,trivial⟩;obtain _ | k253:=n;cases h;exact ⟨_,rfl,by rw [<- bH e];exact Eq.trans (by kernel_rfl) h⟩;cases h) λk253=>ae.no)))))))))
theorem bh.eqX (fe:aso) (bz:aso) (eU:asq) (ff:asq) (fg:ass) (aa:Sl) (af:Int) (H:Hp):EX (aX (bh.cs F fe bz eU ff fg)) aH (bh.lh F fe bz eU ff fg) F Try.f49 [(.agg [(.sl aa),(.int .i64 af)])] H=bh.twX F fe bz eU ff fg aa af H:=by kernel_rfl
theorem bh.k:Ok Try.prog 49 (mk4 (bh.tw F)):=by
 intro args H v H' h
 unfold mk4 at h
 split at h
 ·exact okT (TB:=aH) Try.func49 (aN (aY.k F) (aN (bg.k F) (aN (ew.k F) (aN (aC.k F) (aN (bG.k F) bt))))) (bh.loops F (aY.tw F) (bg.tw F) (ew.tw F) (aC.tw F) (bG.tw F)) ((bh.eqX F (aY.tw F) (bg.tw F) (ew.tw F) (aC.tw F) (bG.tw F) _ _ H).trans h) (by kernel_rfl)
 ·cases h
def ey.twX (F:Nat) (vF:aso) (vG:aso) (aa:Sl) (af:Int) (H:Hp):OA:=(Hp.new H [(.sl aa),(.int .i64 af)]).bind λH3=>(Hp.new H3 [.int .i64 0,.sl ⟨none,0,.ex 0⟩]).bind λH4=>(Hp.ldSl H4 H.length 0).bind λs5=>(Hp.ldI H4 .i64 H.length (0+1)).bind λn6=>(vF s5 n6 H4).bind λr7=>((r7.1).asI .i64).bind λn8=>(bif (n8 != 0) then ((Hp.st r7.2 H3.length 0 (.int .i64 0)).bind λH9=>(Hp.st H9 H3.length (0+1) (.sl (⟨none,0,.ex 0⟩:Sl))).bind λH10=>(Hp.ldI H10 .i64 H3.length 0).bind λn11=>(Hp.ldSl H10 H3.length (0+1)).bind λs12=>some ((.tup [(.agg [(.int .i64 n11),(.sl s12)]),(.int .i64 n8)]),H10)) else ((Hp.ldSl r7.2 H.length 0).bind λs13=>(Hp.ldI r7.2 .i64 H.length (0+1)).bind λn14=>(vG s13 n14 r7.2).bind λr15=>((r15.1).asAgg 2).bind λl16=>(l16[0]?).bind λv17=>((v17).asI .i64).bind λn18=>(l16[1]?).bind λv19=>((v19).asSl).bind λs20=>(Hp.st r15.2 H3.length 0 (.int .i64 n18)).bind λH21=>(Hp.st H21 H3.length (0+1) (.sl s20)).bind λH22=>(Hp.ldI H22 .i64 H3.length 0).bind λn23=>(Hp.ldSl H22 H3.length (0+1)).bind λs24=>some ((.tup [(.agg [(.int .i64 n23),(.sl s24)]),(.int .i64 0)]),H22)))
def ey.tw:=ey.twX F (eR.tw F) (bh.tw F)
def ey.cs (F:Nat) (vF:aso) (vG:aso):Cs:=[(32,mk4 vF),(49,mk4 vG)]
theorem ey.eqX (vF:aso) (vG:aso) (aa:Sl) (af:Int) (H:Hp):EX (aX (ey.cs F vF vG)) aH lh0 F Try.f21 [(.agg [(.sl aa),(.int .i64 af)])] H=ey.twX F vF vG aa af H:=by kernel_rfl
theorem ey.k:Ok Try.prog 21 (mk4 (ey.tw F)):=by
 intro args H v H' h
 unfold mk4 at h
 split at h
 ·exact okT (TB:=aH) Try.func21 (aN (eR.k F) (aN (bh.k F) bt)) ae.no ((ey.eqX F (eR.tw F) (bh.tw F) _ _ H).trans h) (by kernel_rfl)
 ·cases h
def cl.l29 (F:Nat) :Nat->Sl->Sl->Int->Hp->OA
 | 0,_,_,_,_=>none
 | gG+1,cU,bS,dH,H8=>(bif (decide (dH<(cU.n:Int))) then ((Sl.idx cU dH 1).bind λp13=>(Hp.ldI H8 .i64 p13.1 p13.2).bind λn14=>(Sl.idx bS dH 1).bind λp15=>(Hp.ldI H8 .i64 p15.1 p15.2).bind λn16=>(bif (n14 != n16) then (some ((.bool false),H8)) else (cl.l29 F gG cU bS (wrap .i64 (dH+1)) H8))) else (some ((.bool true),H8)))
def cl.twX (aa:Sl) (au:Sl) (H:Hp):OA:=(bif ((aa.n:Int) != (au.n:Int)) then (some ((.bool false),H)) else (cl.l29 F F aa au 0 H))
def cl.tw:=cl.twX F
def cl.lh29 (ks:ast) (n:Nat) (tm:Tm) (H:Hp):OA:=match ks,tm 0,tm 1,tm 5 with
 | [],(.sl cU),(.sl bS),(.int .i64 dH)=>cl.l29 F n cU bS dH H
 | _,_,_,_=>none
def cl.lh (p:Nat) (ks:ast) (n:Nat) (tm:Tm) (H:Hp):OA:=bif p.beq 29 then cl.lh29 F ks n tm H else (none)
def cl.tb:Nat->List (List Nat):=cP [(6,[[],[],[0,1],[0,1,2],[],[],[4,5],[4,5,6],[0,1,2,3,4,5,6,7]])]
def mk20 (g:as4) (args:asD) (H:Hp):OA:=match args with
 | [(.sl aa),(.sl au)]=>g aa au H
 | _=>none
theorem mk20_E (g:as4) (aa:Sl) (au:Sl) (H:Hp):mk20 g [(.sl aa),(.sl au)] H=g aa au H:=rfl
theorem cl.loops:LO (aX []) aH (cl.lh F) F Try.f14:=
 (ae.rt (ae.rt (ae.lt (ae.rt (ae.block (ae.la (λn tm H r h=>by change cl.lh29 F [] n tm H=_ at h;unfold cl.lh29 at h;split at h;have e:bD tm [(0,_),(1,_),(5,_)]:=⟨‹_›,‹_›,‹_›,trivial⟩;obtain _ | k29:=n;cases h;exact ⟨_,rfl,by rw [<- bH e];exact Eq.trans (by kernel_rfl) h⟩;cases h) λk29=>ae.no))))))
theorem cl.k:Ok Try.prog 14 (mk20 (cl.tw F)):=by
 intro args H v H' h
 unfold mk20 at h
 split at h
 ·exact okT (PN:=aH) (LH:=(cl.lh F)) (F:=F) (TB:=cl.tb) Try.func14 bt (cl.loops F) (Eq.trans (by kernel_rfl) h) (by kernel_rfl)
 ·cases h
def dU.twX (F:Nat) (vH:as4) (aa:Int) (af:Sl) (ar:Int) (bj:Sl) (H:Hp):OA:=(Hp.new H [(.int .i64 aa),(.sl af)]).bind λH5=>(Hp.new H5 [(.int .i64 ar),(.sl bj)]).bind λH6=>(Hp.ldI H6 .i64 H.length 0).bind λn7=>(Hp.ldI H6 .i64 H5.length 0).bind λn8=>(bif (n7 != n8) then (some ((.bool false),H6)) else ((Hp.ldSl H6 H.length 1).bind λs9=>(Hp.ldSl H6 H5.length 1).bind λs10=>(vH s9 s10 H6).bind λr11=>((r11.1).asB).bind λb12=>(bif (!b12) then (some ((.bool false),r11.2)) else (some ((.bool true),r11.2)))))
def dU.tw:=dU.twX F (cl.tw F)
def dU.cs (F:Nat) (vH:as4):Cs:=[(14,mk20 vH)]
theorem dU.eqX (vH:as4) (aa:Int) (af:Sl) (ar:Int) (bj:Sl) (H:Hp):EX (aX (dU.cs F vH)) aH lh0 F Try.f22 [(.agg [(.int .i64 aa),(.sl af)]),(.agg [(.int .i64 ar),(.sl bj)])] H=dU.twX F vH aa af ar bj H:=by kernel_rfl
theorem dU.k:Ok Try.prog 22 (mk9 (dU.tw F)):=by
 intro args H v H' h
 unfold mk9 at h
 split at h
 ·exact okT (TB:=aH) Try.func22 (aN (cl.k F) bt) ae.no ((dU.eqX F (cl.tw F) _ _ _ _ H).trans h) (by kernel_rfl)
 ·cases h
def fB.twX (F:Nat) (aa:Int) (af:Int) (bX:Int) (bY:Int) (bN:Int) (cH:Int) (lu:Int) (lw:Int) (lx:Int) (ly:Int) (H:Hp):OA:=(Hp.new H [(.int .i64 aa),(.int .i64 af),(.int .i64 bX),(.int .i64 bY),(.int .i64 bN)]).bind λH11=>(Hp.new H11 [(.int .i64 cH),(.int .i64 lu),(.int .i64 lw),(.int .i64 lx),(.int .i64 ly)]).bind λH12=>(Hp.ldI H12 .i64 H.length 0).bind λn13=>(Hp.ldI H12 .i64 H11.length 0).bind λn14=>(bif (n13 != n14) then (some ((.bool false),H12)) else ((Hp.ldI H12 .i64 H.length 1).bind λn15=>(Hp.ldI H12 .i64 H11.length 1).bind λn16=>(bif (n15 != n16) then (some ((.bool false),H12)) else ((Hp.ldI H12 .i64 H.length 2).bind λn17=>(Hp.ldI H12 .i64 H11.length 2).bind λn18=>(bif (n17 != n18) then (some ((.bool false),H12)) else ((Hp.ldI H12 .i64 H.length 3).bind λn19=>(Hp.ldI H12 .i64 H11.length 3).bind λn20=>(bif (n19 != n20) then (some ((.bool false),H12)) else ((Hp.ldI H12 .i64 H.length 4).bind λn21=>(Hp.ldI H12 .i64 H11.length 4).bind λn22=>(bif (n21 != n22) then (some ((.bool false),H12)) else (some ((.bool true),H12)))))))))))
def fB.tw:=fB.twX F
def mk21 (g:asZ) (args:asD) (H:Hp):OA:=match args with
 | [(.agg [(.int .i64 aa),(.int .i64 af),(.int .i64 bX),(.int .i64 bY),(.int .i64 bN)]),(.agg [(.int .i64 cH),(.int .i64 lu),(.int .i64 lw),(.int .i64 lx),(.int .i64 ly)])]=>g aa af bX bY bN cH lu lw lx ly H
 | _=>none
theorem mk21_E (g:asZ) (aa:Int) (af:Int) (bX:Int) (bY:Int) (bN:Int) (cH:Int) (lu:Int) (lw:Int) (lx:Int) (ly:Int) (H:Hp):mk21 g [(.agg [(.int .i64 aa),(.int .i64 af),(.int .i64 bX),(.int .i64 bY),(.int .i64 bN)]),(.agg [(.int .i64 cH),(.int .i64 lu),(.int .i64 lw),(.int .i64 lx),(.int .i64 ly)])] H=g aa af bX bY bN cH lu lw lx ly H:=rfl
theorem fB.k:Ok Try.prog 76 (mk21 (fB.tw F)):=by
 intro args H v H' h
 unfold mk21 at h
 split at h
 ·exact ok0 Try.func76 (Eq.trans (by kernel_rfl) h) (by kernel_rfl) (by kernel_rfl)
 ·cases h
def bT.l29 (F:Nat) (gz:asZ) :Nat->Sl->Sl->Int->Hp->OA
 | 0,_,_,_,_=>none
 | gG+1,cU,bS,dH,H8=>(bif (decide (dH<(cU.n:Int))) then ((Sl.idx cU dH 5).bind λp23=>(Hp.ldI H8 .i64 p23.1 p23.2).bind λn24=>(Hp.ldI H8 .i64 p23.1 (p23.2+1)).bind λn25=>(Hp.ldI H8 .i64 p23.1 (p23.2+2)).bind λn26=>(Hp.ldI H8 .i64 p23.1 (p23.2+3)).bind λn27=>(Hp.ldI H8 .i64 p23.1 (p23.2+4)).bind λn28=>(Sl.idx bS dH 5).bind λp29=>(Hp.ldI H8 .i64 p29.1 p29.2).bind λn30=>(Hp.ldI H8 .i64 p29.1 (p29.2+1)).bind λn31=>(Hp.ldI H8 .i64 p29.1 (p29.2+2)).bind λn32=>(Hp.ldI H8 .i64 p29.1 (p29.2+3)).bind λn33=>(Hp.ldI H8 .i64 p29.1 (p29.2+4)).bind λn34=>(gz n24 n25 n26 n27 n28 n30 n31 n32 n33 n34 H8).bind λr35=>((r35.1).asB).bind λb36=>(bif (!b36) then (some ((.bool false),r35.2)) else (bT.l29 F gz gG cU bS (wrap .i64 (dH+1)) r35.2))) else (some ((.bool true),H8)))
def bT.twX (gz:asZ) (aa:Sl) (au:Sl) (H:Hp):OA:=(bif ((aa.n:Int) != (au.n:Int)) then (some ((.bool false),H)) else (bT.l29 F gz F aa au 0 H))
def bT.tw:=bT.twX F (fB.tw F)
def bT.lh29 (gz:asZ) (ks:ast) (n:Nat) (tm:Tm) (H:Hp):OA:=match ks,tm 0,tm 1,tm 5 with
 | [],(.sl cU),(.sl bS),(.int .i64 dH)=>bT.l29 F gz n cU bS dH H
 | _,_,_,_=>none
def bT.lh (gz:asZ) (p:Nat) (ks:ast) (n:Nat) (tm:Tm) (H:Hp):OA:=bif p.beq 29 then bT.lh29 F gz ks n tm H else (none)
def bT.pn:Nat->List Nat:=cP [(6,[8])]
def bT.tb:Nat->List (List Nat):=cP [(6,[[],[],[0,1],[0,1,2],[],[],[4,5],[4,5,6],[0,1,2,3,4,5,6,7],[0,1,2,3,4,5,6,7,8]])]
def bT.cs (F:Nat) (gz:asZ):Cs:=[(76,mk21 gz)]
theorem bT.loops (gz:asZ):LO (aX (bT.cs F gz)) bT.pn (bT.lh F gz) F Try.f38:=
 (ae.rt (ae.rt (ae.lt (ae.rt (ae.block (ae.la (λn tm H r h=>by change bT.lh29 F gz [] n tm H=_ at h;unfold bT.lh29 at h;split at h;have e:bD tm [(0,_),(1,_),(5,_)]:=⟨‹_›,‹_›,‹_›,trivial⟩;obtain _ | k29:=n;cases h;exact ⟨_,rfl,by rw [<- bH e];exact Eq.trans (by kernel_rfl) h⟩;cases h) λk29=>ae.no))))))
theorem bT.eqX (gz:asZ) (aa:Sl) (au:Sl) (H:Hp):EX (aX (bT.cs F gz)) bT.pn (bT.lh F gz) F Try.f38 [(.sl aa),(.sl au)] H=bT.twX F gz aa au H:=by kernel_rfl
theorem bT.k:Ok Try.prog 38 (mk20 (bT.tw F)):=by
 intro args H v H' h
 unfold mk20 at h
 split at h
 ·exact okT (TB:=bT.tb) Try.func38 (aN (fB.k F) bt) (bT.loops F (fB.tw F)) ((bT.eqX F (fB.tw F) _ _ H).trans h) (by kernel_rfl)
 ·cases h
def eO.twX (F:Nat) (vI:as4) (aa:Sl) (af:Int) (ar:Sl) (bj:Int) (H:Hp):OA:=(Hp.new H [(.sl aa),(.int .i64 af)]).bind λH5=>(Hp.new H5 [(.sl ar),(.int .i64 bj)]).bind λH6=>(Hp.ldSl H6 H.length 0).bind λs7=>(Hp.ldSl H6 H5.length 0).bind λs8=>(vI s7 s8 H6).bind λr9=>((r9.1).asB).bind λb10=>(bif (!b10) then (some ((.bool false),r9.2)) else ((Hp.ldI r9.2 .i64 H.length 1).bind λn11=>(Hp.ldI r9.2 .i64 H5.length 1).bind λn12=>(bif (n11 != n12) then (some ((.bool false),r9.2)) else (some ((.bool true),r9.2)))))
def eO.tw:=eO.twX F (bT.tw F)
def mk22 (g:asT) (args:asD) (H:Hp):OA:=match args with
 | [(.agg [(.sl aa),(.int .i64 af)]),(.agg [(.sl ar),(.int .i64 bj)])]=>g aa af ar bj H
 | _=>none
theorem mk22_E (g:asT) (aa:Sl) (af:Int) (ar:Sl) (bj:Int) (H:Hp):mk22 g [(.agg [(.sl aa),(.int .i64 af)]),(.agg [(.sl ar),(.int .i64 bj)])] H=g aa af ar bj H:=rfl
def eO.cs (F:Nat) (vI:as4):Cs:=[(38,mk20 vI)]
theorem eO.eqX (vI:as4) (aa:Sl) (af:Int) (ar:Sl) (bj:Int) (H:Hp):EX (aX (eO.cs F vI)) aH lh0 F Try.f11 [(.agg [(.sl aa),(.int .i64 af)]),(.agg [(.sl ar),(.int .i64 bj)])] H=eO.twX F vI aa af ar bj H:=by kernel_rfl
theorem eO.k:Ok Try.prog 11 (mk22 (eO.tw F)):=by
 intro args H v H' h
 unfold mk22 at h
 split at h
 ·exact okT (TB:=aH) Try.func11 (aN (bT.k F) bt) ae.no ((eO.eqX F (bT.tw F) _ _ _ _ H).trans h) (by kernel_rfl)
 ·cases h
def ct.l13 (F:Nat) :Nat->Sl->Int->Int->Hp->OA
 | 0,_,_,_,_=>none
 | ig+1,cU,bS,cu,H7=>(bif (decide (cu<(cU.n:Int))) then ((Sl.idx cU cu 5).bind λp18=>(Hp.st H7 p18.1 p18.2 (.int .i64 bS)).bind λH19=>(Sl.idx cU cu 5).bind λp20=>(Hp.st H19 p20.1 (p20.2+1) (.int .i64 (wrap .i64 (bS+1)))).bind λH21=>(Sl.idx cU cu 5).bind λp22=>(Hp.st H21 p22.1 (p22.2+2) (.int .i64 (wrap .i64 ((wrap .i64 (bS+1))+1)))).bind λH23=>(Sl.idx cU cu 5).bind λp24=>(Hp.st H23 p24.1 (p24.2+3) (.int .i64 (wrap .i64 ((wrap .i64 ((wrap .i64 (bS+1))+1))+1)))).bind λH25=>(Sl.idx cU cu 5).bind λp26=>(Hp.st H25 p26.1 (p26.2+4) (.int .i64 (wrap .i64 ((wrap .i64 ((wrap .i64 ((wrap .i64 (bS+1))+1))+1))+1)))).bind λH27=>ct.l13 F ig cU (wrap .i64 ((wrap .i64 ((wrap .i64 ((wrap .i64 ((wrap .i64 (bS+1))+1))+1))+1))+1)) (wrap .i64 (cu+1)) H27) else (some ((.int .i64 bS),H7)))
def ct.twX (aa:Sl) (au:Int) (H:Hp):OA:=ct.l13 F F aa au 0 H
def ct.tw:=ct.twX F
def ct.lh13 (ks:ast) (n:Nat) (tm:Tm) (H:Hp):OA:=match ks,tm 0,tm 1,tm 5 with
 | [],(.sl cU),(.int .i64 bS),(.int .i64 cu)=>ct.l13 F n cU bS cu H
 | _,_,_,_=>none
def ct.lh (p:Nat) (ks:ast) (n:Nat) (tm:Tm) (H:Hp):OA:=bif p.beq 13 then ct.lh13 F ks n tm H else (none)
theorem ct.loops:LO (aX []) aH (ct.lh F) F Try.f45:=
 (ae.rt (ae.lt (ae.rt (ae.block (ae.la (λn tm H r h=>by change ct.lh13 F [] n tm H=_ at h;unfold ct.lh13 at h;split at h;have e:bD tm [(0,_),(1,_),(5,_)]:=⟨‹_›,‹_›,‹_›,trivial⟩;obtain _ | k13:=n;cases h;exact ⟨_,rfl,by rw [<- bH e];exact Eq.trans (by kernel_rfl) h⟩;cases h) λk13=>ae.no)))))
theorem ct.k:Ok Try.prog 45 (mk0 (ct.tw F)):=by
 intro args H v H' h
 unfold mk0 at h
 split at h
 ·exact okT (PN:=aH) (LH:=(ct.lh F)) (F:=F) (TB:=aH) Try.func45 bt (ct.loops F) (Eq.trans (by kernel_rfl) h) (by kernel_rfl)
 ·cases h
def eP.twX (F:Nat) (vJ:aso) (aa:Sl) (af:Int) (ar:Int) (H:Hp):OA:=(Hp.new H [(.sl aa),(.int .i64 af)]).bind λH4=>(Hp.ldSl H4 H.length 0).bind λs5=>(vJ s5 ar H4).bind λr6=>((r6.1).asI .i64).bind λn7=>some ((.int .i64 n7),r6.2)
def eP.tw:=eP.twX F (ct.tw F)
def eP.cs (F:Nat) (vJ:aso):Cs:=[(45,mk0 vJ)]
theorem eP.eqX (vJ:aso) (aa:Sl) (af:Int) (ar:Int) (H:Hp):EX (aX (eP.cs F vJ)) aH lh0 F Try.f15 [(.agg [(.sl aa),(.int .i64 af)]),(.int .i64 ar)] H=eP.twX F vJ aa af ar H:=by kernel_rfl
theorem eP.k:Ok Try.prog 15 (mk1 (eP.tw F)):=by
 intro args H v H' h
 unfold mk1 at h
 split at h
 ·exact okT (TB:=aH) Try.func15 (aN (ct.k F) bt) ae.no ((eP.eqX F (ct.tw F) _ _ _ H).trans h) (by kernel_rfl)
 ·cases h
def cv.l13 (F:Nat) :Nat->Sl->Int->Int->Hp->OA
 | 0,_,_,_,_=>none
 | ig+1,cU,bS,cu,H7=>(bif (decide (cu<(cU.n:Int))) then ((Sl.idx cU cu 1).bind λp10=>(Hp.st H7 p10.1 p10.2 (.int .i64 bS)).bind λH11=>cv.l13 F ig cU (wrap .i64 (bS+1)) (wrap .i64 (cu+1)) H11) else (some ((.int .i64 bS),H7)))
def cv.twX (aa:Sl) (au:Int) (H:Hp):OA:=cv.l13 F F aa au 0 H
def cv.tw:=cv.twX F
def cv.lh13 (ks:ast) (n:Nat) (tm:Tm) (H:Hp):OA:=match ks,tm 0,tm 1,tm 5 with
 | [],(.sl cU),(.int .i64 bS),(.int .i64 cu)=>cv.l13 F n cU bS cu H
 | _,_,_,_=>none
def cv.lh (p:Nat) (ks:ast) (n:Nat) (tm:Tm) (H:Hp):OA:=bif p.beq 13 then cv.lh13 F ks n tm H else (none)
theorem cv.loops:LO (aX []) aH (cv.lh F) F Try.f16:=
 (ae.rt (ae.lt (ae.rt (ae.block (ae.la (λn tm H r h=>by change cv.lh13 F [] n tm H=_ at h;unfold cv.lh13 at h;split at h;have e:bD tm [(0,_),(1,_),(5,_)]:=⟨‹_›,‹_›,‹_›,trivial⟩;obtain _ | k13:=n;cases h;exact ⟨_,rfl,by rw [<- bH e];exact Eq.trans (by kernel_rfl) h⟩;cases h) λk13=>ae.no)))))
theorem cv.k:Ok Try.prog 16 (mk0 (cv.tw F)):=by
 intro args H v H' h
 unfold mk0 at h
 split at h
 ·exact okT (PN:=aH) (LH:=(cv.lh F)) (F:=F) (TB:=aH) Try.func16 bt (cv.loops F) (Eq.trans (by kernel_rfl) h) (by kernel_rfl)
 ·cases h
def eV.twX (F:Nat) (vK:aso) (aa:Int) (af:Sl) (ar:Int) (H:Hp):OA:=(Hp.new H [(.int .i64 aa),(.sl af)]).bind λH4=>(Hp.ldSl H4 H.length 1).bind λs5=>(vK s5 ar H4).bind λr6=>((r6.1).asI .i64).bind λn7=>some ((.int .i64 n7),r6.2)
def eV.tw:=eV.twX F (cv.tw F)
def mk23 (g:asV) (args:asD) (H:Hp):OA:=match args with
 | [(.agg [(.int .i64 aa),(.sl af)]),(.int .i64 ar)]=>g aa af ar H
 | _=>none
theorem mk23_E (g:asV) (aa:Int) (af:Sl) (ar:Int) (H:Hp):mk23 g [(.agg [(.int .i64 aa),(.sl af)]),(.int .i64 ar)] H=g aa af ar H:=rfl
def eV.cs (F:Nat) (vK:aso):Cs:=[(16,mk0 vK)]
theorem eV.eqX (vK:aso) (aa:Int) (af:Sl) (ar:Int) (H:Hp):EX (aX (eV.cs F vK)) aH lh0 F Try.f23 [(.agg [(.int .i64 aa),(.sl af)]),(.int .i64 ar)] H=eV.twX F vK aa af ar H:=by kernel_rfl
theorem eV.k:Ok Try.prog 23 (mk23 (eV.tw F)):=by
 intro args H v H' h
 unfold mk23 at h
 split at h
 ·exact okT (TB:=aH) Try.func23 (aN (cv.k F) bt) ae.no ((eV.eqX F (cv.tw F) _ _ _ H).trans h) (by kernel_rfl)
 ·cases h
def cp.l13 (F:Nat) :Nat->Sl->Int->Int->Hp->OA
 | 0,_,_,_,_=>none
 | ig+1,cU,bS,cu,H7=>(bif (decide (cu<(cU.n:Int))) then ((Sl.idx cU cu 1).bind λp10=>(Hp.ldI H7 .i64 p10.1 p10.2).bind λn11=>(bif (n11 != bS) then (some ((.int .i64 (-1)),H7)) else (cp.l13 F ig cU (wrap .i64 (bS+1)) (wrap .i64 (cu+1)) H7))) else (some ((.int .i64 bS),H7)))
def cp.twX (aa:Sl) (au:Int) (H:Hp):OA:=cp.l13 F F aa au 0 H
def cp.tw:=cp.twX F
def cp.lh13 (ks:ast) (n:Nat) (tm:Tm) (H:Hp):OA:=match ks,tm 0,tm 1,tm 5 with
 | [],(.sl cU),(.int .i64 bS),(.int .i64 cu)=>cp.l13 F n cU bS cu H
 | _,_,_,_=>none
def cp.lh (p:Nat) (ks:ast) (n:Nat) (tm:Tm) (H:Hp):OA:=bif p.beq 13 then cp.lh13 F ks n tm H else (none)
theorem cp.loops:LO (aX []) aH (cp.lh F) F Try.f17:=
 (ae.rt (ae.lt (ae.rt (ae.block (ae.la (λn tm H r h=>by change cp.lh13 F [] n tm H=_ at h;unfold cp.lh13 at h;split at h;have e:bD tm [(0,_),(1,_),(5,_)]:=⟨‹_›,‹_›,‹_›,trivial⟩;obtain _ | k13:=n;cases h;exact ⟨_,rfl,by rw [<- bH e];exact Eq.trans (by kernel_rfl) h⟩;cases h) λk13=>ae.no)))))
theorem cp.k:Ok Try.prog 17 (mk0 (cp.tw F)):=by
 intro args H v H' h
 unfold mk0 at h
 split at h
 ·exact okT (PN:=aH) (LH:=(cp.lh F)) (F:=F) (TB:=aH) Try.func17 bt (cp.loops F) (Eq.trans (by kernel_rfl) h) (by kernel_rfl)
 ·cases h
def eE.twX (F:Nat) (vL:aso) (aa:Int) (af:Sl) (ar:Int) (H:Hp):OA:=(Hp.new H [(.int .i64 aa),(.sl af)]).bind λH4=>(Hp.ldSl H4 H.length 1).bind λs5=>(vL s5 ar H4).bind λr6=>((r6.1).asI .i64).bind λn7=>(bif (decide (n7<0)) then (some ((.int .i64 (-1)),r6.2)) else (some ((.int .i64 n7),r6.2)))
def eE.tw:=eE.twX F (cp.tw F)
def eE.cs (F:Nat) (vL:aso):Cs:=[(17,mk0 vL)]
theorem eE.eqX (vL:aso) (aa:Int) (af:Sl) (ar:Int) (H:Hp):EX (aX (eE.cs F vL)) aH lh0 F Try.f24 [(.agg [(.int .i64 aa),(.sl af)]),(.int .i64 ar)] H=eE.twX F vL aa af ar H:=by kernel_rfl
theorem eE.k:Ok Try.prog 24 (mk23 (eE.tw F)):=by
 intro args H v H' h
 unfold mk23 at h
 split at h
 ·exact okT (TB:=aH) Try.func24 (aN (cp.k F) bt) ae.no ((eE.eqX F (cp.tw F) _ _ _ H).trans h) (by kernel_rfl)
 ·cases h
def dP.twX (F:Nat) (vM:asz) (ni:aso) (vN:aso) (qd:aso) (oL:asu) (vO:asT) (vP:asz) (vQ:asV) (qe:asV) (aa:Sl) (af:Int) (H:Hp):OA:=(Hp.new H [(.sl aa),(.int .i64 af)]).bind λH3=>(Hp.ldSl H3 H.length 0).bind λs4=>(Hp.ldI H3 .i64 H.length (0+1)).bind λn5=>(vM s4 n5 1048576 H3).bind λr6=>((r6.1).asI .i64).bind λn7=>(bif (decide (n7<0)) then (some ((.bool true),r6.2)) else ((Hp.ldSl r6.2 H.length 0).bind λs8=>(Hp.ldI r6.2 .i64 H.length (0+1)).bind λn9=>(ni s8 n9 r6.2).bind λr10=>((r10.1).asAgg 2).bind λl11=>(l11[0]?).bind λv12=>((v12).asSl).bind λs13=>(l11[1]?).bind λv14=>((v14).asI .i64).bind λn15=>(vN s13 n15 r10.2).bind λr16=>((r16.1).asTup 2).bind λl17=>(l17[0]?).bind λv18=>((v18).asAgg 2).bind λl19=>(l19[0]?).bind λv20=>((v20).asI .i64).bind λn21=>(l19[1]?).bind λv22=>((v22).asSl).bind λs23=>(l17[1]?).bind λv24=>((v24).asI .i64).bind λn25=>(Hp.new r16.2 [.int .i64 0,.sl ⟨none,0,.ex 0⟩]).bind λH26=>(Hp.st H26 r16.2.length 0 (.int .i64 n21)).bind λH27=>(Hp.st H27 r16.2.length (0+1) (.sl s23)).bind λH28=>(Hp.ldSl H28 H.length 0).bind λs29=>(Hp.ldI H28 .i64 H.length (0+1)).bind λn30=>(ni s29 n30 H28).bind λr31=>((r31.1).asAgg 2).bind λl32=>(l32[0]?).bind λv33=>((v33).asSl).bind λs34=>(l32[1]?).bind λv35=>((v35).asI .i64).bind λn36=>(Hp.new r31.2 [.sl ⟨none,0,.ex 0⟩,.int .i64 0]).bind λH37=>(Hp.st H37 r31.2.length 0 (.sl s34)).bind λH38=>(Hp.st H38 r31.2.length (0+1) (.int .i64 n36)).bind λH39=>(Hp.ldSl H39 r31.2.length 0).bind λs40=>(Hp.ldI H39 .i64 r31.2.length (0+1)).bind λn41=>(qd s40 n41 H39).bind λr42=>((r42.1).asTup 2).bind λl43=>(l43[0]?).bind λv44=>((v44).asAgg 2).bind λl45=>(l45[0]?).bind λv46=>((v46).asI .i64).bind λn47=>(l45[1]?).bind λv48=>((v48).asSl).bind λs49=>(l43[1]?).bind λv50=>((v50).asI .i64).bind λn51=>(Hp.new r42.2 [.int .i64 0,.sl ⟨none,0,.ex 0⟩]).bind λH52=>(Hp.st H52 r42.2.length 0 (.int .i64 n47)).bind λH53=>(Hp.st H53 r42.2.length (0+1) (.sl s49)).bind λH54=>(Hp.ldI H54 .i64 r42.2.length 0).bind λn55=>(Hp.ldSl H54 r42.2.length (0+1)).bind λs56=>(Hp.ldI H54 .i64 r16.2.length 0).bind λn57=>(Hp.ldSl H54 r16.2.length (0+1)).bind λs58=>(oL n55 s56 n57 s58 H54).bind λr59=>((r59.1).asB).bind λb60=>(bif (!b60) then (some ((.bool false),r59.2)) else ((bif (n51 != n25) then (some ((.bool false),r59.2)) else ((Hp.ldSl r59.2 r31.2.length 0).bind λs61=>(Hp.ldI r59.2 .i64 r31.2.length (0+1)).bind λn62=>(Hp.ldSl r59.2 H.length 0).bind λs63=>(Hp.ldI r59.2 .i64 H.length (0+1)).bind λn64=>(ni s63 n64 r59.2).bind λr65=>((r65.1).asAgg 2).bind λl66=>(l66[0]?).bind λv67=>((v67).asSl).bind λs68=>(l66[1]?).bind λv69=>((v69).asI .i64).bind λn70=>(if aZ r59.2 r65.2 then ((vO s61 n62 s68 n70 r65.2).bind λr71=>((r71.1).asB).bind λb72=>(bif (!b72) then (some ((.bool false),r71.2)) else ((Hp.ldSl r71.2 r31.2.length 0).bind λs73=>(Hp.ldI r71.2 .i64 r31.2.length (0+1)).bind λn74=>(vP s73 n74 1 r71.2).bind λr75=>((r75.1).asI .i64).bind λn76=>(bif (decide (n76<0)) then (some ((.bool false),r75.2)) else ((Hp.ldI r75.2 .i64 r42.2.length 0).bind λn77=>(Hp.ldSl r75.2 r42.2.length (0+1)).bind λs78=>(Hp.ldI r75.2 .i64 r16.2.length 0).bind λn79=>(Hp.ldSl r75.2 r16.2.length (0+1)).bind λs80=>(oL n77 s78 n79 s80 r75.2).bind λr81=>((r81.1).asB).bind λb82=>(bif (!b82) then (some ((.bool false),r81.2)) else ((bif (n51 != n25) then (some ((.bool false),r81.2)) else ((Hp.ldI r81.2 .i64 r42.2.length 0).bind λn83=>(Hp.ldSl r81.2 r42.2.length (0+1)).bind λs84=>(vQ n83 s84 1 r81.2).bind λr85=>((r85.1).asI .i64).bind λn86=>(Hp.ldI r85.2 .i64 r42.2.length 0).bind λn87=>(Hp.ldSl r85.2 r42.2.length (0+1)).bind λs88=>(qe n87 s88 1 r85.2).bind λr89=>((r89.1).asI .i64).bind λn90=>(bif (decide (n90<0)) then (some ((.bool false),r89.2)) else ((bif (n90 != n86) then (some ((.bool false),r89.2)) else ((Hp.ldSl r89.2 H.length 0).bind λs91=>(Hp.ldI r89.2 .i64 H.length (0+1)).bind λn92=>(ni s91 n92 r89.2).bind λr93=>((r93.1).asAgg 2).bind λl94=>(l94[0]?).bind λv95=>((v95).asSl).bind λs96=>(l94[1]?).bind λv97=>((v97).asI .i64).bind λn98=>(qd s96 n98 r93.2).bind λr99=>((r99.1).asTup 2).bind λl100=>(l100[0]?).bind λv101=>((v101).asAgg 2).bind λl102=>(l102[0]?).bind λv103=>((v103).asI .i64).bind λn104=>(l102[1]?).bind λv105=>((v105).asSl).bind λs106=>(l100[1]?).bind λv107=>((v107).asI .i64).bind λn108=>(Hp.new r99.2 [.int .i64 0,.sl ⟨none,0,.ex 0⟩]).bind λH109=>(Hp.st H109 r99.2.length 0 (.int .i64 n104)).bind λH110=>(Hp.st H110 r99.2.length (0+1) (.sl s106)).bind λH111=>(Hp.ldI H111 .i64 r99.2.length 0).bind λn112=>(Hp.ldSl H111 r99.2.length (0+1)).bind λs113=>(Hp.ldI H111 .i64 r16.2.length 0).bind λn114=>(Hp.ldSl H111 r16.2.length (0+1)).bind λs115=>(oL n112 s113 n114 s115 H111).bind λr116=>((r116.1).asB).bind λb117=>(bif (!b117) then (some ((.bool false),r116.2)) else ((bif (n108 != n25) then (some ((.bool false),r116.2)) else ((Hp.ldI r116.2 .i64 r42.2.length 0).bind λn118=>(Hp.ldSl r116.2 r42.2.length (0+1)).bind λs119=>(qe n118 s119 1 r116.2).bind λr120=>((r120.1).asI .i64).bind λn121=>(bif (decide (n121<0)) then (some ((.bool false),r120.2)) else ((bif (n121 != n86) then (some ((.bool false),r120.2)) else (some ((.bool true),r120.2)))))))))))))))))))))) else none)))))))
def dP.tw:=dP.twX F (el.tw F) (dC.tw F) (eK.tw F) (ey.tw F) (dU.tw F) (eO.tw F) (eP.tw F) (eV.tw F) (eE.tw F)
def dP.pn:Nat->List Nat:=cP [(10,[3])]
def dP.tb:Nat->List (List Nat):=cP [(10,[[],[],[1],[0,1,2],[0,1,2,3]])]
def dP.cs (F:Nat) (vM:asz) (ni:aso) (vN:aso) (qd:aso) (oL:asu) (vO:asT) (vP:asz) (vQ:asV) (qe:asV):Cs:=[(7,mk1 vM),(9,mk4 ni),(20,mk4 vN),(21,mk4 qd),(22,mk9 oL),(11,mk22 vO),(15,mk1 vP),(23,mk23 vQ),(24,mk23 qe)]
theorem dP.eqX (vM:asz) (ni:aso) (vN:aso) (qd:aso) (oL:asu) (vO:asT) (vP:asz) (vQ:asV) (qe:asV) (aa:Sl) (af:Int) (H:Hp):EX (aX (dP.cs F vM ni vN qd oL vO vP vQ qe)) dP.pn lh0 F Try.f6 [(.agg [(.sl aa),(.int .i64 af)])] H=dP.twX F vM ni vN qd oL vO vP vQ qe aa af H:=by kernel_rfl
theorem dP.k:Ok Try.prog 6 (mk4 (dP.tw F)):=by
 intro args H v H' h
 unfold mk4 at h
 split at h
 ·exact okT (TB:=dP.tb) Try.func6 (aN (el.k F) (aN (dC.k F) (aN (eK.k F) (aN (ey.k F) (aN (dU.k F) (aN (eO.k F) (aN (eP.k F) (aN (eV.k F) (aN (eE.k F) bt))))))))) ae.no ((dP.eqX F (el.tw F) (dC.tw F) (eK.tw F) (ey.tw F) (dU.tw F) (eO.tw F) (eP.tw F) (eV.tw F) (eE.tw F) _ _ H).trans h) (by kernel_rfl)
 ·cases h
theorem dP.T {F:Nat} {aa:Sl} {af:Int} {H:Hp} {v:AV} {H':Hp} (h:dP.tw F aa af H=some (v,H')):Go.AE.T Try.prog 6 [(.agg [(.sl aa),(.int .i64 af)])] H v H':=dP.k F _ _ _ _ ((mk4_E (dP.tw F) aa af H).trans h)
end
end Go.Proofs.Ytppbogklbhfboaa.AE
