import Derived.Test.YtokekkacliomkaaTab1
set_option linter.unusedVariables false
set_option linter.unusedSimpArgs false
namespace Go.Proofs.Ytokekkacliomkaa.AE
open Go Go.AE Go.Proofs IntKind
variable (F:Nat)
set_option linter.unusedVariables false
set_option maxHeartbeats 4000000
set_option maxRecDepth 100000
noncomputable section
def gp.twX (F:Nat) (aa:Sl) (H:Hp):OA:=some ((.bool (decide ((aa.n:Int)>4096))),H)
def gp.tw:=gp.twX F
def mk0 (g:PY) (args:PZ) (H:Hp):OA:=match args with
 | [(.sl aa)]=>g aa H
 | _=>none
theorem mk0_E (g:PY) (aa:Sl) (H:Hp):mk0 g [(.sl aa)] H=g aa H:=rfl
theorem gp.k:Ok Try.prog 12 (mk0 (gp.tw F)):=by
 intro args H v H' h
 unfold mk0 at h
 split at h
 ·exact ok0 Try.func12 (Eq.trans (by kernel_rfl) h) (by kernel_rfl) (by kernel_rfl)
 ·cases h
def cI.l29 (F:Nat) :Nat->Sl->Nat->Nat->Int->Hp->OA
 | 0,_,_,_,_,_=>none
 | eR+1,hJ,lA,pT,ju,H7=>(bif (decide (ju<(hJ.n:Int))) then ((bif (decide (ju<64)) then ((Hp.ldI H7 .i64 lA (pT+2)).bind λn12=>(Sl.idx hJ ju 1).bind λp13=>(Hp.ldI H7 .u8 p13.1 p13.2).bind λn14=>(Hp.st H7 lA (pT+2) (.int .i64 (Int.tmod (wrap .i64 ((wrap .i64 (n12 * 37))+(wrap .i64 n14))) 2147483647))).bind λH15=>cI.l29 F eR hJ lA pT (wrap .i64 (ju+1)) H15) else (some ((.ptr lA pT),H7)))) else (some ((.ptr lA pT),H7)))
termination_by structural n=>n
def cI.twX (aa:Sl) (H:Hp):OA:=(Hp.new H [(.sl aa),(.int .i64 0),(.int .i64 97531)]).bind λH2=>cI.l29 F F aa H.length 0 0 H2
def cI.tw:=cI.twX F
def cI.lh29 (ks:PW) (n:Nat) (tm:Tm) (H:Hp):OA:=match ks,tm 0,tm 2,tm 3,tm 4 with
 | [],(.sl hJ),.nilp,(.ptr lA pT),(.int .i64 ju)=>cI.l29 F n hJ lA pT ju H
 | _,_,_,_,_=>none
def cI.lh (p:Nat) (ks:PW) (n:Nat) (tm:Tm) (H:Hp):OA:=bif p.beq 29 then cI.lh29 F ks n tm H else (none)
def cI.pn:Nat->List Nat:=el [(5,[15])]
def cI.tb:Nat->List (List Nat):=el [(5,[[],[],[1],[1,2],[1,2,3],[1,2,3,4],[],[],[6,7],[6,7,8],[6,7,8,9],[1,2,3,4,5,6,7,8,9,10],[1,2,3,4,5,6,7,8,9,10,11],[0,1,2,3,4,5,6,7,8,9,10,11,12],[0,1,2,3,4,5,6,7,8,9,10,11,12,13],[0,1,2,3,4,5,6,7,8,9,10,11,12,13,14]])]
theorem cI.loops:LO (bU []) cI.pn (cI.lh F) F Try.f57:=
 (af.rt (af.rt (af.lt (af.rt (af.block (af.la (λn tm H r h=>by change cI.lh29 F [] n tm H=_ at h;unfold cI.lh29 at h;split at h;have e:dP tm [(0,_),(2,_),(3,_),(4,_)]:=⟨‹_›,‹_›,‹_›,‹_›,trivial⟩;obtain _ | k29:=n;cases h;exact ⟨_,rfl,by rw [<- dQ e];exact Eq.trans (by kernel_rfl) h⟩;cases h) λk29=>af.no))))))
theorem cI.k:Ok Try.prog 57 (mk0 (cI.tw F)):=by
 intro args H v H' h
 unfold mk0 at h
 split at h
 ·exact okT (PN:=cI.pn) (LH:=(cI.lh F)) (F:=F) (TB:=cI.tb) Try.func57 dr (cI.loops F) (Eq.trans (by kernel_rfl) h) (by kernel_rfl)
 ·cases h
def bo.j1 (F:Nat) (lC:Int) (qS:Int) (H37:Hp):OA:=(if lC=0 then none else (some ((.int .i64 (Int.tmod qS lC)),H37)))
def bo.j2 (qT:Int) (qU:Int) (H28:Hp):OA:=bo.j1 F qT qU H28
def bo.j3 (F:Nat) (oD:Int) (qV:Int) (H45:Hp):OA:=(if oD=0 then none else (some ((.int .i64 (Int.tmod qV oD)),H45)))
def bo.twX (aa:Nat) (ac:Nat) (ai:Int) (H:Hp):OA:=(bif (decide (ai<=1)) then (some ((.int .i64 0),H)) else ((Hp.ldI H .i64 aa (ac+2)).bind λn4=>(Hp.st H aa (ac+2) (.int .i64 (Int.tmod (wrap .i64 ((wrap .i64 (n4 * 48271))+11)) 2147483647))).bind λH5=>(Hp.ldI H5 .i64 aa (ac+2)).bind λn6=>(Hp.ldI H5 .i64 aa (ac+1)).bind λn7=>(Hp.ldSl H5 aa ac).bind λs8=>(bif (decide (n7<(s8.n:Int))) then ((Hp.ldSl H5 aa ac).bind λs9=>(Hp.ldI H5 .i64 aa (ac+1)).bind λn10=>(Sl.idx s9 n10 1).bind λp11=>(Hp.ldI H5 .u8 p11.1 p11.2).bind λn12=>(Hp.ldI H5 .i64 aa (ac+1)).bind λn13=>(Hp.st H5 aa (ac+1) (.int .i64 (wrap .i64 (n13+1)))).bind λH14=>(bif (decide (ai<=256)) then ((Hp.ldI H14 .i64 aa (ac+1)).bind λn15=>(bif ((Int.tmod n15 2)==0) then ((Hp.ldSl H14 aa ac).bind λs16=>(Hp.ldI H14 .i64 aa (ac+1)).bind λn17=>(Sl.idx s16 (wrap .i64 (n17 - 1)) 1).bind λp18=>(Hp.ldI H14 .u8 p18.1 p18.2).bind λn19=>bo.j2 F ai (wrap .i64 n19) H14) else (bo.j2 F ai (wrap .i64 ((wrap .i64 (Int.tdiv n6 11))+(wrap .i64 n12))) H14))) else (bo.j1 F ai (wrap .i64 ((wrap .i64 (Int.tdiv n6 11))+(wrap .i64 n12))) H14))) else (bo.j3 F ai (wrap .i64 (Int.tdiv n6 11)) H5))))
def bo.tw:=bo.twX F
def bo.tb:Nat->List (List Nat):=el [(5,[[],[0],[0,1],[0,1,2],[],[4],[4,5],[4,5,6],[4,5,6,7],[0,1,2,3,4,5,6,7,8]]),(6,[[],[],[1],[1,2],[1,2,3],[],[5],[5,6],[5,6,7],[1,2,3,4,5,6,7,8],[1,2,3,4,5,6,7,8,9],[1,2,3,4,5,6,7,8,9,10],[0,1,2,3,4,5,6,7,8,9,10,11],[0,1,2,3,4,5,6,7,8,9,10,11,12]]),(9,[[],[0],[0,1],[0,1,2],[],[4],[4,5],[4,5,6],[4,5,6,7],[0,1,2,3,4,5,6,7,8],[0,1,2,3,4,5,6,7,8,9],[0,1,2,3,4,5,6,7,8,9,10],[0,1,2,3,4,5,6,7,8,9,10,11]])]
def mk1 (g:PU) (args:PZ) (H:Hp):OA:=match args with
 | [(.ptr aa ac),(.int .i64 ai)]=>g aa ac ai H
 | _=>none
theorem mk1_E (g:PU) (aa:Nat) (ac:Nat) (ai:Int) (H:Hp):mk1 g [(.ptr aa ac),(.int .i64 ai)] H=g aa ac ai H:=rfl
theorem bo.k:Ok Try.prog 58 (mk1 (bo.tw F)):=by
 intro args H v H' h
 unfold mk1 at h
 split at h
 ·exact okT (PN:=cj) (LH:=lh0) (F:=F) (TB:=bo.tb) Try.func58 dr af.no (Eq.trans (by kernel_rfl) h) (by kernel_rfl)
 ·cases h
def fZ.twX (F:Nat) (aa:Int) (aF:Int) (H:Hp):OA:=(Hp.new H [.int .i64 0,.int .i64 0,.sl ⟨none,0,.ex 0⟩]).bind λH3=>(Hp.mk H3 [.int .i64 0] 8 (wrap .i64 (aa * aF)) (wrap .i64 (aa * aF))).bind λm4=>(Hp.st m4.2 H.length 0 (.int .i64 aa)).bind λH5=>(Hp.st H5 H.length (0+1) (.int .i64 aF)).bind λH6=>(Hp.st H6 H.length (0+1+1) (.sl m4.1)).bind λH7=>(Hp.ldI H7 .i64 H.length 0).bind λn8=>(Hp.ldI H7 .i64 H.length (0+1)).bind λn9=>(Hp.ldSl H7 H.length (0+2)).bind λs10=>some ((.agg [(.int .i64 n8),(.int .i64 n9),(.sl s10)]),H7)
def fZ.tw:=fZ.twX F
def mk2 (g:Qb) (args:PZ) (H:Hp):OA:=match args with
 | [(.int .i64 aa),(.int .i64 aF)]=>g aa aF H
 | _=>none
theorem mk2_E (g:Qb) (aa:Int) (aF:Int) (H:Hp):mk2 g [(.int .i64 aa),(.int .i64 aF)] H=g aa aF H:=rfl
theorem fZ.k:Ok Try.prog 63 (mk2 (fZ.tw F)):=by
 intro args H v H' h
 unfold mk2 at h
 split at h
 ·exact ok0 Try.func63 (Eq.trans (by kernel_rfl) h) (by kernel_rfl) (by kernel_rfl)
 ·cases h
def bI.j2 (F:Nat) (gW:Qb) (cY:PU) (C61_:Qo) (zM:Nat) (Ir:Nat) (wb:Nat) (Is:Nat) (wc:Nat) (It:Nat) (qW:Int) (qX:Int) (H85:Hp):OA:=C61_ zM Ir wb Is wc It qW (wrap .i64 (qX+1)) H85
def bI.l61 (F:Nat) (gW:Qb) (cY:PU) :Nat->Nat->Nat->Nat->Nat->Nat->Nat->Int->Int->Hp->OA
 | 0,_,_,_,_,_,_,_,_,_=>none
 | qY+1,qZ,q_,fR,nk,jv,lD,jw,jx,H30=>(Hp.ldSl H30 jv (lD+2)).bind λs63=>(bif (decide (jx<(s63.n:Int))) then ((cY qZ q_ 3 H30).bind λr64=>((r64.1).asI .i64).bind λn65=>(bif (decide (n65>0)) then ((Hp.ldSl r64.2 jv (lD+2)).bind λs66=>(cY qZ q_ (wrap .i64 ((wrap .i64 (2 * jw))+1)) r64.2).bind λr67=>((r67.1).asI .i64).bind λn68=>(Sl.idx s66 jx 1).bind λp69=>(Hp.st r67.2 p69.1 p69.2 (.int .i64 (wrap .i64 (n68 - jw)))).bind λH70=>(ifW (((((Hp.ldSl r67.2 jv (lD+2)).bind λs71=>m_ (.sl s66) r67.2 (.sl s71) r67.2)=some ())/\(((Hp.ldSl r64.2 jv (lD+2)).bind λs72=>m_ (.sl s66) r64.2 (.sl s72) r64.2)=some ())/\True)/\True) (bI.j2 F gW cY (bI.l61 F gW cY qY) qZ q_ fR nk jv lD jw jx H70))) else (bI.j2 F gW cY (bI.l61 F gW cY qY) qZ q_ fR nk jv lD jw jx r64.2))) else ((Hp.ldI H30 .i64 jv lD).bind λn86=>(Hp.ldI H30 .i64 jv (lD+1)).bind λn87=>(Hp.ldSl H30 jv (lD+2)).bind λs88=>(Hp.st H30 fR nk (.int .i64 n86)).bind λH89=>(Hp.st H89 fR (nk+1) (.int .i64 n87)).bind λH90=>(Hp.st H90 fR (nk+1+1) (.sl s88)).bind λH91=>(Hp.ldI H91 .i64 fR nk).bind λn92=>(Hp.ldI H91 .i64 fR (nk+1)).bind λn93=>(Hp.ldSl H91 fR (nk+2)).bind λs94=>some ((.agg [(.int .i64 n92),(.int .i64 n93),(.sl s94)]),H91)))
termination_by structural n=>n
def bI.twX (gW:Qb) (cY:PU) (aa:Nat) (ac:Nat) (ai:Int) (bV:Int) (H:Hp):OA:=(Hp.new H [.int .i64 0,.int .i64 0,.sl ⟨none,0,.ex 0⟩]).bind λH5=>(gW ai bV H5).bind λr6=>((r6.1).asAgg 3).bind λl7=>(l7[0]?).bind λv8=>((v8).asI .i64).bind λn9=>(l7[1]?).bind λv10=>((v10).asI .i64).bind λn11=>(l7[2]?).bind λv12=>((v12).asSl).bind λs13=>(Hp.new r6.2 [.int .i64 0,.int .i64 0,.sl ⟨none,0,.ex 0⟩]).bind λH14=>(Hp.st H14 r6.2.length 0 (.int .i64 n9)).bind λH15=>(Hp.st H15 r6.2.length (0+1) (.int .i64 n11)).bind λH16=>(Hp.st H16 r6.2.length (0+1+1) (.sl s13)).bind λH17=>(cY aa ac 6 H17).bind λr18=>((r18.1).asI .i64).bind λn19=>bI.l61 F gW cY F aa ac H.length 0 r6.2.length 0 (wrap .i64 (1+n19)) 0 r18.2
def bI.tw:=bI.twX F (fZ.tw F) (bo.tw F)
def bI.lh61 (gW:Qb) (cY:PU) (ks:PW) (n:Nat) (tm:Tm) (H:Hp):OA:=match ks,tm 0,tm 6,tm 7,tm 8,tm 9 with
 | [],(.ptr qZ q_),(.ptr fR nk),(.ptr jv lD),(.int .i64 jw),(.int .i64 jx)=>bI.l61 F gW cY n qZ q_ fR nk jv lD jw jx H
 | _,_,_,_,_,_=>none
def bI.lh (gW:Qb) (cY:PU) (p:Nat) (ks:PW) (n:Nat) (tm:Tm) (H:Hp):OA:=bif p.beq 61 then bI.lh61 F gW cY ks n tm H else (none)
def bI.pn:Nat->List Nat:=el [(7,[7,11,999,1001])]
def bI.tb:Nat->List (List Nat):=el [(7,[[],[0],[],[],[],[4],[4,5],[3,4,5,6],[],[3,4,5,6,7,8],[0,1,2,3,4,5,6,7,8,9],[0,1,2,3,4,5,6,7,8,9,10]])]
def mk3 (g:Qi) (args:PZ) (H:Hp):OA:=match args with
 | [(.ptr aa ac),(.int .i64 ai),(.int .i64 bV)]=>g aa ac ai bV H
 | _=>none
theorem mk3_E (g:Qi) (aa:Nat) (ac:Nat) (ai:Int) (bV:Int) (H:Hp):mk3 g [(.ptr aa ac),(.int .i64 ai),(.int .i64 bV)] H=g aa ac ai bV H:=rfl
def bI.cs (F:Nat) (gW:Qb) (cY:PU):Cs:=[(63,mk2 gW),(58,mk1 cY)]
theorem bI.loops (gW:Qb) (cY:PU):LO (bU (bI.cs F gW cY)) bI.pn (bI.lh F gW cY) F Try.f59:=
 (af.rt (af.rt (af.rt (af.lt (af.rt (af.block (af.la (λn tm H r h=>by change bI.lh61 F gW cY [] n tm H=_ at h;unfold bI.lh61 at h;split at h;have e:dP tm [(0,_),(6,_),(7,_),(8,_),(9,_)]:=⟨‹_›,‹_›,‹_›,‹_›,‹_›,trivial⟩;obtain _ | k61:=n;cases h;exact ⟨_,rfl,by rw [<- dQ e];exact Eq.trans (by kernel_rfl) h⟩;cases h) λk61=>af.no)))))))
theorem bI.eqX (gW:Qb) (cY:PU) (aa:Nat) (ac:Nat) (ai:Int) (bV:Int) (H:Hp):EX (bU (bI.cs F gW cY)) bI.pn (bI.lh F gW cY) F Try.f59 [(.ptr aa ac),(.int .i64 ai),(.int .i64 bV)] H=bI.twX F gW cY aa ac ai bV H:=by kernel_rfl
theorem bI.k:Ok Try.prog 59 (mk3 (bI.tw F)):=by
 intro args H v H' h
 unfold mk3 at h
 split at h
 ·exact okT (TB:=bI.tb) Try.func59 (bB (fZ.k F) (bB (bo.k F) dr)) (bI.loops F (fZ.tw F) (bo.tw F)) ((bI.eqX F (fZ.tw F) (bo.tw F) _ _ _ _ H).trans h) (by kernel_rfl)
 ·cases h
def ft.twX (F:Nat) (cY:PU) (kt:Qi) (aa:Nat) (ac:Nat) (H:Hp):OA:=(Hp.new H [.int .i64 0,.int .i64 0,.sl ⟨none,0,.ex 0⟩]).bind λH3=>(cY aa ac 5 H3).bind λr4=>((r4.1).asI .i64).bind λn5=>(cY aa ac 5 r4.2).bind λr6=>((r6.1).asI .i64).bind λn7=>(kt aa ac n5 n7 r6.2).bind λr8=>((r8.1).asAgg 3).bind λl9=>(l9[0]?).bind λv10=>((v10).asI .i64).bind λn11=>(l9[1]?).bind λv12=>((v12).asI .i64).bind λn13=>(l9[2]?).bind λv14=>((v14).asSl).bind λs15=>(Hp.new r8.2 [.int .i64 0,.int .i64 0,.sl ⟨none,0,.ex 0⟩]).bind λH16=>(Hp.st H16 r8.2.length 0 (.int .i64 n11)).bind λH17=>(Hp.st H17 r8.2.length (0+1) (.int .i64 n13)).bind λH18=>(Hp.st H18 r8.2.length (0+1+1) (.sl s15)).bind λH19=>(cY aa ac 24 H19).bind λr20=>((r20.1).asI .i64).bind λn21=>(bif (n21==0) then ((Hp.ldI r20.2 .i64 r8.2.length 0).bind λn22=>(Hp.st r20.2 r8.2.length 0 (.int .i64 (wrap .i64 (n22+1)))).bind λH23=>(Hp.ldI H23 .i64 r8.2.length 0).bind λn24=>(Hp.ldI H23 .i64 r8.2.length (0+1)).bind λn25=>(Hp.ldSl H23 r8.2.length (0+2)).bind λs26=>(Hp.st H23 H.length 0 (.int .i64 n24)).bind λH27=>(Hp.st H27 H.length (0+1) (.int .i64 n25)).bind λH28=>(Hp.st H28 H.length (0+1+1) (.sl s26)).bind λH29=>(Hp.ldI H29 .i64 H.length 0).bind λn30=>(Hp.ldI H29 .i64 H.length (0+1)).bind λn31=>(Hp.ldSl H29 H.length (0+2)).bind λs32=>some ((.agg [(.int .i64 n30),(.int .i64 n31),(.sl s32)]),H29)) else ((bif (n21==1) then ((Hp.ldSl r20.2 r8.2.length 2).bind λs33=>(Hp.new r20.2 [(.int .i64 0)]).bind λH34=>(Sl.row H34 (⟨some (r20.2.length,0),1,.ex 1⟩:Sl) 1).bind λxs36=>(Hp.app H34 1 8 s33 (⟨some (r20.2.length,0),1,.ex 1⟩:Sl).n xs36).bind λa35=>(Hp.st a35.2 r8.2.length 2 (.sl a35.1)).bind λH37=>(Hp.ldI H37 .i64 r8.2.length 0).bind λn38=>(Hp.ldI H37 .i64 r8.2.length (0+1)).bind λn39=>(Hp.ldSl H37 r8.2.length (0+2)).bind λs40=>(Hp.st H37 H.length 0 (.int .i64 n38)).bind λH41=>(Hp.st H41 H.length (0+1) (.int .i64 n39)).bind λH42=>(Hp.st H42 H.length (0+1+1) (.sl s40)).bind λH43=>(Hp.ldI H43 .i64 H.length 0).bind λn44=>(Hp.ldI H43 .i64 H.length (0+1)).bind λn45=>(Hp.ldSl H43 H.length (0+2)).bind λs46=>some ((.agg [(.int .i64 n44),(.int .i64 n45),(.sl s46)]),H43)) else ((bif (n21==2) then ((Hp.ldSl r20.2 r8.2.length 2).bind λs47=>(bif (decide ((s47.n:Int)>0)) then ((Hp.ldSl r20.2 r8.2.length 2).bind λs48=>(cY aa ac (s48.n:Int) r20.2).bind λr49=>((r49.1).asI .i64).bind λn50=>(Hp.ldSl r49.2 r8.2.length 2).bind λs51=>(Hp.new r49.2 [(.int .i64 1000000000000),(.int .i64 1000000000001),(.int .i64 (-1000000000000)),(.int .i64 (-1000000000001)),(.int .i64 (-9223372036854775808))]).bind λH52=>(cY aa ac 5 H52).bind λr53=>((r53.1).asI .i64).bind λn54=>(Sl.idx (⟨some (r49.2.length,0),5,.ex 5⟩:Sl) n54 1).bind λp55=>(Hp.ldI r53.2 .i64 p55.1 p55.2).bind λn56=>(Sl.idx s51 n50 1).bind λp57=>(Hp.st r53.2 p57.1 p57.2 (.int .i64 n56)).bind λH58=>(ifW (((uD (some (AV.sl ⟨some (0,0),5,.ex 5⟩,[⟨[(.int .i64 1000000000000),(.int .i64 1000000000001),(.int .i64 (-1000000000000)),(.int .i64 (-1000000000001)),(.int .i64 (-9223372036854775808))],true,true⟩])) (.sl (⟨some (r49.2.length,0),5,.ex 5⟩:Sl)) r53.2)/\(uD (some (AV.sl ⟨some (0,0),5,.ex 5⟩,[⟨[(.int .i64 1000000000000),(.int .i64 1000000000001),(.int .i64 (-1000000000000)),(.int .i64 (-1000000000001)),(.int .i64 (-9223372036854775808))],true,true⟩])) (.sl (⟨some (r49.2.length,0),5,.ex 5⟩:Sl)) H52)/\(uD (some (AV.sl ⟨some (0,0),5,.ex 5⟩,[⟨[(.int .i64 1000000000000),(.int .i64 1000000000001),(.int .i64 (-1000000000000)),(.int .i64 (-1000000000001)),(.int .i64 (-9223372036854775808))],true,true⟩])) (.sl (⟨some (r49.2.length,0),5,.ex 5⟩:Sl)) r49.2)/\True)/\((((Hp.ldSl r53.2 r8.2.length 2).bind λs59=>m_ (.sl s51) r53.2 (.sl s59) r53.2)=some ())/\(((Hp.ldSl H52 r8.2.length 2).bind λs60=>m_ (.sl s51) H52 (.sl s60) H52)=some ())/\(((Hp.ldSl r49.2 r8.2.length 2).bind λs61=>m_ (.sl s51) r49.2 (.sl s61) r49.2)=some ())/\True)/\True) ((Hp.ldI H58 .i64 r8.2.length 0).bind λn62=>(Hp.ldI H58 .i64 r8.2.length (0+1)).bind λn63=>(Hp.ldSl H58 r8.2.length (0+2)).bind λs64=>(Hp.st H58 H.length 0 (.int .i64 n62)).bind λH65=>(Hp.st H65 H.length (0+1) (.int .i64 n63)).bind λH66=>(Hp.st H66 H.length (0+1+1) (.sl s64)).bind λH67=>(Hp.ldI H67 .i64 H.length 0).bind λn68=>(Hp.ldI H67 .i64 H.length (0+1)).bind λn69=>(Hp.ldSl H67 H.length (0+2)).bind λs70=>some ((.agg [(.int .i64 n68),(.int .i64 n69),(.sl s70)]),H67)))) else ((Hp.ldI r20.2 .i64 r8.2.length 0).bind λn71=>(Hp.ldI r20.2 .i64 r8.2.length (0+1)).bind λn72=>(Hp.ldSl r20.2 r8.2.length (0+2)).bind λs73=>(Hp.st r20.2 H.length 0 (.int .i64 n71)).bind λH74=>(Hp.st H74 H.length (0+1) (.int .i64 n72)).bind λH75=>(Hp.st H75 H.length (0+1+1) (.sl s73)).bind λH76=>(Hp.ldI H76 .i64 H.length 0).bind λn77=>(Hp.ldI H76 .i64 H.length (0+1)).bind λn78=>(Hp.ldSl H76 H.length (0+2)).bind λs79=>some ((.agg [(.int .i64 n77),(.int .i64 n78),(.sl s79)]),H76)))) else ((bif (n21==3) then ((Hp.new r20.2 [(.int .i64 48),(.int .i64 49),(.int .i64 (-1))]).bind λH80=>(cY aa ac 3 H80).bind λr81=>((r81.1).asI .i64).bind λn82=>(Sl.idx (⟨some (r20.2.length,0),3,.ex 3⟩:Sl) n82 1).bind λp83=>(Hp.ldI r81.2 .i64 p83.1 p83.2).bind λn84=>(Hp.st r81.2 r8.2.length 0 (.int .i64 0)).bind λH85=>(Hp.st H85 r8.2.length (0+1) (.int .i64 n84)).bind λH86=>(Hp.st H86 r8.2.length (0+1+1) (.sl (⟨none,0,.ex 0⟩:Sl))).bind λH87=>(Hp.ldI H87 .i64 r8.2.length 0).bind λn88=>(Hp.ldI H87 .i64 r8.2.length (0+1)).bind λn89=>(Hp.ldSl H87 r8.2.length (0+2)).bind λs90=>(Hp.st H87 H.length 0 (.int .i64 n88)).bind λH91=>(Hp.st H91 H.length (0+1) (.int .i64 n89)).bind λH92=>(Hp.st H92 H.length (0+1+1) (.sl s90)).bind λH93=>(Hp.ldI H93 .i64 H.length 0).bind λn94=>(Hp.ldI H93 .i64 H.length (0+1)).bind λn95=>(Hp.ldSl H93 H.length (0+2)).bind λs96=>some ((.agg [(.int .i64 n94),(.int .i64 n95),(.sl s96)]),H93)) else ((Hp.ldI r20.2 .i64 r8.2.length 0).bind λn97=>(Hp.ldI r20.2 .i64 r8.2.length (0+1)).bind λn98=>(Hp.ldSl r20.2 r8.2.length (0+2)).bind λs99=>(Hp.st r20.2 H.length 0 (.int .i64 n97)).bind λH100=>(Hp.st H100 H.length (0+1) (.int .i64 n98)).bind λH101=>(Hp.st H101 H.length (0+1+1) (.sl s99)).bind λH102=>(Hp.ldI H102 .i64 H.length 0).bind λn103=>(Hp.ldI H102 .i64 H.length (0+1)).bind λn104=>(Hp.ldSl H102 H.length (0+2)).bind λs105=>some ((.agg [(.int .i64 n103),(.int .i64 n104),(.sl s105)]),H102)))))))))
def ft.tw:=ft.twX F (bo.tw F) (bI.tw F)
def ft.pn:Nat->List Nat:=el [(10,[5,9,999,1001,1003])]
def ft.tb:Nat->List (List Nat):=el [(10,[[],[0],[],[],[],[4],[3,4,5],[3,4,5,6],[0,1,2,3,4,5,6,7],[0,1,2,3,4,5,6,7,8]])]
def mk4 (g:Qq) (args:PZ) (H:Hp):OA:=match args with
 | [(.ptr aa ac)]=>g aa ac H
 | _=>none
theorem mk4_E (g:Qq) (aa:Nat) (ac:Nat) (H:Hp):mk4 g [(.ptr aa ac)] H=g aa ac H:=rfl
def ft.cs (F:Nat) (cY:PU) (kt:Qi):Cs:=[(58,mk1 cY),(59,mk3 kt)]
theorem ft.eqX (cY:PU) (kt:Qi) (aa:Nat) (ac:Nat) (H:Hp):EX (bU (ft.cs F cY kt)) ft.pn lh0 F Try.f60 [(.ptr aa ac)] H=ft.twX F cY kt aa ac H:=by kernel_rfl
theorem ft.k:Ok Try.prog 60 (mk4 (ft.tw F)):=by
 intro args H v H' h
 unfold mk4 at h
 split at h
 ·exact okT (TB:=ft.tb) Try.func60 (bB (bo.k F) (bB (bI.k F) dr)) af.no ((ft.eqX F (bo.tw F) (bI.tw F) _ _ H).trans h) (by kernel_rfl)
 ·cases h
def eO.twX (F:Nat) (ra:PY) (cY:PU) (rb:Qq) (kt:Qi) (aa:Sl) (H:Hp):OA:=(Hp.new H [.int .i64 0,.int .i64 0,.sl ⟨none,0,.ex 0⟩]).bind λH2=>(ra aa H2).bind λr3=>((r3.1).asP).bind λp4=>(cY p4.1 p4.2 8 r3.2).bind λr5=>((r5.1).asI .i64).bind λn6=>(bif (n6==0) then ((rb p4.1 p4.2 r5.2).bind λr7=>((r7.1).asAgg 3).bind λl8=>(l8[0]?).bind λv9=>((v9).asI .i64).bind λn10=>(l8[1]?).bind λv11=>((v11).asI .i64).bind λn12=>(l8[2]?).bind λv13=>((v13).asSl).bind λs14=>(Hp.st r7.2 H.length 0 (.int .i64 n10)).bind λH15=>(Hp.st H15 H.length (0+1) (.int .i64 n12)).bind λH16=>(Hp.st H16 H.length (0+1+1) (.sl s14)).bind λH17=>(Hp.ldI H17 .i64 H.length 0).bind λn18=>(Hp.ldI H17 .i64 H.length (0+1)).bind λn19=>(Hp.ldSl H17 H.length (0+2)).bind λs20=>some ((.agg [(.int .i64 n18),(.int .i64 n19),(.sl s20)]),H17)) else ((cY p4.1 p4.2 6 r5.2).bind λr21=>((r21.1).asI .i64).bind λn22=>(kt p4.1 p4.2 n22 n22 r21.2).bind λr23=>((r23.1).asAgg 3).bind λl24=>(l24[0]?).bind λv25=>((v25).asI .i64).bind λn26=>(l24[1]?).bind λv27=>((v27).asI .i64).bind λn28=>(l24[2]?).bind λv29=>((v29).asSl).bind λs30=>(Hp.new r23.2 [.int .i64 0,.int .i64 0,.sl ⟨none,0,.ex 0⟩]).bind λH31=>(Hp.st H31 r23.2.length 0 (.int .i64 n26)).bind λH32=>(Hp.st H32 r23.2.length (0+1) (.int .i64 n28)).bind λH33=>(Hp.st H33 r23.2.length (0+1+1) (.sl s30)).bind λH34=>(bif (decide (n22>0)) then ((cY p4.1 p4.2 10 H34).bind λr35=>((r35.1).asI .i64).bind λn36=>(bif (n36==0) then ((Hp.ldSl r35.2 r23.2.length 2).bind λs37=>(cY p4.1 p4.2 12 r35.2).bind λr38=>((r38.1).asI .i64).bind λn39=>(Sl.idx s37 0 1).bind λp40=>(Hp.st r38.2 p40.1 p40.2 (.int .i64 (wrap .i64 (100000000 * n39)))).bind λH41=>(ifW (((((Hp.ldSl r38.2 r23.2.length 2).bind λs42=>m_ (.sl s37) r38.2 (.sl s42) r38.2)=some ())/\(((Hp.ldSl r35.2 r23.2.length 2).bind λs43=>m_ (.sl s37) r35.2 (.sl s43) r35.2)=some ())/\True)/\True) ((Hp.ldI H41 .i64 r23.2.length 0).bind λn44=>(Hp.ldI H41 .i64 r23.2.length (0+1)).bind λn45=>(Hp.ldSl H41 r23.2.length (0+2)).bind λs46=>(Hp.st H41 H.length 0 (.int .i64 n44)).bind λH47=>(Hp.st H47 H.length (0+1) (.int .i64 n45)).bind λH48=>(Hp.st H48 H.length (0+1+1) (.sl s46)).bind λH49=>(Hp.ldI H49 .i64 H.length 0).bind λn50=>(Hp.ldI H49 .i64 H.length (0+1)).bind λn51=>(Hp.ldSl H49 H.length (0+2)).bind λs52=>some ((.agg [(.int .i64 n50),(.int .i64 n51),(.sl s52)]),H49)))) else ((Hp.ldI r35.2 .i64 r23.2.length 0).bind λn53=>(Hp.ldI r35.2 .i64 r23.2.length (0+1)).bind λn54=>(Hp.ldSl r35.2 r23.2.length (0+2)).bind λs55=>(Hp.st r35.2 H.length 0 (.int .i64 n53)).bind λH56=>(Hp.st H56 H.length (0+1) (.int .i64 n54)).bind λH57=>(Hp.st H57 H.length (0+1+1) (.sl s55)).bind λH58=>(Hp.ldI H58 .i64 H.length 0).bind λn59=>(Hp.ldI H58 .i64 H.length (0+1)).bind λn60=>(Hp.ldSl H58 H.length (0+2)).bind λs61=>some ((.agg [(.int .i64 n59),(.int .i64 n60),(.sl s61)]),H58)))) else ((Hp.ldI H34 .i64 r23.2.length 0).bind λn62=>(Hp.ldI H34 .i64 r23.2.length (0+1)).bind λn63=>(Hp.ldSl H34 r23.2.length (0+2)).bind λs64=>(Hp.st H34 H.length 0 (.int .i64 n62)).bind λH65=>(Hp.st H65 H.length (0+1) (.int .i64 n63)).bind λH66=>(Hp.st H66 H.length (0+1+1) (.sl s64)).bind λH67=>(Hp.ldI H67 .i64 H.length 0).bind λn68=>(Hp.ldI H67 .i64 H.length (0+1)).bind λn69=>(Hp.ldSl H67 H.length (0+2)).bind λs70=>some ((.agg [(.int .i64 n68),(.int .i64 n69),(.sl s70)]),H67)))))
def eO.tw:=eO.twX F (cI.tw F) (bo.tw F) (ft.tw F) (bI.tw F)
def eO.pn:Nat->List Nat:=el [(7,[3,6,999,1001])]
def eO.tb:Nat->List (List Nat):=el [(7,[[],[0],[],[2],[2,3],[0,1,2,3,4],[0,1,2,3,4,5]])]
def eO.cs (F:Nat) (ra:PY) (cY:PU) (rb:Qq) (kt:Qi):Cs:=[(57,mk0 ra),(58,mk1 cY),(60,mk4 rb),(59,mk3 kt)]
theorem eO.eqX (ra:PY) (cY:PU) (rb:Qq) (kt:Qi) (aa:Sl) (H:Hp):EX (bU (eO.cs F ra cY rb kt)) eO.pn lh0 F Try.f20 [(.sl aa)] H=eO.twX F ra cY rb kt aa H:=by kernel_rfl
theorem eO.k:Ok Try.prog 20 (mk0 (eO.tw F)):=by
 intro args H v H' h
 unfold mk0 at h
 split at h
 ·exact okT (TB:=eO.tb) Try.func20 (bB (cI.k F) (bB (bo.k F) (bB (ft.k F) (bB (bI.k F) dr)))) af.no ((eO.eqX F (cI.tw F) (bo.tw F) (ft.tw F) (bI.tw F) _ H).trans h) (by kernel_rfl)
 ·cases h
def fE.twX (F:Nat) (aa:Int) (aF:Int) (eS:Int) (H:Hp):OA:=(bif (decide (aF<=aa)) then (some ((.bool (decide (aa<=eS))),H)) else (some ((.bool false),H)))
def fE.tw:=fE.twX F
def mk5 (g:Qe) (args:PZ) (H:Hp):OA:=match args with
 | [(.int .i64 aa),(.int .i64 aF),(.int .i64 eS)]=>g aa aF eS H
 | _=>none
theorem mk5_E (g:Qe) (aa:Int) (aF:Int) (eS:Int) (H:Hp):mk5 g [(.int .i64 aa),(.int .i64 aF),(.int .i64 eS)] H=g aa aF eS H:=rfl
theorem fE.k:Ok Try.prog 125 (mk5 (fE.tw F)):=by
 intro args H v H' h
 unfold mk5 at h
 split at h
 ·exact ok0 Try.func125 (Eq.trans (by kernel_rfl) h) (by kernel_rfl) (by kernel_rfl)
 ·cases h
def ii.twX (F:Nat) (aa:Sl) (H:Hp):OA:=some ((.int .i64 (aa.n:Int)),H)
def ii.tw:=ii.twX F
theorem ii.k:Ok Try.prog 68 (mk0 (ii.tw F)):=by
 intro args H v H' h
 unfold mk0 at h
 split at h
 ·exact ok0 Try.func68 (Eq.trans (by kernel_rfl) h) (by kernel_rfl) (by kernel_rfl)
 ·cases h
def fS.twX (F:Nat) (ke:Qe) (aa:Int) (H:Hp):OA:=(ke aa (-1000000000000) 1000000000000 H).bind λr2=>((r2.1).asB).bind λb3=>some ((.bool (!b3)),r2.2)
def fS.tw:=fS.twX F (fE.tw F)
def mk6 (g:PX) (args:PZ) (H:Hp):OA:=match args with
 | [(.int .i64 aa)]=>g aa H
 | _=>none
theorem mk6_E (g:PX) (aa:Int) (H:Hp):mk6 g [(.int .i64 aa)] H=g aa H:=rfl
def fS.cs (F:Nat) (ke:Qe):Cs:=[(125,mk5 ke)]
theorem fS.eqX (ke:Qe) (aa:Int) (H:Hp):EX (bU (fS.cs F ke)) cj lh0 F Try.f127 [(.int .i64 aa)] H=fS.twX F ke aa H:=by kernel_rfl
theorem fS.k:Ok Try.prog 127 (mk6 (fS.tw F)):=by
 intro args H v H' h
 unfold mk6 at h
 split at h
 ·exact okT (TB:=cj) Try.func127 (bB (fE.k F) dr) af.no ((fS.eqX F (fE.tw F) _ H).trans h) (by kernel_rfl)
 ·cases h
def cH.l13 (F:Nat) (iH:PX) :Nat->Sl->Int->Int->Hp->OA
 | 0,_,_,_,_=>none
 | oE+1,nJ,gq,eZ,H6=>(bif (decide (eZ<gq)) then ((Sl.idx nJ eZ 1).bind λp11=>(Hp.ldI H6 .i64 p11.1 p11.2).bind λn12=>(iH n12 H6).bind λr13=>((r13.1).asB).bind λb14=>(bif b14 then (some ((.int .i64 eZ),r13.2)) else (cH.l13 F iH oE nJ gq (wrap .i64 (eZ+1)) r13.2))) else (some ((.int .i64 (-1)),H6)))
def cH.twX (iH:PX) (aa:Sl) (H:Hp):OA:=cH.l13 F iH F aa (aa.n:Int) 0 H
def cH.tw:=cH.twX F (fS.tw F)
def cH.lh13 (iH:PX) (ks:PW) (n:Nat) (tm:Tm) (H:Hp):OA:=match ks,tm 0,tm 1,tm 7,tm 8 with
 | [],(.sl nJ),(.fn 127 []),(.int .i64 gq),(.int .i64 eZ)=>cH.l13 F iH n nJ gq eZ H
 | _,_,_,_,_=>none
def cH.lh (iH:PX) (p:Nat) (ks:PW) (n:Nat) (tm:Tm) (H:Hp):OA:=bif p.beq 13 then cH.lh13 F iH ks n tm H else (none)
def mk7 (g:PY) (args:PZ) (H:Hp):OA:=match args with
 | [(.sl aa),(.fn 127 [])]=>g aa H
 | _=>none
theorem mk7_E (g:PY) (aa:Sl) (H:Hp):mk7 g [(.sl aa),(.fn 127 [])] H=g aa H:=rfl
def cH.cs (F:Nat) (iH:PX):Cs:=[(127,mk6 iH)]
theorem cH.loops (iH:PX):LO (bU (cH.cs F iH)) cj (cH.lh F iH) F Try.f122:=
 (af.rt (af.lt (af.rt (af.block (af.la (λn tm H r h=>by change cH.lh13 F iH [] n tm H=_ at h;unfold cH.lh13 at h;split at h;have e:dP tm [(0,_),(1,_),(7,_),(8,_)]:=⟨‹_›,‹_›,‹_›,‹_›,trivial⟩;obtain _ | k13:=n;cases h;exact ⟨_,rfl,by rw [<- dQ e];exact Eq.trans (by kernel_rfl) h⟩;cases h) λk13=>af.no)))))
theorem cH.eqX (iH:PX) (aa:Sl) (H:Hp):EX (bU (cH.cs F iH)) cj (cH.lh F iH) F Try.f122 [(.sl aa),(.fn 127 [])] H=cH.twX F iH aa H:=by kernel_rfl
theorem cH.k:Ok Try.prog 122 (mk7 (cH.tw F)):=by
 intro args H v H' h
 unfold mk7 at h
 split at h
 ·exact okT (TB:=cj) Try.func122 (bB (fS.k F) dr) (cH.loops F (fS.tw F)) ((cH.eqX F (fS.tw F) _ H).trans h) (by kernel_rfl)
 ·cases h
def f_.twX (F:Nat) (rc:PY) (aa:Sl) (H:Hp):OA:=(rc aa H).bind λr2=>((r2.1).asI .i64).bind λn3=>some ((.bool (decide (n3>=0))),r2.2)
def f_.tw:=f_.twX F (cH.tw F)
def f_.cs (F:Nat) (rc:PY):Cs:=[(122,mk7 rc)]
theorem f_.eqX (rc:PY) (aa:Sl) (H:Hp):EX (bU (f_.cs F rc)) cj lh0 F Try.f65 [(.sl aa),(.fn 127 [])] H=f_.twX F rc aa H:=by kernel_rfl
theorem f_.k:Ok Try.prog 65 (mk7 (f_.tw F)):=by
 intro args H v H' h
 unfold mk7 at h
 split at h
 ·exact okT (TB:=cj) Try.func65 (bB (cH.k F) dr) af.no ((f_.eqX F (cH.tw F) _ H).trans h) (by kernel_rfl)
 ·cases h
def cO.twX (F:Nat) (ke:Qe) (rh:PY) (ri:PY) (aa:Int) (ac:Int) (a_:Sl) (H:Hp):OA:=(Hp.new H [(.int .i64 aa),(.int .i64 ac),(.sl a_)]).bind λH4=>(Hp.ldI H4 .i64 H.length 0).bind λn5=>(ke n5 0 48 H4).bind λr6=>((r6.1).asB).bind λb7=>(bif b7 then ((Hp.ldI r6.2 .i64 H.length 1).bind λn8=>(ke n8 0 48 r6.2).bind λr9=>((r9.1).asB).bind λb10=>(bif b10 then ((Hp.ldSl r9.2 H.length 2).bind λs11=>(rh s11 r9.2).bind λr12=>((r12.1).asI .i64).bind λn13=>(if aP r9.2 r12.2 then ((Hp.ldI r12.2 .i64 H.length 0).bind λn14=>(Hp.ldI r12.2 .i64 H.length 1).bind λn15=>(bif (n13==(wrap .i64 (n14 * n15))) then ((Hp.ldSl r12.2 H.length 2).bind λs16=>(ri s16 r12.2).bind λr17=>((r17.1).asB).bind λb18=>some ((.bool (!b18)),r17.2)) else (some ((.bool false),r12.2)))) else none)) else (some ((.bool false),r9.2)))) else (some ((.bool false),r6.2)))
def cO.tw:=cO.twX F (fE.tw F) (ii.tw F) (f_.tw F)
def cO.pn:Nat->List Nat:=el [(1,[2,6,22])]
def cO.tb:Nat->List (List Nat):=el [(1,[[],[0],[0,1],[0,1,2],[0,1,2,3],[0,1,2,3,4],[0,1,2,3,4,5],[0,1,2,3,4,5,6],[0,1,2,3,4,5,6,7],[0,1,2,3,4,5,6,7,8],[0,1,2,3,4,5,6,7,8,9],[0,1,2,3,4,5,6,7,8,9,10],[0,1,2,3,4,5,6,7,8],[0,1,2,3,4,5,6,7,8,12],[0,1,2,3,4,5,6,7,8],[0,1,2,3,4,5,6,7,8,14],[0,1,2,3,4,5,6,7,8,12,13,14,15],[0,1,2,3,4,5,6,7,8,9,10,11,12,13,14,15,16],[0,1,2,3,4,5,6,7,8,9,10,11,12,13,14,15,16,17],[0,1,2,3,4,5,6,7,8,9,10,11,12,13,14,15,16,17,18],[0,1,2,3,4,5,6,7,8,9,10,11,12,13,14,15,16,17,18,19],[0,1,2,3,4,5,6,7,8,9,10,11,12,13,14,15,16,17,18,19,20],[0,1,2,3,4,5,6,7,8,9,10,11,12,13,14,15,16,17,18,19,20,21],[0,1,2,3,4,5,6,7,8,9,10,11,12,13,14,15,16,17,18,19,20,21,22],[0,1,2,3,4,5,6,7,8,9,10,11,12,13,14,15,16,17,18,19,20,21,22,23],[0,1,2,3,4,5,6,7,8,9,10,11,12,13,14,15,16,17,18,19,20,21,22,23,24]])]
def mk8 (g:PT) (args:PZ) (H:Hp):OA:=match args with
 | [(.agg [(.int .i64 aa),(.int .i64 ac),(.sl a_)])]=>g aa ac a_ H
 | _=>none
theorem mk8_E (g:PT) (aa:Int) (ac:Int) (a_:Sl) (H:Hp):mk8 g [(.agg [(.int .i64 aa),(.int .i64 ac),(.sl a_)])] H=g aa ac a_ H:=rfl
def cO.cs (F:Nat) (ke:Qe) (rh:PY) (ri:PY):Cs:=[(125,mk5 ke),(68,mk0 rh),(65,mk7 ri)]
theorem cO.eqX (ke:Qe) (rh:PY) (ri:PY) (aa:Int) (ac:Int) (a_:Sl) (H:Hp):EX (bU (cO.cs F ke rh ri)) cO.pn lh0 F Try.f76 [(.agg [(.int .i64 aa),(.int .i64 ac),(.sl a_)])] H=cO.twX F ke rh ri aa ac a_ H:=by kernel_rfl
theorem cO.k:Ok Try.prog 76 (mk8 (cO.tw F)):=by
 intro args H v H' h
 unfold mk8 at h
 split at h
 ·exact okT (TB:=cO.tb) Try.func76 (bB (fE.k F) (bB (ii.k F) (bB (f_.k F) dr))) af.no ((cO.eqX F (fE.tw F) (ii.tw F) (f_.tw F) _ _ _ H).trans h) (by kernel_rfl)
 ·cases h
def cM.twX (F:Nat) (aa:Int) (ac:Int) (a_:Sl) (az:Int) (H:Hp):OA:=(Hp.new H [(.int .i64 aa),(.int .i64 ac),(.sl a_)]).bind λH5=>(Hp.ldSl H5 H.length 2).bind λs6=>(Hp.ldI H5 .i64 H.length 1).bind λn7=>(Hp.ldI H5 .i64 H.length 1).bind λn8=>(Sl.cut s6 1 (wrap .i64 (az * n7)) (wrap .i64 ((wrap .i64 (az+1)) * n8))).bind λs9=>some ((.sl s9),H5)
def cM.tw:=cM.twX F
def mk9 (g:Qa) (args:PZ) (H:Hp):OA:=match args with
 | [(.agg [(.int .i64 aa),(.int .i64 ac),(.sl a_)]),(.int .i64 az)]=>g aa ac a_ az H
 | _=>none
theorem mk9_E (g:Qa) (aa:Int) (ac:Int) (a_:Sl) (az:Int) (H:Hp):mk9 g [(.agg [(.int .i64 aa),(.int .i64 ac),(.sl a_)]),(.int .i64 az)] H=g aa ac a_ az H:=rfl
theorem cM.k:Ok Try.prog 128 (mk9 (cM.tw F)):=by
 intro args H v H' h
 unfold mk9 at h
 split at h
 ·exact ok0 Try.func128 (Eq.trans (by kernel_rfl) h) (by kernel_rfl) (by kernel_rfl)
 ·cases h
def cv.twX (F:Nat) (aa:Int) (H:Hp):OA:=(bif (decide (aa<0)) then (some ((.int .i64 (wrap .i64 (0 - aa))),H)) else (some ((.int .i64 aa),H)))
def cv.tw:=cv.twX F
theorem cv.k:Ok Try.prog 97 (mk6 (cv.tw F)):=by
 intro args H v H' h
 unfold mk6 at h
 split at h
 ·exact ok0 Try.func97 (Eq.trans (by kernel_rfl) h) (by kernel_rfl) (by kernel_rfl)
 ·cases h
def bh.j3 (F:Nat) (bc:Qa) (bC:PX) (C29_:P_) (wd:Nat) (Iu:Nat) (rj:Int) (rk:Int) (rl:Int) (H139:Hp):OA:=C29_ wd Iu rj rk (wrap .i64 (rl+1)) H139
def bh.j4 (bc:Qa) (bC:PX) (C29_:P_) (wg:Nat) (Iv:Nat) (nl:Int) (fF:Int) (rn:Int) (rp:Int) (H121:Hp):OA:=(bif (decide ((wrap .i64 (nl * (if 1>(if 1000000001<fF then 1000000001 else fF) then 1 else (if 1000000001<fF then 1000000001 else fF))))>1000000000)) then (some ((.int .i64 (wrap .i64 (nl * (if 1>(if 1000000001<fF then 1000000001 else fF) then 1 else (if 1000000001<fF then 1000000001 else fF))))),H121)) else (bh.j3 F bc bC C29_ wg Iv (wrap .i64 (nl * (if 1>(if 1000000001<fF then 1000000001 else fF) then 1 else (if 1000000001<fF then 1000000001 else fF)))) rn rp H121))
def bh.l7533 (F:Nat) (bc:Qa) (bC:PX) (C29_:P_):Nat->Nat->Nat->Int->Int->Int->Int->Sl->Int->Int->Hp->OA
 | 0,_,_,_,_,_,_,_,_,_,_=>none
 | Iw+1,oF,wh,lE,lF,lG,lH,wi,lJ,ku,H100=>(bif (decide (ku<lJ)) then ((Sl.idx wi ku 1).bind λp140=>(Hp.ldI H100 .i64 p140.1 p140.2).bind λn141=>(bC n141 H100).bind λr142=>((r142.1).asI .i64).bind λn143=>bh.l7533 F bc bC C29_ Iw oF wh lE lF lG (wrap .i64 (lH+n143)) wi lJ (wrap .i64 (ku+1)) r142.2) else (bh.j4 F bc bC C29_ oF wh lE lH lF lG H100))
termination_by structural n=>n
def bh.l29 (F:Nat) (bc:Qa) (bC:PX) :Nat->Nat->Nat->Int->Int->Int->Hp->OA
 | 0,_,_,_,_,_,_=>none
 | eR+1,gr,fG,dE,lK,kw,H15=>(bif (decide (kw<lK)) then ((Hp.ldI H15 .i64 gr fG).bind λn80=>(Hp.ldI H15 .i64 gr (fG+1)).bind λn81=>(Hp.ldSl H15 gr (fG+2)).bind λs82=>(bc n80 n81 s82 kw H15).bind λr83=>((r83.1).asSl).bind λs84=>bh.l7533 F bc bC (bh.l29 F bc bC eR) F gr fG dE lK kw 0 s84 (s84.n:Int) 0 r83.2) else (some ((.int .i64 dE),H15)))
termination_by structural n=>n
def bh.twX (bc:Qa) (bC:PX) (aa:Int) (ac:Int) (a_:Sl) (H:Hp):OA:=(Hp.new H [(.int .i64 aa),(.int .i64 ac),(.sl a_)]).bind λH4=>(Hp.ldI H4 .i64 H.length 0).bind λn5=>bh.l29 F bc bC F H.length 0 1 n5 0 H4
def bh.tw:=bh.twX F (cM.tw F) (cv.tw F)
def bh.lh29 (bc:Qa) (bC:PX) (ks:PW) (n:Nat) (tm:Tm) (H:Hp):OA:=match ks,tm 1,tm 3,tm 9,tm 10 with
 | [],(.ptr gr fG),(.int .i64 dE),(.int .i64 lK),(.int .i64 kw)=>bh.l29 F bc bC n gr fG dE lK kw H
 | _,_,_,_,_=>none
def bh.lh7533 (bc:Qa) (bC:PX) (ks:PW) (n:Nat) (tm:Tm) (H:Hp):OA:=match ks,tm 1,tm 3,tm 5,tm 9,tm 10,tm 15,tm 16,tm 17 with
 | [eR],(.ptr oF wh),(.int .i64 lE),(.int .i64 lH),(.int .i64 lF),(.int .i64 lG),(.sl wi),(.int .i64 lJ),(.int .i64 ku)=>bh.l7533 F bc bC (bh.l29 F bc bC eR) n oF wh lE lF lG lH wi lJ ku H
 | _,_,_,_,_,_,_,_,_=>none
def bh.lh (bc:Qa) (bC:PX) (p:Nat) (ks:PW) (n:Nat) (tm:Tm) (H:Hp):OA:=bif p.beq 7533 then bh.lh7533 F bc bC ks n tm H else (bif p.beq 29 then bh.lh29 F bc bC ks n tm H else (none))
def bh.cs (F:Nat) (bc:Qa) (bC:PX):Cs:=[(128,mk9 bc),(97,mk6 bC)]
theorem bh.loops (bc:Qa) (bC:PX):LO (bU (bh.cs F bc bC)) cj (bh.lh F bc bC) F Try.f77:=
 (af.rt (af.rt (af.lt (af.rt (af.block (af.la (λn tm H r h=>by change bh.lh29 F bc bC [] n tm H=_ at h;unfold bh.lh29 at h;split at h;have e:dP tm [(1,_),(3,_),(9,_),(10,_)]:=⟨‹_›,‹_›,‹_›,‹_›,trivial⟩;obtain _ | k29:=n;cases h;exact ⟨_,rfl,by rw [<- dQ e];exact Eq.trans (by kernel_rfl) h⟩;cases h) λk29=>(af.rt (af.rt (af.lt (af.block (af.rt (af.rt (af.lt (af.rt (af.block (af.la (λn tm H r h=>by change bh.lh7533 F bc bC [k29] n tm H=_ at h;unfold bh.lh7533 at h;split at h;have e:dP tm [(1,_),(3,_),(5,_),(9,_),(10,_),(15,_),(16,_),(17,_)]:=⟨‹_›,‹_›,‹_›,‹_›,‹_›,‹_›,‹_›,‹_›,trivial⟩;cases (show [k29]=_ from ‹_›);obtain _ | k7533:=n;cases h;exact ⟨_,rfl,by rw [<- dQ e];exact Eq.trans (by kernel_rfl) h⟩;cases h) λk7533=>af.no))))))))))))))))
theorem bh.eqX (bc:Qa) (bC:PX) (aa:Int) (ac:Int) (a_:Sl) (H:Hp):EX (bU (bh.cs F bc bC)) cj (bh.lh F bc bC) F Try.f77 [(.agg [(.int .i64 aa),(.int .i64 ac),(.sl a_)])] H=bh.twX F bc bC aa ac a_ H:=by kernel_rfl
theorem bh.k:Ok Try.prog 77 (mk8 (bh.tw F)):=by
 intro args H v H' h
 unfold mk8 at h
 split at h
 ·exact okT (TB:=cj) Try.func77 (bB (cM.k F) (bB (cv.k F) dr)) (bh.loops F (cM.tw F) (cv.tw F)) ((bh.eqX F (cM.tw F) (cv.tw F) _ _ _ H).trans h) (by kernel_rfl)
 ·cases h
def ij.twX (F:Nat) (aa:Sl) (H:Hp):OA:=(bif (aa.a.isNone) then (some ((.sl (⟨none,0,.ex 0⟩:Sl)),H)) else ((Hp.new H []).bind λH2=>(Sl.row H2 aa 1).bind λxs4=>(Hp.app H2 1 8 (⟨some (H.length,0),0,.ex 0⟩:Sl) aa.n xs4).bind λa3=>some ((.sl a3.1),a3.2)))
def ij.tw:=ij.twX F
theorem ij.k:Ok Try.prog 129 (mk0 (ij.tw F)):=by
 intro args H v H' h
 unfold mk0 at h
 split at h
 ·exact ok0 Try.func129 (Eq.trans (by kernel_rfl) h) (by kernel_rfl) (by kernel_rfl)
 ·cases h
def e_.twX (F:Nat) (rq:PY) (aa:Int) (ac:Int) (a_:Sl) (H:Hp):OA:=(Hp.new H [(.int .i64 aa),(.int .i64 ac),(.sl a_)]).bind λH4=>(Hp.new H4 [.int .i64 0,.int .i64 0,.sl ⟨none,0,.ex 0⟩]).bind λH5=>(Hp.ldSl H5 H.length 2).bind λs6=>(rq s6 H5).bind λr7=>((r7.1).asSl).bind λs8=>(Hp.st r7.2 H.length 2 (.sl s8)).bind λH9=>(Hp.ldI H9 .i64 H.length 0).bind λn10=>(Hp.ldI H9 .i64 H.length (0+1)).bind λn11=>(Hp.ldSl H9 H.length (0+2)).bind λs12=>(Hp.st H9 H4.length 0 (.int .i64 n10)).bind λH13=>(Hp.st H13 H4.length (0+1) (.int .i64 n11)).bind λH14=>(Hp.st H14 H4.length (0+1+1) (.sl s12)).bind λH15=>(Hp.ldI H15 .i64 H4.length 0).bind λn16=>(Hp.ldI H15 .i64 H4.length (0+1)).bind λn17=>(Hp.ldSl H15 H4.length (0+2)).bind λs18=>some ((.agg [(.int .i64 n16),(.int .i64 n17),(.sl s18)]),H15)
def e_.tw:=e_.twX F (ij.tw F)
def e_.cs (F:Nat) (rq:PY):Cs:=[(129,mk0 rq)]
theorem e_.eqX (rq:PY) (aa:Int) (ac:Int) (a_:Sl) (H:Hp):EX (bU (e_.cs F rq)) cj lh0 F Try.f79 [(.agg [(.int .i64 aa),(.int .i64 ac),(.sl a_)])] H=e_.twX F rq aa ac a_ H:=by kernel_rfl
theorem e_.k:Ok Try.prog 79 (mk8 (e_.tw F)):=by
 intro args H v H' h
 unfold mk8 at h
 split at h
 ·exact okT (TB:=cj) Try.func79 (bB (ij.k F) dr) af.no ((e_.eqX F (ij.tw F) _ _ _ H).trans h) (by kernel_rfl)
 ·cases h
def aH.twX (F:Nat) (aa:Int) (ac:Int) (a_:Sl) (az:Int) (bR:Int) (H:Hp):OA:=(Hp.new H [(.int .i64 aa),(.int .i64 ac),(.sl a_)]).bind λH6=>(Hp.ldSl H6 H.length 2).bind λs7=>(Hp.ldI H6 .i64 H.length 1).bind λn8=>(Sl.idx s7 (wrap .i64 ((wrap .i64 (az * n8))+bR)) 1).bind λp9=>some ((.ptr p9.1 p9.2),H6)
def aH.tw:=aH.twX F
def mk10 (g:PQ) (args:PZ) (H:Hp):OA:=match args with
 | [(.agg [(.int .i64 aa),(.int .i64 ac),(.sl a_)]),(.int .i64 az),(.int .i64 bR)]=>g aa ac a_ az bR H
 | _=>none
theorem mk10_E (g:PQ) (aa:Int) (ac:Int) (a_:Sl) (az:Int) (bR:Int) (H:Hp):mk10 g [(.agg [(.int .i64 aa),(.int .i64 ac),(.sl a_)]),(.int .i64 az),(.int .i64 bR)] H=g aa ac a_ az bR H:=rfl
theorem aH.k:Ok Try.prog 75 (mk10 (aH.tw F)):=by
 intro args H v H' h
 unfold mk10 at h
 split at h
 ·exact ok0 Try.func75 (Eq.trans (by kernel_rfl) h) (by kernel_rfl) (by kernel_rfl)
 ·cases h
def ag.j11 (F:Nat) (ae:PQ) (rr:Int) (ru:Int) (H516:Hp):OA:=some ((.int .i64 (wrap .i64 (rr * ru))),H516)
def ag.j14 (F:Nat) (ae:PQ) (C29_:Qc) (wj:Nat) (Ix:Nat) (rv:Int) (rx:Int) (ry:Int) (rz:Int) (H832:Hp):OA:=C29_ wj Ix rv rx ry (wrap .i64 (rz+1)) H832
def ag.j15 (ae:PQ) (C29_:Qc) (pU:Nat) (wk:Nat) (rA:Int) (oG:Int) (rB:Int) (rC:Int) (H804:Hp):OA:=(Hp.ldI H804 .i64 pU wk).bind λn805=>(Hp.ldI H804 .i64 pU (wk+1)).bind λn806=>(Hp.ldSl H804 pU (wk+2)).bind λs807=>(ae n805 n806 s807 oG oG H804).bind λr808=>((r808.1).asP).bind λp809=>(Hp.ldI r808.2 .i64 p809.1 p809.2).bind λn810=>ag.j14 F ae C29_ pU wk rA n810 rB rC r808.2
def ag.j16 (F:Nat) (ae:PQ) (C60285_:Qr) (wl:Nat) (Iy:Nat) (rD:Int) (rE:Int) (rF:Int) (rG:Int) (rH:Int) (rI:Int) (H935:Hp):OA:=C60285_ wl Iy rD rE rH rI rF (wrap .i64 (rG+1)) H935
def ag.j17 (ae:PQ) (C60285_:Qr) (wo:Nat) (Iz:Nat) (rJ:Int) (rK:Int) (rL:Int) (rM:Int) (rN:Int) (rO:Int) (H911:Hp):OA:=ag.j16 F ae C60285_ wo Iz rJ rK rL rM rN rO H911
def ag.l964565 (F:Nat) (ae:PQ) (C29_:Qc) (C60285_:Qr):Nat->Nat->Nat->Int->Int->Int->Int->Int->Int->Int->Hp->OA
 | 0,_,_,_,_,_,_,_,_,_,_=>none
 | IA+1,gd,ik,lL,jy,lM,lN,iy,iS,iT,H856=>(Hp.ldI H856 .i64 gd (ik+1)).bind λn936=>(bif (decide (iT<n936)) then ((Hp.ldI H856 .i64 gd ik).bind λn937=>(Hp.ldI H856 .i64 gd (ik+1)).bind λn938=>(Hp.ldSl H856 gd (ik+2)).bind λs939=>(ae n937 n938 s939 iS iT H856).bind λr940=>((r940.1).asP).bind λp941=>(if aP H856 r940.2 then ((Hp.ldI r940.2 .i64 gd ik).bind λn942=>(Hp.ldI r940.2 .i64 gd (ik+1)).bind λn943=>(Hp.ldSl r940.2 gd (ik+2)).bind λs944=>(ae n942 n943 s944 iS iT r940.2).bind λr945=>((r945.1).asP).bind λp946=>(if aP r940.2 r945.2 then ((Hp.ldI r945.2 .i64 p946.1 p946.2).bind λn947=>(Hp.ldI r945.2 .i64 gd ik).bind λn948=>(Hp.ldI r945.2 .i64 gd (ik+1)).bind λn949=>(Hp.ldSl r945.2 gd (ik+2)).bind λs950=>(ae n948 n949 s950 iy iy r945.2).bind λr951=>((r951.1).asP).bind λp952=>(if aP r945.2 r951.2 then ((Hp.ldI r951.2 .i64 p952.1 p952.2).bind λn953=>(Hp.ldI r951.2 .i64 gd ik).bind λn954=>(Hp.ldI r951.2 .i64 gd (ik+1)).bind λn955=>(Hp.ldSl r951.2 gd (ik+2)).bind λs956=>(ae n954 n955 s956 iS iy r951.2).bind λr957=>((r957.1).asP).bind λp958=>(if aP r951.2 r957.2 then ((Hp.ldI r957.2 .i64 p958.1 p958.2).bind λn959=>(Hp.ldI r957.2 .i64 gd ik).bind λn960=>(Hp.ldI r957.2 .i64 gd (ik+1)).bind λn961=>(Hp.ldSl r957.2 gd (ik+2)).bind λs962=>(ae n960 n961 s962 iy iT r957.2).bind λr963=>((r963.1).asP).bind λp964=>(if aP r957.2 r963.2 then ((Hp.ldI r963.2 .i64 p964.1 p964.2).bind λn965=>(if jy=0 then none else ((Hp.st r963.2 p941.1 p941.2 (.int .i64 (wrap .i64 (Int.tdiv (wrap .i64 ((wrap .i64 (n947 * n953)) - (wrap .i64 (n959 * n965)))) jy)))).bind λH966=>ag.l964565 F ae C29_ C60285_ IA gd ik lL jy lM lN iy iS (wrap .i64 (iT+1)) H966))) else none)) else none)) else none)) else none)) else none)) else (ag.j17 F ae C60285_ gd ik lL jy iy iS lM lN H856))
termination_by structural n=>n
def ag.l60285 (F:Nat) (ae:PQ) (C29_:Qc):Nat->Nat->Nat->Int->Int->Int->Int->Int->Int->Hp->OA
 | 0,_,_,_,_,_,_,_,_,_=>none
 | zN+1,nK,uP,lO,nL,lP,lQ,kx,lR,H648=>(Hp.ldI H648 .i64 nK uP).bind λn833=>(bif (decide (lR<n833)) then (ag.l964565 F ae C29_ (ag.l60285 F ae C29_ zN) F nK uP lO nL lP lQ kx lR (wrap .i64 (kx+1)) H648) else (ag.j15 F ae C29_ nK uP lO kx lP lQ H648))
termination_by structural n=>n
def ag.j18 (ae:PQ) (C29_:Qc) (wq:Nat) (IB:Nat) (rP:Int) (rQ:Int) (oH:Int) (rR:Int) (rS:Int) (H627:Hp):OA:=ag.l60285 F ae C29_ F wq IB rP rQ rR rS oH (wrap .i64 (oH+1)) H627
def ag.j19 (ae:PQ) (C29_:Qc) (wr:Nat) (IC:Nat) (rT:Int) (rU:Int) (rV:Int) (rW:Int) (rX:Int) (H607:Hp):OA:=ag.j18 F ae C29_ wr IC rT rU rV rW rX H607
def ag.l241131 (F:Nat) (ae:PQ) (C29_:Qc):Nat->Nat->Nat->Int->Int->Int->Int->Int->Int->Int->Int->Hp->OA
 | 0,_,_,_,_,_,_,_,_,_,_,_=>none
 | ID+1,kf,nm,lT,lU,lV,lW,ky,lX,lY,jz,H573=>(bif (decide (jz<lY)) then ((Hp.ldI H573 .i64 kf nm).bind λn967=>(Hp.ldI H573 .i64 kf (nm+1)).bind λn968=>(Hp.ldSl H573 kf (nm+2)).bind λs969=>(ae n967 n968 s969 ky jz H573).bind λr970=>((r970.1).asP).bind λp971=>(if aP H573 r970.2 then ((Hp.ldI r970.2 .i64 kf nm).bind λn972=>(Hp.ldI r970.2 .i64 kf (nm+1)).bind λn973=>(Hp.ldSl r970.2 kf (nm+2)).bind λs974=>(ae n972 n973 s974 lX jz r970.2).bind λr975=>((r975.1).asP).bind λp976=>(Hp.ldI r975.2 .i64 p976.1 p976.2).bind λn977=>(Hp.ldI r975.2 .i64 p971.1 p971.2).bind λn978=>(Hp.st r975.2 p971.1 p971.2 (.int .i64 n977)).bind λH979=>(Hp.st H979 p976.1 p976.2 (.int .i64 n978)).bind λH980=>ag.l241131 F ae C29_ ID kf nm lT lU lV lW ky lX lY (wrap .i64 (jz+1)) H980) else none)) else (ag.j19 F ae C29_ kf nm lT lU ky lV lW H573))
termination_by structural n=>n
def ag.j20 (ae:PQ) (C29_:Qc) (wt:Nat) (IE:Nat) (rY:Int) (rZ:Int) (oI:Int) (r_:Int) (sb:Int) (H997:Hp):OA:=ag.l60285 F ae C29_ F wt IE rY rZ r_ sb oI (wrap .i64 (oI+1)) H997
def ag.j21 (ae:PQ) (C29_:Qc) (pV:Nat) (wu:Nat) (oJ:Int) (oK:Int) (nn:Int) (np:Int) (oM:Int) (oN:Int) (H552:Hp):OA:=(Hp.ldI H552 .i64 pV wu).bind λn553=>(bif (np==n553) then (some ((.int .i64 0),H552)) else ((bif (np != nn) then ((Hp.ldI H552 .i64 pV (wu+1)).bind λn554=>ag.l241131 F ae C29_ F pV wu (wrap .i64 (0 - oJ)) oK oM oN nn np n554 0 H552) else (ag.j20 F ae C29_ pV wu oJ oK nn oM oN H552))))
def ag.l3766 (F:Nat) (ae:PQ) (C29_:Qc):Nat->Nat->Nat->Int->Int->Int->Int->Int->Int->Hp->OA
 | 0,_,_,_,_,_,_,_,_,_=>none
 | IF+1,kz,nM,kA,kB,kC,kD,jA,iU,H530=>(Hp.ldI H530 .i64 kz nM).bind λn998=>(bif (decide (iU<n998)) then ((Hp.ldI H530 .i64 kz nM).bind λn999=>(Hp.ldI H530 .i64 kz (nM+1)).bind λn1000=>(Hp.ldSl H530 kz (nM+2)).bind λs1001=>(ae n999 n1000 s1001 iU jA H530).bind λr1002=>((r1002.1).asP).bind λp1003=>(Hp.ldI r1002.2 .i64 p1003.1 p1003.2).bind λn1004=>(bif (n1004==0) then (ag.l3766 F ae C29_ IF kz nM kA kB kC kD jA (wrap .i64 (iU+1)) r1002.2) else (ag.j21 F ae C29_ kz nM kA kB jA iU kC kD r1002.2))) else (ag.j21 F ae C29_ kz nM kA kB jA iU kC kD H530))
termination_by structural n=>n
def ag.l29 (F:Nat) (ae:PQ) :Nat->Nat->Nat->Int->Int->Int->Int->Hp->OA
 | 0,_,_,_,_,_,_,_=>none
 | eR+1,gr,fG,dE,lZ,l_,jB,H16=>(bif (decide (jB<l_)) then (ag.l3766 F ae (ag.l29 F ae eR) F gr fG dE lZ l_ jB jB jB H16) else (ag.j11 F ae dE lZ H16))
termination_by structural n=>n
def ag.twX (ae:PQ) (aa:Int) (ac:Int) (a_:Sl) (H:Hp):OA:=(Hp.new H [(.int .i64 aa),(.int .i64 ac),(.sl a_)]).bind λH4=>(Hp.ldI H4 .i64 H.length 0).bind λn5=>ag.l29 F ae F H.length 0 1 1 n5 0 H4
def ag.tw:=ag.twX F (aH.tw F)
def ag.lh29 (ae:PQ) (ks:PW) (n:Nat) (tm:Tm) (H:Hp):OA:=match ks,tm 1,tm 3,tm 4,tm 13,tm 14 with
 | [],(.ptr gr fG),(.int .i64 dE),(.int .i64 lZ),(.int .i64 l_),(.int .i64 jB)=>ag.l29 F ae n gr fG dE lZ l_ jB H
 | _,_,_,_,_,_=>none
def ag.lh3766 (ae:PQ) (ks:PW) (n:Nat) (tm:Tm) (H:Hp):OA:=match ks,tm 1,tm 3,tm 4,tm 5,tm 6,tm 13,tm 14 with
 | [eR],(.ptr kz nM),(.int .i64 kA),(.int .i64 kB),(.int .i64 jA),(.int .i64 iU),(.int .i64 kC),(.int .i64 kD)=>ag.l3766 F ae (ag.l29 F ae eR) n kz nM kA kB kC kD jA iU H
 | _,_,_,_,_,_,_,_=>none
def ag.lh241131 (ae:PQ) (ks:PW) (n:Nat) (tm:Tm) (H:Hp):OA:=match ks,tm 1,tm 3,tm 4,tm 5,tm 6,tm 13,tm 14,tm 43,tm 44 with
 | [eR],(.ptr kf nm),(.int .i64 lT),(.int .i64 lU),(.int .i64 ky),(.int .i64 lX),(.int .i64 lV),(.int .i64 lW),(.int .i64 lY),(.int .i64 jz)=>ag.l241131 F ae (ag.l29 F ae eR) n kf nm lT lU lV lW ky lX lY jz H
 | _,_,_,_,_,_,_,_,_,_=>none
def ag.lh60285 (ae:PQ) (ks:PW) (n:Nat) (tm:Tm) (H:Hp):OA:=match ks,tm 1,tm 3,tm 4,tm 5,tm 10,tm 13,tm 14 with
 | [eR],(.ptr nK uP),(.int .i64 lO),(.int .i64 nL),(.int .i64 kx),(.int .i64 lR),(.int .i64 lP),(.int .i64 lQ)=>ag.l60285 F ae (ag.l29 F ae eR) n nK uP lO nL lP lQ kx lR H
 | _,_,_,_,_,_,_,_=>none
def ag.lh964565 (ae:PQ) (ks:PW) (n:Nat) (tm:Tm) (H:Hp):OA:=match ks,tm 1,tm 3,tm 4,tm 5,tm 10,tm 11,tm 13,tm 14 with
 | [zN,eR],(.ptr gd ik),(.int .i64 lL),(.int .i64 jy),(.int .i64 iy),(.int .i64 iS),(.int .i64 iT),(.int .i64 lM),(.int .i64 lN)=>ag.l964565 F ae (ag.l29 F ae eR) (ag.l60285 F ae (ag.l29 F ae eR) zN) n gd ik lL jy lM lN iy iS iT H
 | _,_,_,_,_,_,_,_,_=>none
def ag.lh (ae:PQ) (p:Nat) (ks:PW) (n:Nat) (tm:Tm) (H:Hp):OA:=bif p.beq 964565 then ag.lh964565 F ae ks n tm H else (bif p.beq 60285 then ag.lh60285 F ae ks n tm H else (bif p.beq 241131 then ag.lh241131 F ae ks n tm H else (bif p.beq 3766 then ag.lh3766 F ae ks n tm H else (bif p.beq 29 then ag.lh29 F ae ks n tm H else (none)))))
def ag.pn:Nat->List Nat:=el [(15,[7]),(16,[9,11]),(24,[34])]
def ag.tb:Nat->List (List Nat):=el [(15,[[],[],[],[0,1,2],[],[],[],[0,1,2,3,4,5,6],[0,1,2,3,4,5,6,7],[0,1,2,3,4,5,6,7,8]]),(16,[[],[],[],[2],[2,3],[],[5],[5,6],[0,2,3,4,5,6,7],[0,2,3,4,5,6,7,8],[0,1,2,3,4,5,6,7,8,9],[0,1,2,3,4,5,6,7,8,9,10]]),(24,[[],[],[],[0,1,2],[],[],[],[0,1,2,3,4,5,6],[0,1,2,3,4,5,6,7],[0,1,2,3,4,5,6,7,8],[],[],[],[0,1,2,3,4,5,6,7,10,11,12],[0,1,2,3,4,5,6,7,10,11,12,13],[0,1,2,3,4,5,6,7,10,11,12,13,14],[0,1,2,3,4,5,6,7,8,9,10,11,12,13,14,15],[],[],[],[0,1,2,3,4,5,6,7,10,11,12,13,17,18,19],[0,1,2,3,4,5,6,7,10,11,12,13,17,18,19,20],[0,1,2,3,4,5,6,7,10,11,12,13,17,18,19,20,21],[],[],[],[0,1,2,3,4,5,6,7,10,11,12,13,17,18,19,20,23,24,25],[0,1,2,3,4,5,6,7,10,11,12,13,17,18,19,20,23,24,25,26],[0,1,2,3,4,5,6,7,10,11,12,13,17,18,19,20,23,24,25,26,27],[0,1,2,3,4,5,6,7,10,11,12,13,17,18,19,20,21,22,23,24,25,26,27,28],[0,1,2,3,4,5,6,7,8,9,10,11,12,13,14,15,16,17,18,19,20,21,22,23,24,25,26,27,28,29],[],[0,1,2,3,4,5,6,7,8,9,10,11,12,13,14,15,16,17,18,19,20,21,22,23,24,25,26,27,28,29,30,31],[0,1,2,3,4,5,6,7,8,9,10,11,12,13,14,15,16,17,18,19,20,21,22,23,24,25,26,27,28,29,30,31,32],[0,1,2,3,4,5,6,7,8,9,10,11,12,13,14,15,16,17,18,19,20,21,22,23,24,25,26,27,28,29,30,31,32,33]])]
def ag.cs (F:Nat) (ae:PQ):Cs:=[(75,mk10 ae)]
theorem ag.loops (ae:PQ):LO (bU (ag.cs F ae)) ag.pn (ag.lh F ae) F Try.f78:=
 (af.rt (af.rt (af.lt (af.rt (af.block (af.la (λn tm H r h=>by change ag.lh29 F ae [] n tm H=_ at h;unfold ag.lh29 at h;split at h;have e:dP tm [(1,_),(3,_),(4,_),(13,_),(14,_)]:=⟨‹_›,‹_›,‹_›,‹_›,‹_›,trivial⟩;obtain _ | k29:=n;cases h;exact ⟨_,rfl,by rw [<- dQ e];exact Eq.trans (by kernel_rfl) h⟩;cases h) λk29=>(af.rt (af.rt (af.lt (af.block (af.rt (af.rt (af.seq (af.block (af.la (λn tm H r h=>by change ag.lh3766 F ae [k29] n tm H=_ at h;unfold ag.lh3766 at h;split at h;have e:dP tm [(1,_),(3,_),(4,_),(5,_),(6,_),(13,_),(14,_)]:=⟨‹_›,‹_›,‹_›,‹_›,‹_›,‹_›,‹_›,trivial⟩;cases (show [k29]=_ from ‹_›);obtain _ | k3766:=n;cases h;exact ⟨_,rfl,by rw [<- dQ e];exact Eq.trans (by kernel_rfl) h⟩;cases h) λk3766=>af.no)) (af.rt (af.seq (af.rt (af.cond (af.rt (af.rt (af.block (af.la (λn tm H r h=>by change ag.lh241131 F ae [k29] n tm H=_ at h;unfold ag.lh241131 at h;split at h;have e:dP tm [(1,_),(3,_),(4,_),(5,_),(6,_),(13,_),(14,_),(43,_),(44,_)]:=⟨‹_›,‹_›,‹_›,‹_›,‹_›,‹_›,‹_›,‹_›,‹_›,trivial⟩;cases (show [k29]=_ from ‹_›);obtain _ | k241131:=n;cases h;exact ⟨_,rfl,by rw [<- dQ e];exact Eq.trans (by kernel_rfl) h⟩;cases h) λk241131=>af.no)))) af.no)) (af.lt (af.rt (af.block (af.la (λn tm H r h=>by change ag.lh60285 F ae [k29] n tm H=_ at h;unfold ag.lh60285 at h;split at h;have e:dP tm [(1,_),(3,_),(4,_),(5,_),(10,_),(13,_),(14,_)]:=⟨‹_›,‹_›,‹_›,‹_›,‹_›,‹_›,‹_›,trivial⟩;cases (show [k29]=_ from ‹_›);obtain _ | k60285:=n;cases h;exact ⟨_,rfl,by rw [<- dQ e];exact Eq.trans (by kernel_rfl) h⟩;cases h) λk60285=>(af.rt (af.lt (af.block (af.rt (af.block (af.la (λn tm H r h=>by change ag.lh964565 F ae [k60285,k29] n tm H=_ at h;unfold ag.lh964565 at h;split at h;have e:dP tm [(1,_),(3,_),(4,_),(5,_),(10,_),(11,_),(13,_),(14,_)]:=⟨‹_›,‹_›,‹_›,‹_›,‹_›,‹_›,‹_›,‹_›,trivial⟩;cases (show [k60285,k29]=_ from ‹_›);obtain _ | k964565:=n;cases h;exact ⟨_,rfl,by rw [<- dQ e];exact Eq.trans (by kernel_rfl) h⟩;cases h) λk964565=>af.no)))))))))))))))))))))))))
theorem ag.eqX (ae:PQ) (aa:Int) (ac:Int) (a_:Sl) (H:Hp):EX (bU (ag.cs F ae)) ag.pn (ag.lh F ae) F Try.f78 [(.agg [(.int .i64 aa),(.int .i64 ac),(.sl a_)])] H=ag.twX F ae aa ac a_ H:=by kernel_rfl
theorem ag.k:Ok Try.prog 78 (mk8 (ag.tw F)):=by
 intro args H v H' h
 unfold mk8 at h
 split at h
 ·exact okT (TB:=ag.tb) Try.func78 (bB (aH.k F) dr) (ag.loops F (aH.tw F)) ((ag.eqX F (aH.tw F) _ _ _ H).trans h) (by kernel_rfl)
 ·cases h
def dX.twX (F:Nat) (du:PT) (se:PT) (kE:PT) (sf:PT) (aa:Int) (ac:Int) (a_:Sl) (H:Hp):OA:=(Hp.new H [(.int .i64 aa),(.int .i64 ac),(.sl a_)]).bind λH4=>(Hp.ldI H4 .i64 H.length 0).bind λn5=>(Hp.ldI H4 .i64 H.length (0+1)).bind λn6=>(Hp.ldSl H4 H.length (0+2)).bind λs7=>(du n5 n6 s7 H4).bind λr8=>((r8.1).asB).bind λb9=>(bif (!b9) then (some ((.tup [(.int .i64 0),(.int .i64 1)]),r8.2)) else ((Hp.ldI r8.2 .i64 H.length 0).bind λn10=>(Hp.ldI r8.2 .i64 H.length 1).bind λn11=>(bif (n10 != n11) then (some ((.tup [(.int .i64 0),(.int .i64 2)]),r8.2)) else ((Hp.ldI r8.2 .i64 H.length 0).bind λn12=>(Hp.ldI r8.2 .i64 H.length (0+1)).bind λn13=>(Hp.ldSl r8.2 H.length (0+2)).bind λs14=>(se n12 n13 s14 r8.2).bind λr15=>((r15.1).asI .i64).bind λn16=>(bif (decide (n16>1000000000)) then (some ((.tup [(.int .i64 0),(.int .i64 3)]),r15.2)) else ((Hp.ldI r15.2 .i64 H.length 0).bind λn17=>(Hp.ldI r15.2 .i64 H.length (0+1)).bind λn18=>(Hp.ldSl r15.2 H.length (0+2)).bind λs19=>(kE n17 n18 s19 r15.2).bind λr20=>((r20.1).asAgg 3).bind λl21=>(l21[0]?).bind λv22=>((v22).asI .i64).bind λn23=>(l21[1]?).bind λv24=>((v24).asI .i64).bind λn25=>(l21[2]?).bind λv26=>((v26).asSl).bind λs27=>(sf n23 n25 s27 r20.2).bind λr28=>((r28.1).asI .i64).bind λn29=>some ((.tup [(.int .i64 n29),(.int .i64 0)]),r28.2)))))))
def dX.tw:=dX.twX F (cO.tw F) (bh.tw F) (e_.tw F) (ag.tw F)
def dX.cs (F:Nat) (du:PT) (se:PT) (kE:PT) (sf:PT):Cs:=[(76,mk8 du),(77,mk8 se),(79,mk8 kE),(78,mk8 sf)]
theorem dX.eqX (du:PT) (se:PT) (kE:PT) (sf:PT) (aa:Int) (ac:Int) (a_:Sl) (H:Hp):EX (bU (dX.cs F du se kE sf)) cj lh0 F Try.f21 [(.agg [(.int .i64 aa),(.int .i64 ac),(.sl a_)])] H=dX.twX F du se kE sf aa ac a_ H:=by kernel_rfl
theorem dX.k:Ok Try.prog 21 (mk8 (dX.tw F)):=by
 intro args H v H' h
 unfold mk8 at h
 split at h
 ·exact okT (TB:=cj) Try.func21 (bB (cO.k F) (bB (bh.k F) (bB (e_.k F) (bB (ag.k F) dr)))) af.no ((dX.eqX F (cO.tw F) (bh.tw F) (e_.tw F) (ag.tw F) _ _ _ H).trans h) (by kernel_rfl)
 ·cases h
def fT.twX (F:Nat) (aa:Int) (aF:Int) (eS:Int) (H:Hp):OA:=(bif (decide (aa>=aF)) then (some ((.bool (decide (aa<=eS))),H)) else (some ((.bool false),H)))
def fT.tw:=fT.twX F
theorem fT.k:Ok Try.prog 70 (mk5 (fT.tw F)):=by
 intro args H v H' h
 unfold mk5 at h
 split at h
 ·exact ok0 Try.func70 (Eq.trans (by kernel_rfl) h) (by kernel_rfl) (by kernel_rfl)
 ·cases h
def cw.l29 (F:Nat) (il:Qe) :Nat->Nat->Nat->Int->Hp->OA
 | 0,_,_,_,_=>none
 | eR+1,nN,uQ,kF,H22=>(Hp.ldSl H22 nN (uQ+2)).bind λs29=>(bif (decide (kF<(s29.n:Int))) then ((Hp.ldSl H22 nN (uQ+2)).bind λs30=>(Sl.idx s30 kF 1).bind λp31=>(Hp.ldI H22 .i64 p31.1 p31.2).bind λn32=>(il n32 (-1000000000000) 1000000000000 H22).bind λr33=>((r33.1).asB).bind λb34=>(bif (!b34) then (some ((.bool false),r33.2)) else (cw.l29 F il eR nN uQ (wrap .i64 (kF+1)) r33.2))) else (some ((.bool true),H22)))
termination_by structural n=>n
def cw.twX (il:Qe) (aa:Int) (ac:Int) (a_:Sl) (H:Hp):OA:=(Hp.new H [(.int .i64 aa),(.int .i64 ac),(.sl a_)]).bind λH4=>(Hp.ldI H4 .i64 H.length 0).bind λn5=>(il n5 0 48 H4).bind λr6=>((r6.1).asB).bind λb7=>(bif (!b7) then (some ((.bool false),r6.2)) else ((Hp.ldI r6.2 .i64 H.length 1).bind λn8=>(il n8 0 48 r6.2).bind λr9=>((r9.1).asB).bind λb10=>(bif (!b10) then (some ((.bool false),r9.2)) else ((Hp.ldSl r9.2 H.length 2).bind λs11=>(Hp.ldI r9.2 .i64 H.length 0).bind λn12=>(Hp.ldI r9.2 .i64 H.length 1).bind λn13=>(bif ((s11.n:Int) != (wrap .i64 (n12 * n13))) then (some ((.bool false),r9.2)) else (cw.l29 F il F H.length 0 0 r9.2))))))
def cw.tw:=cw.twX F (fT.tw F)
def cw.lh29 (il:Qe) (ks:PW) (n:Nat) (tm:Tm) (H:Hp):OA:=match ks,tm 1,tm 3 with
 | [],(.ptr nN uQ),(.int .i64 kF)=>cw.l29 F il n nN uQ kF H
 | _,_,_=>none
def cw.lh (il:Qe) (p:Nat) (ks:PW) (n:Nat) (tm:Tm) (H:Hp):OA:=bif p.beq 29 then cw.lh29 F il ks n tm H else (none)
def cw.cs (F:Nat) (il:Qe):Cs:=[(70,mk5 il)]
theorem cw.loops (il:Qe):LO (bU (cw.cs F il)) cj (cw.lh F il) F Try.f29:=
 (af.rt (af.rt (af.lt (af.rt (af.block (af.la (λn tm H r h=>by change cw.lh29 F il [] n tm H=_ at h;unfold cw.lh29 at h;split at h;have e:dP tm [(1,_),(3,_)]:=⟨‹_›,‹_›,trivial⟩;obtain _ | k29:=n;cases h;exact ⟨_,rfl,by rw [<- dQ e];exact Eq.trans (by kernel_rfl) h⟩;cases h) λk29=>af.no))))))
theorem cw.eqX (il:Qe) (aa:Int) (ac:Int) (a_:Sl) (H:Hp):EX (bU (cw.cs F il)) cj (cw.lh F il) F Try.f29 [(.agg [(.int .i64 aa),(.int .i64 ac),(.sl a_)])] H=cw.twX F il aa ac a_ H:=by kernel_rfl
theorem cw.k:Ok Try.prog 29 (mk8 (cw.tw F)):=by
 intro args H v H' h
 unfold mk8 at h
 split at h
 ·exact okT (TB:=cj) Try.func29 (bB (fT.k F) dr) (cw.loops F (fT.tw F)) ((cw.eqX F (fT.tw F) _ _ _ H).trans h) (by kernel_rfl)
 ·cases h
def bJ.twX (F:Nat) (aa:Int) (ac:Int) (a_:Sl) (az:Int) (bR:Int) (H:Hp):OA:=(Hp.new H [(.int .i64 aa),(.int .i64 ac),(.sl a_)]).bind λH6=>(Hp.ldSl H6 H.length 2).bind λs7=>(Hp.ldI H6 .i64 H.length 1).bind λn8=>(Sl.idx s7 (wrap .i64 ((wrap .i64 (az * n8))+bR)) 1).bind λp9=>(Hp.ldI H6 .i64 p9.1 p9.2).bind λn10=>some ((.int .i64 n10),H6)
def bJ.tw:=bJ.twX F
theorem bJ.k:Ok Try.prog 62 (mk10 (bJ.tw F)):=by
 intro args H v H' h
 unfold mk10 at h
 split at h
 ·exact ok0 Try.func62 (Eq.trans (by kernel_rfl) h) (by kernel_rfl) (by kernel_rfl)
 ·cases h
def eT.twX (F:Nat) (aa:Int) (H:Hp):OA:=some ((.int .i64 (if (wrap .i64 (0 - aa))>aa then (wrap .i64 (0 - aa)) else aa)),H)
def eT.tw:=eT.twX F
theorem eT.k:Ok Try.prog 130 (mk6 (eT.tw F)):=by
 intro args H v H' h
 unfold mk6 at h
 split at h
 ·exact ok0 Try.func130 (Eq.trans (by kernel_rfl) h) (by kernel_rfl) (by kernel_rfl)
 ·cases h
def bi.j3 (F:Nat) (aX:PQ) (fi:PX) (C29_:Qi) (wv:Nat) (IG:Nat) (si:Int) (sj:Int) (H115:Hp):OA:=C29_ wv IG si (wrap .i64 (sj+1)) H115
def bi.j4 (aX:PQ) (fi:PX) (C29_:Qi) (ww:Nat) (IH:Nat) (sk:Int) (sm:Int) (lc:Int) (H102:Hp):OA:=(if (if lc>1 then lc else 1)=0 then none else (bi.j3 F aX fi C29_ ww IH (wrap .i64 (Int.tdiv sk (if lc>1 then lc else 1))) sm H102))
def bi.l1877 (F:Nat) (aX:PQ) (fi:PX) (C29_:Qi):Nat->Nat->Nat->Int->Int->Int->Int->Hp->OA
 | 0,_,_,_,_,_,_,_=>none
 | II+1,lf,oO,ma,kG,mb,kH,H81=>(Hp.ldI H81 .i64 lf (oO+1)).bind λn116=>(bif (decide (kH<n116)) then ((Hp.ldI H81 .i64 lf oO).bind λn117=>(Hp.ldI H81 .i64 lf (oO+1)).bind λn118=>(Hp.ldSl H81 lf (oO+2)).bind λs119=>(aX n117 n118 s119 kG kH H81).bind λr120=>((r120.1).asI .i64).bind λn121=>(fi n121 r120.2).bind λr122=>((r122.1).asI .i64).bind λn123=>bi.l1877 F aX fi C29_ II lf oO ma kG (wrap .i64 (mb+n123)) (wrap .i64 (kH+1)) r122.2) else (bi.j4 F aX fi C29_ lf oO ma kG mb H81))
termination_by structural n=>n
def bi.l29 (F:Nat) (aX:PQ) (fi:PX) :Nat->Nat->Nat->Int->Int->Hp->OA
 | 0,_,_,_,_,_=>none
 | eR+1,jn,gr,mc,md,H13=>(Hp.ldI H13 .i64 jn gr).bind λn69=>(bif (decide (md<n69)) then (bi.l1877 F aX fi (bi.l29 F aX fi eR) F jn gr mc md 0 0 H13) else (some ((.bool (decide (mc>0))),H13)))
termination_by structural n=>n
def bi.twX (aX:PQ) (fi:PX) (aa:Int) (ac:Int) (a_:Sl) (H:Hp):OA:=(Hp.new H [(.int .i64 aa),(.int .i64 ac),(.sl a_)]).bind λH4=>bi.l29 F aX fi F H.length 0 1000000000 0 H4
def bi.tw:=bi.twX F (bJ.tw F) (eT.tw F)
def bi.lh29 (aX:PQ) (fi:PX) (ks:PW) (n:Nat) (tm:Tm) (H:Hp):OA:=match ks,tm 1,tm 3,tm 4 with
 | [],(.ptr jn gr),(.int .i64 mc),(.int .i64 md)=>bi.l29 F aX fi n jn gr mc md H
 | _,_,_,_=>none
def bi.lh1877 (aX:PQ) (fi:PX) (ks:PW) (n:Nat) (tm:Tm) (H:Hp):OA:=match ks,tm 1,tm 3,tm 4,tm 5,tm 6 with
 | [eR],(.ptr lf oO),(.int .i64 ma),(.int .i64 kG),(.int .i64 mb),(.int .i64 kH)=>bi.l1877 F aX fi (bi.l29 F aX fi eR) n lf oO ma kG mb kH H
 | _,_,_,_,_,_=>none
def bi.lh (aX:PQ) (fi:PX) (p:Nat) (ks:PW) (n:Nat) (tm:Tm) (H:Hp):OA:=bif p.beq 1877 then bi.lh1877 F aX fi ks n tm H else (bif p.beq 29 then bi.lh29 F aX fi ks n tm H else (none))
def bi.cs (F:Nat) (aX:PQ) (fi:PX):Cs:=[(62,mk10 aX),(130,mk6 fi)]
theorem bi.loops (aX:PQ) (fi:PX):LO (bU (bi.cs F aX fi)) cj (bi.lh F aX fi) F Try.f80:=
 (af.rt (af.rt (af.lt (af.rt (af.block (af.la (λn tm H r h=>by change bi.lh29 F aX fi [] n tm H=_ at h;unfold bi.lh29 at h;split at h;have e:dP tm [(1,_),(3,_),(4,_)]:=⟨‹_›,‹_›,‹_›,trivial⟩;obtain _ | k29:=n;cases h;exact ⟨_,rfl,by rw [<- dQ e];exact Eq.trans (by kernel_rfl) h⟩;cases h) λk29=>(af.rt (af.lt (af.block (af.rt (af.lt (af.rt (af.block (af.la (λn tm H r h=>by change bi.lh1877 F aX fi [k29] n tm H=_ at h;unfold bi.lh1877 at h;split at h;have e:dP tm [(1,_),(3,_),(4,_),(5,_),(6,_)]:=⟨‹_›,‹_›,‹_›,‹_›,‹_›,trivial⟩;cases (show [k29]=_ from ‹_›);obtain _ | k1877:=n;cases h;exact ⟨_,rfl,by rw [<- dQ e];exact Eq.trans (by kernel_rfl) h⟩;cases h) λk1877=>af.no))))))))))))))
theorem bi.eqX (aX:PQ) (fi:PX) (aa:Int) (ac:Int) (a_:Sl) (H:Hp):EX (bU (bi.cs F aX fi)) cj (bi.lh F aX fi) F Try.f80 [(.agg [(.int .i64 aa),(.int .i64 ac),(.sl a_)])] H=bi.twX F aX fi aa ac a_ H:=by kernel_rfl
theorem bi.k:Ok Try.prog 80 (mk8 (bi.tw F)):=by
 intro args H v H' h
 unfold mk8 at h
 split at h
 ·exact okT (TB:=cj) Try.func80 (bB (bJ.k F) (bB (eT.k F) dr)) (bi.loops F (bJ.tw F) (eT.tw F)) ((bi.eqX F (bJ.tw F) (eT.tw F) _ _ _ H).trans h) (by kernel_rfl)
 ·cases h
def bT.l7 (F:Nat) (aX:PQ) :Nat->Int->Int->Nat->Nat->Int->Hp->OA
 | 0,_,_,_,_,_,_=>none
 | nO+1,fG,iV,dE,dF,fU,H15=>(Hp.ldI H15 .i64 dE (dF+1)).bind λn35=>(bif (decide (fU<n35)) then ((Hp.ldI H15 .i64 dE dF).bind λn36=>(Hp.ldI H15 .i64 dE (dF+1)).bind λn37=>(Hp.ldSl H15 dE (dF+2)).bind λs38=>(aX n36 n37 s38 fG fU H15).bind λr39=>((r39.1).asI .i64).bind λn40=>(Hp.ldSl r39.2 dE (dF+2)).bind λs41=>(Hp.ldI r39.2 .i64 dE (dF+1)).bind λn42=>(Hp.ldI r39.2 .i64 dE dF).bind λn43=>(Hp.ldI r39.2 .i64 dE (dF+1)).bind λn44=>(Hp.ldSl r39.2 dE (dF+2)).bind λs45=>(aX n43 n44 s45 iV fU r39.2).bind λr46=>((r46.1).asI .i64).bind λn47=>(if aP r39.2 r46.2 then ((Sl.idx s41 (wrap .i64 ((wrap .i64 (fG * n42))+fU)) 1).bind λp48=>(Hp.st r46.2 p48.1 p48.2 (.int .i64 n47)).bind λH49=>(Hp.ldSl H49 dE (dF+2)).bind λs50=>(Hp.ldI H49 .i64 dE (dF+1)).bind λn51=>(Sl.idx s50 (wrap .i64 ((wrap .i64 (iV * n51))+fU)) 1).bind λp52=>(Hp.st H49 p52.1 p52.2 (.int .i64 n40)).bind λH53=>bT.l7 F aX nO fG iV dE dF (wrap .i64 (fU+1)) H53) else none)) else (some ((.tup []),H15)))
termination_by structural n=>n
def bT.twX (aX:PQ) (aa:Int) (ac:Int) (a_:Sl) (az:Int) (bR:Int) (H:Hp):OA:=(Hp.new H [(.int .i64 aa),(.int .i64 ac),(.sl a_)]).bind λH6=>bT.l7 F aX F az bR H.length 0 0 H6
def bT.tw:=bT.twX F (bJ.tw F)
def bT.lh7 (aX:PQ) (ks:PW) (n:Nat) (tm:Tm) (H:Hp):OA:=match ks,tm 1,tm 2,tm 3,tm 6 with
 | [],(.int .i64 fG),(.int .i64 iV),(.ptr dE dF),(.int .i64 fU)=>bT.l7 F aX n fG iV dE dF fU H
 | _,_,_,_,_=>none
def bT.lh (aX:PQ) (p:Nat) (ks:PW) (n:Nat) (tm:Tm) (H:Hp):OA:=bif p.beq 7 then bT.lh7 F aX ks n tm H else (none)
def bT.pn:Nat->List Nat:=el [(5,[13])]
def bT.tb:Nat->List (List Nat):=el [(5,[[],[0],[],[],[3],[2,3,4],[],[2,3,4,5,6],[],[],[],[8,9,10],[0,1,2,3,4,5,6,7,8,9,10,11],[0,1,2,3,4,5,6,7,8,9,10,11,12]])]
def bT.cs (F:Nat) (aX:PQ):Cs:=[(62,mk10 aX)]
theorem bT.loops (aX:PQ):LO (bU (bT.cs F aX)) bT.pn (bT.lh F aX) F Try.f131:=
 (af.rt (af.rt (af.block (af.la (λn tm H r h=>by change bT.lh7 F aX [] n tm H=_ at h;unfold bT.lh7 at h;split at h;have e:dP tm [(1,_),(2,_),(3,_),(6,_)]:=⟨‹_›,‹_›,‹_›,‹_›,trivial⟩;obtain _ | k7:=n;cases h;exact ⟨_,rfl,by rw [<- dQ e];exact Eq.trans (by kernel_rfl) h⟩;cases h) λk7=>af.no))))
theorem bT.eqX (aX:PQ) (aa:Int) (ac:Int) (a_:Sl) (az:Int) (bR:Int) (H:Hp):EX (bU (bT.cs F aX)) bT.pn (bT.lh F aX) F Try.f131 [(.agg [(.int .i64 aa),(.int .i64 ac),(.sl a_)]),(.int .i64 az),(.int .i64 bR)] H=bT.twX F aX aa ac a_ az bR H:=by kernel_rfl
theorem bT.k:Ok Try.prog 131 (mk10 (bT.tw F)):=by
 intro args H v H' h
 unfold mk10 at h
 split at h
 ·exact okT (TB:=bT.tb) Try.func131 (bB (bJ.k F) dr) (bT.loops F (bJ.tw F)) ((bT.eqX F (bJ.tw F) _ _ _ _ _ H).trans h) (by kernel_rfl)
 ·cases h
def aj.j9 (F:Nat) (aX:PQ) (cu:PQ) (sp:Int) (su:Int) (H389:Hp):OA:=some ((.int .i64 (wrap .i64 (sp * su))),H389)
def aj.j12 (F:Nat) (aX:PQ) (cu:PQ) (C125_:Qj) (sx:Int) (wx:Nat) (IJ:Nat) (sy:Int) (sA:Int) (sB:Int) (H622:Hp):OA:=C125_ sx wx IJ sy sA (wrap .i64 (sB+1)) H622
def aj.j13 (aX:PQ) (cu:PQ) (C125_:Qj) (sC:Int) (pW:Nat) (wy:Nat) (sD:Int) (nq:Int) (H597:Hp):OA:=(Hp.ldI H597 .i64 pW wy).bind λn598=>(Hp.ldI H597 .i64 pW (wy+1)).bind λn599=>(Hp.ldSl H597 pW (wy+2)).bind λs600=>(aX n598 n599 s600 nq nq H597).bind λr601=>((r601.1).asI .i64).bind λn602=>aj.j12 F aX cu C125_ sC pW wy sD n602 nq r601.2
def aj.j14 (F:Nat) (aX:PQ) (cu:PQ) (C64189_:Qs) (sE:Int) (wz:Nat) (IK:Nat) (sF:Int) (sG:Int) (sH:Int) (sI:Int) (H710:Hp):OA:=C64189_ sE wz IK sF sG sH (wrap .i64 (sI+1)) H710
def aj.j15 (aX:PQ) (cu:PQ) (C64189_:Qs) (sJ:Int) (wA:Nat) (IL:Nat) (sK:Int) (sL:Int) (sM:Int) (sN:Int) (H688:Hp):OA:=aj.j14 F aX cu C64189_ sJ wA IL sK sL sM sN H688
def aj.l1027029 (F:Nat) (aX:PQ) (cu:PQ) (C125_:Qj) (C64189_:Qs):Nat->Int->Nat->Nat->Int->Int->Int->Int->Int->Hp->OA
 | 0,_,_,_,_,_,_,_,_,_=>none
 | IM+1,jC,hK,iW,mf,jD,iz,iX,iY,H643=>(bif (decide (iY<jC)) then ((Hp.ldSl H643 hK (iW+2)).bind λs711=>(Hp.ldI H643 .i64 hK iW).bind λn712=>(Hp.ldI H643 .i64 hK (iW+1)).bind λn713=>(Hp.ldSl H643 hK (iW+2)).bind λs714=>(aX n712 n713 s714 iX iY H643).bind λr715=>((r715.1).asI .i64).bind λn716=>(if aP H643 r715.2 then ((Hp.ldI r715.2 .i64 hK iW).bind λn717=>(Hp.ldI r715.2 .i64 hK (iW+1)).bind λn718=>(Hp.ldSl r715.2 hK (iW+2)).bind λs719=>(aX n717 n718 s719 iz iz r715.2).bind λr720=>((r720.1).asI .i64).bind λn721=>(if aP r715.2 r720.2 then ((Hp.ldI r720.2 .i64 hK iW).bind λn722=>(Hp.ldI r720.2 .i64 hK (iW+1)).bind λn723=>(Hp.ldSl r720.2 hK (iW+2)).bind λs724=>(aX n722 n723 s724 iX iz r720.2).bind λr725=>((r725.1).asI .i64).bind λn726=>(if aP r720.2 r725.2 then ((Hp.ldI r725.2 .i64 hK iW).bind λn727=>(Hp.ldI r725.2 .i64 hK (iW+1)).bind λn728=>(Hp.ldSl r725.2 hK (iW+2)).bind λs729=>(aX n727 n728 s729 iz iY r725.2).bind λr730=>((r730.1).asI .i64).bind λn731=>(if aP r725.2 r730.2 then ((if jD=0 then none else ((Sl.idx s711 (wrap .i64 ((wrap .i64 (iX * jC))+iY)) 1).bind λp732=>(Hp.st r730.2 p732.1 p732.2 (.int .i64 (wrap .i64 (Int.tdiv (wrap .i64 ((wrap .i64 (n716 * n721)) - (wrap .i64 (n726 * n731)))) jD)))).bind λH733=>aj.l1027029 F aX cu C125_ C64189_ IM jC hK iW mf jD iz iX (wrap .i64 (iY+1)) H733))) else none)) else none)) else none)) else none)) else (aj.j15 F aX cu C64189_ jC hK iW mf jD iz iX H643))
termination_by structural n=>n
def aj.l64189 (F:Nat) (aX:PQ) (cu:PQ) (C125_:Qj):Nat->Int->Nat->Nat->Int->Int->Int->Int->Hp->OA
 | 0,_,_,_,_,_,_,_,_=>none
 | zO+1,kI,oP,wB,mg,nP,kJ,mh,H466=>(bif (decide (mh<kI)) then (aj.l1027029 F aX cu C125_ (aj.l64189 F aX cu C125_ zO) F kI oP wB mg nP kJ mh (wrap .i64 (kJ+1)) H466) else (aj.j13 F aX cu C125_ kI oP wB mg kJ H466))
termination_by structural n=>n
def aj.j16 (aX:PQ) (cu:PQ) (C125_:Qj) (sR:Int) (wC:Nat) (IN:Nat) (sS:Int) (sT:Int) (oQ:Int) (H447:Hp):OA:=aj.l64189 F aX cu C125_ F sR wC IN sS sT oQ (wrap .i64 (oQ+1)) H447
def aj.j17 (aX:PQ) (cu:PQ) (C125_:Qj) (nr:Int) (oR:Nat) (uR:Nat) (oS:Int) (oT:Int) (lg:Int) (ns:Int) (H425:Hp):OA:=(bif (ns==nr) then (some ((.int .i64 0),H425)) else ((bif (ns != lg) then ((Hp.ldI H425 .i64 oR uR).bind λn426=>(Hp.ldI H425 .i64 oR (uR+1)).bind λn427=>(Hp.ldSl H425 oR (uR+2)).bind λs428=>(cu n426 n427 s428 ns lg H425).bind λr429=>aj.j16 F aX cu C125_ nr oR uR (wrap .i64 (0 - oS)) oT lg r429.2) else (aj.j16 F aX cu C125_ nr oR uR oS oT lg H425))))
def aj.l4010 (F:Nat) (aX:PQ) (cu:PQ) (C125_:Qj):Nat->Int->Nat->Nat->Int->Int->Int->Int->Hp->OA
 | 0,_,_,_,_,_,_,_,_=>none
 | IP+1,jE,li,oU,kK,kL,jF,iZ,H404=>(bif (decide (iZ<jE)) then ((Hp.ldI H404 .i64 li oU).bind λn734=>(Hp.ldI H404 .i64 li (oU+1)).bind λn735=>(Hp.ldSl H404 li (oU+2)).bind λs736=>(aX n734 n735 s736 iZ jF H404).bind λr737=>((r737.1).asI .i64).bind λn738=>(bif (n738==0) then (aj.l4010 F aX cu C125_ IP jE li oU kK kL jF (wrap .i64 (iZ+1)) r737.2) else (aj.j17 F aX cu C125_ jE li oU kK kL jF iZ r737.2))) else (aj.j17 F aX cu C125_ jE li oU kK kL jF iZ H404))
termination_by structural n=>n
def aj.l125 (F:Nat) (aX:PQ) (cu:PQ) :Nat->Int->Nat->Nat->Int->Int->Int->Hp->OA
 | 0,_,_,_,_,_,_,_=>none
 | mi+1,mj,pX,zP,mn,fR,kM,H26=>(bif (decide (kM<mj)) then (aj.l4010 F aX cu (aj.l125 F aX cu mi) F mj pX zP mn fR kM kM H26) else (aj.j9 F aX cu mn fR H26))
termination_by structural n=>n
def aj.twX (aX:PQ) (cu:PQ) (aa:Int) (ac:Int) (a_:Sl) (H:Hp):OA:=(Hp.new H [(.int .i64 aa),(.int .i64 ac),(.sl a_)]).bind λH4=>(Hp.ldI H4 .i64 H.length 0).bind λn5=>(Hp.new H4 []).bind λH6=>(Hp.ldSl H6 H.length 2).bind λs7=>(Sl.row H6 s7 1).bind λxs9=>(Hp.app H6 1 8 (⟨some (H4.length,0),0,.ex 0⟩:Sl) s7.n xs9).bind λa8=>(Hp.new a8.2 [.int .i64 0,.int .i64 0,.sl ⟨none,0,.ex 0⟩]).bind λH10=>(Hp.st H10 a8.2.length 0 (.int .i64 n5)).bind λH11=>(Hp.st H11 a8.2.length (0+1) (.int .i64 n5)).bind λH12=>(Hp.st H12 a8.2.length (0+1+1) (.sl a8.1)).bind λH13=>aj.l125 F aX cu F n5 a8.2.length 0 1 1 0 H13
def aj.tw:=aj.twX F (bJ.tw F) (bT.tw F)
def aj.lh125 (aX:PQ) (cu:PQ) (ks:PW) (n:Nat) (tm:Tm) (H:Hp):OA:=match ks,tm 3,tm 4,tm 5,tm 6,tm 7 with
 | [],(.int .i64 mj),(.ptr pX zP),(.int .i64 mn),(.int .i64 fR),(.int .i64 kM)=>aj.l125 F aX cu n mj pX zP mn fR kM H
 | _,_,_,_,_,_=>none
def aj.lh4010 (aX:PQ) (cu:PQ) (ks:PW) (n:Nat) (tm:Tm) (H:Hp):OA:=match ks,tm 3,tm 4,tm 5,tm 6,tm 7,tm 8 with
 | [mi],(.int .i64 jE),(.ptr li oU),(.int .i64 kK),(.int .i64 kL),(.int .i64 jF),(.int .i64 iZ)=>aj.l4010 F aX cu (aj.l125 F aX cu mi) n jE li oU kK kL jF iZ H
 | _,_,_,_,_,_,_=>none
def aj.lh64189 (aX:PQ) (cu:PQ) (ks:PW) (n:Nat) (tm:Tm) (H:Hp):OA:=match ks,tm 3,tm 4,tm 5,tm 6,tm 7,tm 9 with
 | [mi],(.int .i64 kI),(.ptr oP wB),(.int .i64 mg),(.int .i64 nP),(.int .i64 kJ),(.int .i64 mh)=>aj.l64189 F aX cu (aj.l125 F aX cu mi) n kI oP wB mg nP kJ mh H
 | _,_,_,_,_,_,_=>none
def aj.lh1027029 (aX:PQ) (cu:PQ) (ks:PW) (n:Nat) (tm:Tm) (H:Hp):OA:=match ks,tm 3,tm 4,tm 5,tm 6,tm 7,tm 9,tm 10 with
 | [zO,mi],(.int .i64 jC),(.ptr hK iW),(.int .i64 mf),(.int .i64 jD),(.int .i64 iz),(.int .i64 iX),(.int .i64 iY)=>aj.l1027029 F aX cu (aj.l125 F aX cu mi) (aj.l64189 F aX cu (aj.l125 F aX cu mi) zO) n jC hK iW mf jD iz iX iY H
 | _,_,_,_,_,_,_,_=>none
def aj.lh (aX:PQ) (cu:PQ) (p:Nat) (ks:PW) (n:Nat) (tm:Tm) (H:Hp):OA:=bif p.beq 1027029 then aj.lh1027029 F aX cu ks n tm H else (bif p.beq 64189 then aj.lh64189 F aX cu ks n tm H else (bif p.beq 4010 then aj.lh4010 F aX cu ks n tm H else (bif p.beq 125 then aj.lh125 F aX cu ks n tm H else (none))))
def aj.pn:Nat->List Nat:=el [(21,[29])]
def aj.tb:Nat->List (List Nat):=el [(21,[[],[0],[],[],[2,3],[],[2,3,4,5],[],[],[],[7,8,9],[],[],[],[7,8,9,10,11,12,13],[7,8,9,10,11,12,13,14],[],[],[],[7,8,9,10,11,12,13,14,16,17,18],[],[],[],[7,8,9,10,11,12,13,14,16,17,18,19,20,21,22],[7,8,9,10,11,12,13,14,16,17,18,19,20,21,22,23],[7,8,9,10,11,12,13,14,15,16,17,18,19,20,21,22,23,24],[],[7,8,9,10,11,12,13,14,15,16,17,18,19,20,21,22,23,24,25,26],[0,1,2,3,4,5,6,7,8,9,10,11,12,13,14,15,16,17,18,19,20,21,22,23,24,25,26,27],[0,1,2,3,4,5,6,7,8,9,10,11,12,13,14,15,16,17,18,19,20,21,22,23,24,25,26,27,28]])]
def aj.cs (F:Nat) (aX:PQ) (cu:PQ):Cs:=[(62,mk10 aX),(131,mk10 cu)]
theorem aj.loops (aX:PQ) (cu:PQ):LO (bU (aj.cs F aX cu)) aj.pn (aj.lh F aX cu) F Try.f81:=
 (af.rt (af.rt (af.rt (af.rt (af.lt (af.rt (af.block (af.la (λn tm H r h=>by change aj.lh125 F aX cu [] n tm H=_ at h;unfold aj.lh125 at h;split at h;have e:dP tm [(3,_),(4,_),(5,_),(6,_),(7,_)]:=⟨‹_›,‹_›,‹_›,‹_›,‹_›,trivial⟩;obtain _ | k125:=n;cases h;exact ⟨_,rfl,by rw [<- dQ e];exact Eq.trans (by kernel_rfl) h⟩;cases h) λk125=>(af.rt (af.lt (af.block (af.rt (af.seq (af.block (af.la (λn tm H r h=>by change aj.lh4010 F aX cu [k125] n tm H=_ at h;unfold aj.lh4010 at h;split at h;have e:dP tm [(3,_),(4,_),(5,_),(6,_),(7,_),(8,_)]:=⟨‹_›,‹_›,‹_›,‹_›,‹_›,‹_›,trivial⟩;cases (show [k125]=_ from ‹_›);obtain _ | k4010:=n;cases h;exact ⟨_,rfl,by rw [<- dQ e];exact Eq.trans (by kernel_rfl) h⟩;cases h) λk4010=>af.no)) (af.rt (af.rt (af.lt (af.rt (af.block (af.la (λn tm H r h=>by change aj.lh64189 F aX cu [k125] n tm H=_ at h;unfold aj.lh64189 at h;split at h;have e:dP tm [(3,_),(4,_),(5,_),(6,_),(7,_),(9,_)]:=⟨‹_›,‹_›,‹_›,‹_›,‹_›,‹_›,trivial⟩;cases (show [k125]=_ from ‹_›);obtain _ | k64189:=n;cases h;exact ⟨_,rfl,by rw [<- dQ e];exact Eq.trans (by kernel_rfl) h⟩;cases h) λk64189=>(af.rt (af.lt (af.block (af.rt (af.block (af.la (λn tm H r h=>by change aj.lh1027029 F aX cu [k64189,k125] n tm H=_ at h;unfold aj.lh1027029 at h;split at h;have e:dP tm [(3,_),(4,_),(5,_),(6,_),(7,_),(9,_),(10,_)]:=⟨‹_›,‹_›,‹_›,‹_›,‹_›,‹_›,‹_›,trivial⟩;cases (show [k64189,k125]=_ from ‹_›);obtain _ | k1027029:=n;cases h;exact ⟨_,rfl,by rw [<- dQ e];exact Eq.trans (by kernel_rfl) h⟩;cases h) λk1027029=>af.no)))))))))))))))))))))))))
theorem aj.eqX (aX:PQ) (cu:PQ) (aa:Int) (ac:Int) (a_:Sl) (H:Hp):EX (bU (aj.cs F aX cu)) aj.pn (aj.lh F aX cu) F Try.f81 [(.agg [(.int .i64 aa),(.int .i64 ac),(.sl a_)])] H=aj.twX F aX cu aa ac a_ H:=by kernel_rfl
theorem aj.k:Ok Try.prog 81 (mk8 (aj.tw F)):=by
 intro args H v H' h
 unfold mk8 at h
 split at h
 ·exact okT (TB:=aj.tb) Try.func81 (bB (bJ.k F) (bB (bT.k F) dr)) (aj.loops F (bJ.tw F) (bT.tw F)) ((aj.eqX F (bJ.tw F) (bT.tw F) _ _ _ H).trans h) (by kernel_rfl)
 ·cases h
def eK.twX (F:Nat) (sU:PT) (sV:PT) (sW:PT) (aa:Int) (ac:Int) (a_:Sl) (H:Hp):OA:=(Hp.new H [(.int .i64 aa),(.int .i64 ac),(.sl a_)]).bind λH4=>(Hp.ldI H4 .i64 H.length 0).bind λn5=>(Hp.ldI H4 .i64 H.length (0+1)).bind λn6=>(Hp.ldSl H4 H.length (0+2)).bind λs7=>(sU n5 n6 s7 H4).bind λr8=>((r8.1).asB).bind λb9=>(bif (!b9) then (some ((.tup [(.int .i64 0),(.int .i64 1)]),r8.2)) else ((Hp.ldI r8.2 .i64 H.length 0).bind λn10=>(Hp.ldI r8.2 .i64 H.length 1).bind λn11=>(bif (n10 != n11) then (some ((.tup [(.int .i64 0),(.int .i64 2)]),r8.2)) else ((Hp.ldI r8.2 .i64 H.length 0).bind λn12=>(Hp.ldI r8.2 .i64 H.length (0+1)).bind λn13=>(Hp.ldSl r8.2 H.length (0+2)).bind λs14=>(sV n12 n13 s14 r8.2).bind λr15=>((r15.1).asB).bind λb16=>(bif (!b16) then (some ((.tup [(.int .i64 0),(.int .i64 3)]),r15.2)) else ((Hp.ldI r15.2 .i64 H.length 0).bind λn17=>(Hp.ldI r15.2 .i64 H.length (0+1)).bind λn18=>(Hp.ldSl r15.2 H.length (0+2)).bind λs19=>(sW n17 n18 s19 r15.2).bind λr20=>((r20.1).asI .i64).bind λn21=>some ((.tup [(.int .i64 n21),(.int .i64 0)]),r20.2)))))))
def eK.tw:=eK.twX F (cw.tw F) (bi.tw F) (aj.tw F)
def eK.cs (F:Nat) (sU:PT) (sV:PT) (sW:PT):Cs:=[(29,mk8 sU),(80,mk8 sV),(81,mk8 sW)]
theorem eK.eqX (sU:PT) (sV:PT) (sW:PT) (aa:Int) (ac:Int) (a_:Sl) (H:Hp):EX (bU (eK.cs F sU sV sW)) cj lh0 F Try.f22 [(.agg [(.int .i64 aa),(.int .i64 ac),(.sl a_)])] H=eK.twX F sU sV sW aa ac a_ H:=by kernel_rfl
theorem eK.k:Ok Try.prog 22 (mk8 (eK.tw F)):=by
 intro args H v H' h
 unfold mk8 at h
 split at h
 ·exact okT (TB:=cj) Try.func22 (bB (cw.k F) (bB (bi.k F) (bB (aj.k F) dr))) af.no ((eK.eqX F (cw.tw F) (bi.tw F) (aj.tw F) _ _ _ H).trans h) (by kernel_rfl)
 ·cases h
def eU.twX (F:Nat) (aa:Int) (aF:Int) (H:Hp):OA:=(Hp.new H [.int .i64 0,.int .i64 0,.sl ⟨none,0,.ex 0⟩]).bind λH3=>(Hp.mk H3 [.int .i64 0] 8 (wrap .i64 (aa * aF)) (wrap .i64 (aa * aF))).bind λm4=>(Hp.st m4.2 H.length 0 (.int .i64 aa)).bind λH5=>(Hp.st H5 H.length (0+1) (.int .i64 aF)).bind λH6=>(Hp.st H6 H.length (0+1+1) (.sl m4.1)).bind λH7=>(Hp.ldI H7 .i64 H.length 0).bind λn8=>(Hp.ldI H7 .i64 H.length (0+1)).bind λn9=>(Hp.ldSl H7 H.length (0+2)).bind λs10=>some ((.agg [(.int .i64 n8),(.int .i64 n9),(.sl s10)]),H7)
def eU.tw:=eU.twX F
theorem eU.k:Ok Try.prog 74 (mk2 (eU.tw F)):=by
 intro args H v H' h
 unfold mk2 at h
 split at h
 ·exact ok0 Try.func74 (Eq.trans (by kernel_rfl) h) (by kernel_rfl) (by kernel_rfl)
 ·cases h
def aY.j3 (F:Nat) (du:PT) (cP:Qb) (ae:PQ) (C61_:Qo) (wD:Nat) (IQ:Nat) (wE:Nat) (IR:Nat) (wF:Nat) (IS:Nat) (sX:Int) (sY:Int) (H197:Hp):OA:=C61_ wD IQ wE IR wF IS sX (wrap .i64 (sY+1)) H197
def aY.j4 (du:PT) (cP:Qb) (ae:PQ) (C61_:Qo) (wG:Nat) (IT:Nat) (wH:Nat) (IU:Nat) (wI:Nat) (IV:Nat) (sZ:Int) (s_:Int) (H179:Hp):OA:=aY.j3 F du cP ae C61_ wG IT wH IU wI IV sZ s_ H179
def aY.l3931 (F:Nat) (du:PT) (cP:Qb) (ae:PQ) (C61_:Qo):Nat->Nat->Nat->Nat->Nat->Nat->Nat->Int->Int->Int->Int->Int->Hp->OA
 | 0,_,_,_,_,_,_,_,_,_,_,_,_=>none
 | IW+1,mo,pY,oV,wJ,mp,pZ,mq,mr,kN,ms,jG,H149=>(bif (decide (jG<ms)) then ((Hp.ldI H149 .i64 mp pZ).bind λn198=>(Hp.ldI H149 .i64 mp (pZ+1)).bind λn199=>(Hp.ldSl H149 mp (pZ+2)).bind λs200=>(ae n198 n199 s200 jG kN H149).bind λr201=>((r201.1).asP).bind λp202=>(if aP H149 r201.2 then ((Hp.ldI r201.2 .i64 mo pY).bind λn203=>(Hp.ldI r201.2 .i64 mo (pY+1)).bind λn204=>(Hp.ldSl r201.2 mo (pY+2)).bind λs205=>(ae n203 n204 s205 kN jG r201.2).bind λr206=>((r206.1).asP).bind λp207=>(Hp.ldI r206.2 .i64 p207.1 p207.2).bind λn208=>(Hp.st r206.2 p202.1 p202.2 (.int .i64 n208)).bind λH209=>aY.l3931 F du cP ae C61_ IW mo pY oV wJ mp pZ mq mr kN ms (wrap .i64 (jG+1)) H209) else none)) else (aY.j4 F du cP ae C61_ mo pY oV wJ mp pZ mq mr H149))
termination_by structural n=>n
def aY.l61 (F:Nat) (du:PT) (cP:Qb) (ae:PQ) :Nat->Nat->Nat->Nat->Nat->Nat->Nat->Int->Int->Hp->OA
 | 0,_,_,_,_,_,_,_,_,_=>none
 | qY+1,oW,wK,kO,nQ,nu,ta,mu,kP,H44=>(bif (decide (kP<mu)) then ((Hp.ldI H44 .i64 oW (wK+1)).bind λn132=>aY.l3931 F du cP ae (aY.l61 F du cP ae qY) F oW wK kO nQ nu ta mu kP kP n132 0 H44) else ((Hp.ldI H44 .i64 nu ta).bind λn210=>(Hp.ldI H44 .i64 nu (ta+1)).bind λn211=>(Hp.ldSl H44 nu (ta+2)).bind λs212=>(Hp.st H44 kO nQ (.int .i64 n210)).bind λH213=>(Hp.st H213 kO (nQ+1) (.int .i64 n211)).bind λH214=>(Hp.st H214 kO (nQ+1+1) (.sl s212)).bind λH215=>(Hp.ldI H215 .i64 kO nQ).bind λn216=>(Hp.ldI H215 .i64 kO (nQ+1)).bind λn217=>(Hp.ldSl H215 kO (nQ+2)).bind λs218=>some ((.agg [(.int .i64 n216),(.int .i64 n217),(.sl s218)]),H215)))
termination_by structural n=>n
def aY.twX (du:PT) (cP:Qb) (ae:PQ) (aa:Int) (ac:Int) (a_:Sl) (H:Hp):OA:=(Hp.new H [(.int .i64 aa),(.int .i64 ac),(.sl a_)]).bind λH4=>(Hp.new H4 [.int .i64 0,.int .i64 0,.sl ⟨none,0,.ex 0⟩]).bind λH5=>(Hp.ldI H5 .i64 H.length 0).bind λn6=>(Hp.ldI H5 .i64 H.length (0+1)).bind λn7=>(Hp.ldSl H5 H.length (0+2)).bind λs8=>(du n6 n7 s8 H5).bind λr9=>((r9.1).asB).bind λb10=>(bif (!b10) then ((Hp.st r9.2 H4.length 0 (.int .i64 0)).bind λH11=>(Hp.st H11 H4.length (0+1) (.int .i64 0)).bind λH12=>(Hp.st H12 H4.length (0+1+1) (.sl (⟨none,0,.ex 0⟩:Sl))).bind λH13=>(Hp.ldI H13 .i64 H4.length 0).bind λn14=>(Hp.ldI H13 .i64 H4.length (0+1)).bind λn15=>(Hp.ldSl H13 H4.length (0+2)).bind λs16=>some ((.agg [(.int .i64 n14),(.int .i64 n15),(.sl s16)]),H13)) else ((Hp.ldI r9.2 .i64 H.length 1).bind λn17=>(Hp.ldI r9.2 .i64 H.length 0).bind λn18=>(cP n17 n18 r9.2).bind λr19=>((r19.1).asAgg 3).bind λl20=>(l20[0]?).bind λv21=>((v21).asI .i64).bind λn22=>(l20[1]?).bind λv23=>((v23).asI .i64).bind λn24=>(l20[2]?).bind λv25=>((v25).asSl).bind λs26=>(Hp.new r19.2 [.int .i64 0,.int .i64 0,.sl ⟨none,0,.ex 0⟩]).bind λH27=>(Hp.st H27 r19.2.length 0 (.int .i64 n22)).bind λH28=>(Hp.st H28 r19.2.length (0+1) (.int .i64 n24)).bind λH29=>(Hp.st H29 r19.2.length (0+1+1) (.sl s26)).bind λH30=>(Hp.ldI H30 .i64 H.length 0).bind λn31=>aY.l61 F du cP ae F H.length 0 H4.length 0 r19.2.length 0 n31 0 H30))
def aY.tw:=aY.twX F (cO.tw F) (eU.tw F) (aH.tw F)
def aY.lh61 (du:PT) (cP:Qb) (ae:PQ) (ks:PW) (n:Nat) (tm:Tm) (H:Hp):OA:=match ks,tm 1,tm 2,tm 3,tm 16,tm 17 with
 | [],(.ptr oW wK),(.ptr kO nQ),(.ptr nu ta),(.int .i64 mu),(.int .i64 kP)=>aY.l61 F du cP ae n oW wK kO nQ nu ta mu kP H
 | _,_,_,_,_,_=>none
def aY.lh3931 (du:PT) (cP:Qb) (ae:PQ) (ks:PW) (n:Nat) (tm:Tm) (H:Hp):OA:=match ks,tm 1,tm 2,tm 3,tm 4,tm 16,tm 17,tm 21,tm 22 with
 | [qY],(.ptr mo pY),(.ptr oV wJ),(.ptr mp pZ),(.int .i64 kN),(.int .i64 mq),(.int .i64 mr),(.int .i64 ms),(.int .i64 jG)=>aY.l3931 F du cP ae (aY.l61 F du cP ae qY) n mo pY oV wJ mp pZ mq mr kN ms jG H
 | _,_,_,_,_,_,_,_,_=>none
def aY.lh (du:PT) (cP:Qb) (ae:PQ) (p:Nat) (ks:PW) (n:Nat) (tm:Tm) (H:Hp):OA:=bif p.beq 3931 then aY.lh3931 F du cP ae ks n tm H else (bif p.beq 61 then aY.lh61 F du cP ae ks n tm H else (none))
def aY.pn:Nat->List Nat:=el [(10,[7,11])]
def aY.tb:Nat->List (List Nat):=el [(10,[[],[],[],[0,1,2],[],[],[],[0,1,2,3,4,5,6],[0,1,2,3,4,5,6,7],[0,1,2,3,4,5,6,7,8],[0,1,2,3,4,5,6,7,8,9],[0,1,2,3,4,5,6,7,8,9,10]])]
def aY.cs (F:Nat) (du:PT) (cP:Qb) (ae:PQ):Cs:=[(76,mk8 du),(74,mk2 cP),(75,mk10 ae)]
theorem aY.loops (du:PT) (cP:Qb) (ae:PQ):LO (bU (aY.cs F du cP ae)) aY.pn (aY.lh F du cP ae) F Try.f23:=
 (af.rt (af.rt (af.rt (af.lt (af.rt (af.block (af.la (λn tm H r h=>by change aY.lh61 F du cP ae [] n tm H=_ at h;unfold aY.lh61 at h;split at h;have e:dP tm [(1,_),(2,_),(3,_),(16,_),(17,_)]:=⟨‹_›,‹_›,‹_›,‹_›,‹_›,trivial⟩;obtain _ | k61:=n;cases h;exact ⟨_,rfl,by rw [<- dQ e];exact Eq.trans (by kernel_rfl) h⟩;cases h) λk61=>(af.rt (af.rt (af.lt (af.block (af.rt (af.rt (af.block (af.la (λn tm H r h=>by change aY.lh3931 F du cP ae [k61] n tm H=_ at h;unfold aY.lh3931 at h;split at h;have e:dP tm [(1,_),(2,_),(3,_),(4,_),(16,_),(17,_),(21,_),(22,_)]:=⟨‹_›,‹_›,‹_›,‹_›,‹_›,‹_›,‹_›,‹_›,trivial⟩;cases (show [k61]=_ from ‹_›);obtain _ | k3931:=n;cases h;exact ⟨_,rfl,by rw [<- dQ e];exact Eq.trans (by kernel_rfl) h⟩;cases h) λk3931=>af.no)))))))))))))))
theorem aY.eqX (du:PT) (cP:Qb) (ae:PQ) (aa:Int) (ac:Int) (a_:Sl) (H:Hp):EX (bU (aY.cs F du cP ae)) aY.pn (aY.lh F du cP ae) F Try.f23 [(.agg [(.int .i64 aa),(.int .i64 ac),(.sl a_)])] H=aY.twX F du cP ae aa ac a_ H:=by kernel_rfl
theorem aY.k:Ok Try.prog 23 (mk8 (aY.tw F)):=by
 intro args H v H' h
 unfold mk8 at h
 split at h
 ·exact okT (TB:=aY.tb) Try.func23 (bB (cO.k F) (bB (eU.k F) (bB (aH.k F) dr))) (aY.loops F (cO.tw F) (eU.tw F) (aH.tw F)) ((aY.eqX F (cO.tw F) (eU.tw F) (aH.tw F) _ _ _ H).trans h) (by kernel_rfl)
 ·cases h
def cn.l29 (F:Nat) (cP:Qb) (ae:PQ) :Nat->Nat->Nat->Nat->Nat->Int->Int->Hp->OA
 | 0,_,_,_,_,_,_,_=>none
 | eR+1,dJ,nR,kQ,nS,mv,jH,H22=>(bif (decide (jH<mv)) then ((Hp.ldI H22 .i64 kQ nS).bind λn38=>(Hp.ldI H22 .i64 kQ (nS+1)).bind λn39=>(Hp.ldSl H22 kQ (nS+2)).bind λs40=>(ae n38 n39 s40 jH jH H22).bind λr41=>((r41.1).asP).bind λp42=>(Hp.st r41.2 p42.1 p42.2 (.int .i64 1)).bind λH43=>cn.l29 F cP ae eR dJ nR kQ nS mv (wrap .i64 (jH+1)) H43) else ((Hp.ldI H22 .i64 kQ nS).bind λn44=>(Hp.ldI H22 .i64 kQ (nS+1)).bind λn45=>(Hp.ldSl H22 kQ (nS+2)).bind λs46=>(Hp.st H22 dJ nR (.int .i64 n44)).bind λH47=>(Hp.st H47 dJ (nR+1) (.int .i64 n45)).bind λH48=>(Hp.st H48 dJ (nR+1+1) (.sl s46)).bind λH49=>(Hp.ldI H49 .i64 dJ nR).bind λn50=>(Hp.ldI H49 .i64 dJ (nR+1)).bind λn51=>(Hp.ldSl H49 dJ (nR+2)).bind λs52=>some ((.agg [(.int .i64 n50),(.int .i64 n51),(.sl s52)]),H49)))
termination_by structural n=>n
def cn.twX (cP:Qb) (ae:PQ) (aa:Int) (H:Hp):OA:=(Hp.new H [.int .i64 0,.int .i64 0,.sl ⟨none,0,.ex 0⟩]).bind λH2=>(cP aa aa H2).bind λr3=>((r3.1).asAgg 3).bind λl4=>(l4[0]?).bind λv5=>((v5).asI .i64).bind λn6=>(l4[1]?).bind λv7=>((v7).asI .i64).bind λn8=>(l4[2]?).bind λv9=>((v9).asSl).bind λs10=>(Hp.new r3.2 [.int .i64 0,.int .i64 0,.sl ⟨none,0,.ex 0⟩]).bind λH11=>(Hp.st H11 r3.2.length 0 (.int .i64 n6)).bind λH12=>(Hp.st H12 r3.2.length (0+1) (.int .i64 n8)).bind λH13=>(Hp.st H13 r3.2.length (0+1+1) (.sl s10)).bind λH14=>cn.l29 F cP ae F H.length 0 r3.2.length 0 aa 0 H14
def cn.tw:=cn.twX F (eU.tw F) (aH.tw F)
def cn.lh29 (cP:Qb) (ae:PQ) (ks:PW) (n:Nat) (tm:Tm) (H:Hp):OA:=match ks,tm 2,tm 3,tm 8,tm 9 with
 | [],(.ptr dJ nR),(.ptr kQ nS),(.int .i64 mv),(.int .i64 jH)=>cn.l29 F cP ae n dJ nR kQ nS mv jH H
 | _,_,_,_,_=>none
def cn.lh (cP:Qb) (ae:PQ) (p:Nat) (ks:PW) (n:Nat) (tm:Tm) (H:Hp):OA:=bif p.beq 29 then cn.lh29 F cP ae ks n tm H else (none)
def cn.cs (F:Nat) (cP:Qb) (ae:PQ):Cs:=[(74,mk2 cP),(75,mk10 ae)]
theorem cn.loops (cP:Qb) (ae:PQ):LO (bU (cn.cs F cP ae)) cj (cn.lh F cP ae) F Try.f134:=
 (af.rt (af.rt (af.lt (af.rt (af.block (af.la (λn tm H r h=>by change cn.lh29 F cP ae [] n tm H=_ at h;unfold cn.lh29 at h;split at h;have e:dP tm [(2,_),(3,_),(8,_),(9,_)]:=⟨‹_›,‹_›,‹_›,‹_›,trivial⟩;obtain _ | k29:=n;cases h;exact ⟨_,rfl,by rw [<- dQ e];exact Eq.trans (by kernel_rfl) h⟩;cases h) λk29=>af.no))))))
theorem cn.eqX (cP:Qb) (ae:PQ) (aa:Int) (H:Hp):EX (bU (cn.cs F cP ae)) cj (cn.lh F cP ae) F Try.f134 [(.int .i64 aa)] H=cn.twX F cP ae aa H:=by kernel_rfl
theorem cn.k:Ok Try.prog 134 (mk6 (cn.tw F)):=by
 intro args H v H' h
 unfold mk6 at h
 split at h
 ·exact okT (TB:=cj) Try.func134 (bB (eU.k F) (bB (aH.k F) dr)) (cn.loops F (eU.tw F) (aH.tw F)) ((cn.eqX F (eU.tw F) (aH.tw F) _ H).trans h) (by kernel_rfl)
 ·cases h
def iA.twX (F:Nat) (nT:PX) (kE:PT) (aa:Int) (ac:Int) (a_:Sl) (H:Hp):OA:=(Hp.new H [(.int .i64 aa),(.int .i64 ac),(.sl a_)]).bind λH4=>(Hp.ldI H4 .i64 H.length 0).bind λn5=>(nT n5 H4).bind λr6=>((r6.1).asAgg 3).bind λl7=>(l7[0]?).bind λv8=>((v8).asI .i64).bind λn9=>(l7[1]?).bind λv10=>((v10).asI .i64).bind λn11=>(l7[2]?).bind λv12=>((v12).asSl).bind λs13=>(if aP H4 r6.2 then ((Hp.ldI r6.2 .i64 H.length 0).bind λn14=>(nT n14 r6.2).bind λr15=>((r15.1).asAgg 3).bind λl16=>(l16[0]?).bind λv17=>((v17).asI .i64).bind λn18=>(l16[1]?).bind λv19=>((v19).asI .i64).bind λn20=>(l16[2]?).bind λv21=>((v21).asSl).bind λs22=>(if aP r6.2 r15.2 then ((Hp.ldI r15.2 .i64 H.length 0).bind λn23=>(Hp.ldI r15.2 .i64 H.length (0+1)).bind λn24=>(Hp.ldSl r15.2 H.length (0+2)).bind λs25=>(kE n23 n24 s25 r15.2).bind λr26=>((r26.1).asAgg 3).bind λl27=>(l27[0]?).bind λv28=>((v28).asI .i64).bind λn29=>(l27[1]?).bind λv30=>((v30).asI .i64).bind λn31=>(l27[2]?).bind λv32=>((v32).asSl).bind λs33=>(if aP r15.2 r26.2 then ((Hp.ldI r26.2 .i64 H.length 1).bind λn34=>(nT n34 r26.2).bind λr35=>((r35.1).asAgg 3).bind λl36=>(l36[0]?).bind λv37=>((v37).asI .i64).bind λn38=>(l36[1]?).bind λv39=>((v39).asI .i64).bind λn40=>(l36[2]?).bind λv41=>((v41).asSl).bind λs42=>(if aP r26.2 r35.2 then ((Hp.ldI r35.2 .i64 H.length 1).bind λn43=>(nT n43 r35.2).bind λr44=>((r44.1).asAgg 3).bind λl45=>(l45[0]?).bind λv46=>((v46).asI .i64).bind λn47=>(l45[1]?).bind λv48=>((v48).asI .i64).bind λn49=>(l45[2]?).bind λv50=>((v50).asSl).bind λs51=>(Hp.new r44.2 [(.int .i64 n9),(.int .i64 n11),(.sl s13),(.int .i64 n18),(.int .i64 n20),(.sl s22),(.int .i64 n29),(.int .i64 n31),(.sl s33),(.int .i64 n38),(.int .i64 n40),(.sl s42),(.int .i64 n47),(.int .i64 n49),(.sl s51),(.bool false)]).bind λH52=>some ((.ptr r44.2.length 0),H52)) else none)) else none)) else none)) else none)
def iA.tw:=iA.twX F (cn.tw F) (e_.tw F)
def iA.pn:Nat->List Nat:=el [(1,[13])]
def iA.tb:Nat->List (List Nat):=el [(1,[[],[0],[0,1],[],[3],[0,1,2,3,4],[],[0,1,2,3,4,5,6],[],[8],[0,1,2,3,4,5,6,7,8,9],[],[11],[0,1,2,3,4,5,6,7,8,9,10,11,12],[0,1,2,3,4,5,6,7,8,9,10,11,12,13],[0,1,2,3,4,5,6,7,8,9,10,11,12,13,14],[0,1,2,3,4,5,6,7,8,9,10,11,12,13,14,15],[0,1,2,3,4,5,6,7,8,9,10,11,12,13,14,15,16]])]
def iA.cs (F:Nat) (nT:PX) (kE:PT):Cs:=[(134,mk6 nT),(79,mk8 kE)]
theorem iA.eqX (nT:PX) (kE:PT) (aa:Int) (ac:Int) (a_:Sl) (H:Hp):EX (bU (iA.cs F nT kE)) iA.pn lh0 F Try.f132 [(.agg [(.int .i64 aa),(.int .i64 ac),(.sl a_)])] H=iA.twX F nT kE aa ac a_ H:=by kernel_rfl
theorem iA.k:Ok Try.prog 132 (mk8 (iA.tw F)):=by
 intro args H v H' h
 unfold mk8 at h
 split at h
 ·exact okT (TB:=iA.tb) Try.func132 (bB (cn.k F) (bB (e_.k F) dr)) af.no ((iA.eqX F (cn.tw F) (e_.tw F) _ _ _ H).trans h) (by kernel_rfl)
 ·cases h
def aB.j5 (F:Nat) (ae:PQ) (bC:PX) (tc:Int) (te:Int) (tg:Bool) (H134:Hp):OA:=some ((.tup [(.int .i64 tc),(.int .i64 te),(.bool tg)]),H134)
def aB.j7 (F:Nat) (ae:PQ) (bC:PX) (C29_:Qx) (th:Int) (ti:Int) (tj:Int) (tl:Bool) (wL:Nat) (IX:Nat) (tn:Int) (H205:Hp):OA:=C29_ th ti tj tl wL IX (wrap .i64 (tn+1)) H205
def aB.j8 (ae:PQ) (bC:PX) (C29_:Qx) (tp:Int) (tq:Int) (tt:Int) (tu:Bool) (wM:Nat) (IY:Nat) (tv:Int) (H192:Hp):OA:=aB.j7 F ae bC C29_ tp tq tt tu wM IY tv H192
def aB.j9 (F:Nat) (ae:PQ) (bC:PX) (C469_:QM) (tz:Int) (tA:Int) (tB:Int) (tC:Bool) (wN:Nat) (IZ:Nat) (tD:Int) (tE:Int) (H237:Hp):OA:=C469_ tz tA tB tC wN IZ tD (wrap .i64 (tE+1)) H237
def aB.l469 (F:Nat) (ae:PQ) (bC:PX) (C29_:Qx):Nat->Int->Int->Int->Bool->Nat->Nat->Int->Int->Hp->OA
 | 0,_,_,_,_,_,_,_,_,_=>none
 | wO+1,i_,jI,jJ,jK,iI,kg,gu,gv,H147=>(Hp.ldI H147 .i64 iI (kg+1)).bind λn206=>(bif (decide (gv<n206)) then ((Hp.ldI H147 .i64 iI kg).bind λn207=>(Hp.ldI H147 .i64 iI (kg+1)).bind λn208=>(Hp.ldSl H147 iI (kg+2)).bind λs209=>(ae n207 n208 s209 gu gv H147).bind λr210=>((r210.1).asP).bind λp211=>(Hp.ldI r210.2 .i64 p211.1 p211.2).bind λn212=>(bC n212 r210.2).bind λr213=>((r213.1).asI .i64).bind λn214=>(bif (n214 != 0) then ((bif (!jK) then (aB.l469 F ae bC C29_ wO i_ gu gv true iI kg gu (wrap .i64 (gv+1)) r213.2) else ((Hp.ldI r213.2 .i64 iI kg).bind λn215=>(Hp.ldI r213.2 .i64 iI (kg+1)).bind λn216=>(Hp.ldSl r213.2 iI (kg+2)).bind λs217=>(ae n215 n216 s217 jI jJ r213.2).bind λr218=>((r218.1).asP).bind λp219=>(Hp.ldI r218.2 .i64 p219.1 p219.2).bind λn220=>(bC n220 r218.2).bind λr221=>((r221.1).asI .i64).bind λn222=>(bif (decide (n214<n222)) then (aB.j9 F ae bC (aB.l469 F ae bC C29_ wO) i_ gu gv true iI kg gu gv r221.2) else (aB.j9 F ae bC (aB.l469 F ae bC C29_ wO) i_ jI jJ jK iI kg gu gv r221.2))))) else (aB.l469 F ae bC C29_ wO i_ jI jJ jK iI kg gu (wrap .i64 (gv+1)) r213.2))) else (aB.j8 F ae bC C29_ i_ jI jJ jK iI kg gu H147))
termination_by structural n=>n
def aB.l29 (F:Nat) (ae:PQ) (bC:PX) :Nat->Int->Int->Int->Bool->Nat->Nat->Int->Hp->OA
 | 0,_,_,_,_,_,_,_,_=>none
 | eR+1,cQ,fu,gf,mw,oX,wP,mz,H20=>(Hp.ldI H20 .i64 oX wP).bind λn135=>(bif (decide (mz<n135)) then (aB.l469 F ae bC (aB.l29 F ae bC eR) F cQ fu gf mw oX wP mz cQ H20) else (aB.j5 F ae bC fu gf mw H20))
termination_by structural n=>n
def aB.twX (ae:PQ) (bC:PX) (aa:Nat) (ac:Nat) (ai:Int) (H:Hp):OA:=(Hp.ldI H .i64 aa (ac+6)).bind λn4=>(Hp.ldI H .i64 aa ((ac+6)+1)).bind λn5=>(Hp.ldSl H aa ((ac+6)+2)).bind λs6=>(Hp.new H [.int .i64 0,.int .i64 0,.sl ⟨none,0,.ex 0⟩]).bind λH7=>(Hp.st H7 H.length 0 (.int .i64 n4)).bind λH8=>(Hp.st H8 H.length (0+1) (.int .i64 n5)).bind λH9=>(Hp.st H9 H.length (0+1+1) (.sl s6)).bind λH10=>aB.l29 F ae bC F ai 0 0 false H.length 0 ai H10
def aB.tw:=aB.twX F (aH.tw F) (cv.tw F)
def aB.lh29 (ae:PQ) (bC:PX) (ks:PW) (n:Nat) (tm:Tm) (H:Hp):OA:=match ks,tm 1,tm 4,tm 5,tm 6,tm 7,tm 8 with
 | [],(.int .i64 cQ),(.int .i64 fu),(.int .i64 gf),(.bool mw),(.ptr oX wP),(.int .i64 mz)=>aB.l29 F ae bC n cQ fu gf mw oX wP mz H
 | _,_,_,_,_,_,_=>none
def aB.lh469 (ae:PQ) (bC:PX) (ks:PW) (n:Nat) (tm:Tm) (H:Hp):OA:=match ks,tm 1,tm 4,tm 5,tm 6,tm 7,tm 8,tm 9 with
 | [eR],(.int .i64 i_),(.int .i64 jI),(.int .i64 jJ),(.bool jK),(.ptr iI kg),(.int .i64 gu),(.int .i64 gv)=>aB.l469 F ae bC (aB.l29 F ae bC eR) n i_ jI jJ jK iI kg gu gv H
 | _,_,_,_,_,_,_,_=>none
def aB.lh (ae:PQ) (bC:PX) (p:Nat) (ks:PW) (n:Nat) (tm:Tm) (H:Hp):OA:=bif p.beq 469 then aB.lh469 F ae bC ks n tm H else (bif p.beq 29 then aB.lh29 F ae bC ks n tm H else (none))
def aB.cs (F:Nat) (ae:PQ) (bC:PX):Cs:=[(75,mk10 ae),(97,mk6 bC)]
theorem aB.loops (ae:PQ) (bC:PX):LO (bU (aB.cs F ae bC)) cj (aB.lh F ae bC) F Try.f204:=
 (af.rt (af.rt (af.lt (af.rt (af.block (af.la (λn tm H r h=>by change aB.lh29 F ae bC [] n tm H=_ at h;unfold aB.lh29 at h;split at h;have e:dP tm [(1,_),(4,_),(5,_),(6,_),(7,_),(8,_)]:=⟨‹_›,‹_›,‹_›,‹_›,‹_›,‹_›,trivial⟩;obtain _ | k29:=n;cases h;exact ⟨_,rfl,by rw [<- dQ e];exact Eq.trans (by kernel_rfl) h⟩;cases h) λk29=>(af.rt (af.lt (af.block (af.rt (af.block (af.la (λn tm H r h=>by change aB.lh469 F ae bC [k29] n tm H=_ at h;unfold aB.lh469 at h;split at h;have e:dP tm [(1,_),(4,_),(5,_),(6,_),(7,_),(8,_),(9,_)]:=⟨‹_›,‹_›,‹_›,‹_›,‹_›,‹_›,‹_›,trivial⟩;cases (show [k29]=_ from ‹_›);obtain _ | k469:=n;cases h;exact ⟨_,rfl,by rw [<- dQ e];exact Eq.trans (by kernel_rfl) h⟩;cases h) λk469=>af.no))))))))))))
theorem aB.eqX (ae:PQ) (bC:PX) (aa:Nat) (ac:Nat) (ai:Int) (H:Hp):EX (bU (aB.cs F ae bC)) cj (aB.lh F ae bC) F Try.f204 [(.ptr aa ac),(.int .i64 ai)] H=aB.twX F ae bC aa ac ai H:=by kernel_rfl
theorem aB.k:Ok Try.prog 204 (mk1 (aB.tw F)):=by
 intro args H v H' h
 unfold mk1 at h
 split at h
 ·exact okT (TB:=cj) Try.func204 (bB (aH.k F) (bB (cv.k F) dr)) (aB.loops F (aH.tw F) (cv.tw F)) ((aB.eqX F (aH.tw F) (cv.tw F) _ _ _ H).trans h) (by kernel_rfl)
 ·cases h
def bZ.l7 (F:Nat) (ae:PQ) :Nat->Int->Int->Nat->Nat->Int->Int->Hp->OA
 | 0,_,_,_,_,_,_,_=>none
 | nO+1,gw,gy,dF,iB,gz,fa,H17=>(bif (decide (fa<gz)) then ((Hp.ldI H17 .i64 dF iB).bind λn32=>(Hp.ldI H17 .i64 dF (iB+1)).bind λn33=>(Hp.ldSl H17 dF (iB+2)).bind λs34=>(ae n32 n33 s34 gw fa H17).bind λr35=>((r35.1).asP).bind λp36=>(if aP H17 r35.2 then ((Hp.ldI r35.2 .i64 dF iB).bind λn37=>(Hp.ldI r35.2 .i64 dF (iB+1)).bind λn38=>(Hp.ldSl r35.2 dF (iB+2)).bind λs39=>(ae n37 n38 s39 gy fa r35.2).bind λr40=>((r40.1).asP).bind λp41=>(Hp.ldI r40.2 .i64 p41.1 p41.2).bind λn42=>(Hp.ldI r40.2 .i64 p36.1 p36.2).bind λn43=>(Hp.st r40.2 p36.1 p36.2 (.int .i64 n42)).bind λH44=>(Hp.st H44 p41.1 p41.2 (.int .i64 n43)).bind λH45=>bZ.l7 F ae nO gw gy dF iB gz (wrap .i64 (fa+1)) H45) else none)) else (some ((.tup []),H17)))
termination_by structural n=>n
def bZ.twX (ae:PQ) (aa:Int) (ac:Int) (a_:Sl) (az:Int) (bR:Int) (H:Hp):OA:=(Hp.new H [(.int .i64 aa),(.int .i64 ac),(.sl a_)]).bind λH6=>(Hp.ldI H6 .i64 H.length 1).bind λn7=>bZ.l7 F ae F az bR H.length 0 n7 0 H6
def bZ.tw:=bZ.twX F (aH.tw F)
def bZ.lh7 (ae:PQ) (ks:PW) (n:Nat) (tm:Tm) (H:Hp):OA:=match ks,tm 1,tm 2,tm 3,tm 10,tm 11 with
 | [],(.int .i64 gw),(.int .i64 gy),(.ptr dF iB),(.int .i64 gz),(.int .i64 fa)=>bZ.l7 F ae n gw gy dF iB gz fa H
 | _,_,_,_,_,_=>none
def bZ.lh (ae:PQ) (p:Nat) (ks:PW) (n:Nat) (tm:Tm) (H:Hp):OA:=bif p.beq 7 then bZ.lh7 F ae ks n tm H else (none)
def bZ.pn:Nat->List Nat:=el [(4,[7]),(5,[9,11])]
def bZ.tb:Nat->List (List Nat):=el [(4,[[],[],[],[0,1,2],[],[],[],[0,1,2,3,4,5,6],[0,1,2,3,4,5,6,7],[0,1,2,3,4,5,6,7,8]]),(5,[[],[],[],[2],[2,3],[],[5],[5,6],[0,2,3,4,5,6,7],[0,2,3,4,5,6,7,8],[0,1,2,3,4,5,6,7,8,9],[0,1,2,3,4,5,6,7,8,9,10]])]
def bZ.cs (F:Nat) (ae:PQ):Cs:=[(75,mk10 ae)]
theorem bZ.loops (ae:PQ):LO (bU (bZ.cs F ae)) bZ.pn (bZ.lh F ae) F Try.f205:=
 (af.rt (af.rt (af.block (af.la (λn tm H r h=>by change bZ.lh7 F ae [] n tm H=_ at h;unfold bZ.lh7 at h;split at h;have e:dP tm [(1,_),(2,_),(3,_),(10,_),(11,_)]:=⟨‹_›,‹_›,‹_›,‹_›,‹_›,trivial⟩;obtain _ | k7:=n;cases h;exact ⟨_,rfl,by rw [<- dQ e];exact Eq.trans (by kernel_rfl) h⟩;cases h) λk7=>af.no))))
theorem bZ.eqX (ae:PQ) (aa:Int) (ac:Int) (a_:Sl) (az:Int) (bR:Int) (H:Hp):EX (bU (bZ.cs F ae)) bZ.pn (bZ.lh F ae) F Try.f205 [(.agg [(.int .i64 aa),(.int .i64 ac),(.sl a_)]),(.int .i64 az),(.int .i64 bR)] H=bZ.twX F ae aa ac a_ az bR H:=by kernel_rfl
theorem bZ.k:Ok Try.prog 205 (mk10 (bZ.tw F)):=by
 intro args H v H' h
 unfold mk10 at h
 split at h
 ·exact okT (TB:=bZ.tb) Try.func205 (bB (aH.k F) dr) (bZ.loops F (aH.tw F)) ((bZ.eqX F (aH.tw F) _ _ _ _ _ H).trans h) (by kernel_rfl)
 ·cases h
def b_.l7 (F:Nat) (ae:PQ) :Nat->Int->Int->Nat->Nat->Int->Int->Hp->OA
 | 0,_,_,_,_,_,_,_=>none
 | nO+1,gw,gy,dF,iB,gz,fa,H17=>(bif (decide (fa<gz)) then ((Hp.ldI H17 .i64 dF iB).bind λn32=>(Hp.ldI H17 .i64 dF (iB+1)).bind λn33=>(Hp.ldSl H17 dF (iB+2)).bind λs34=>(ae n32 n33 s34 fa gw H17).bind λr35=>((r35.1).asP).bind λp36=>(if aP H17 r35.2 then ((Hp.ldI r35.2 .i64 dF iB).bind λn37=>(Hp.ldI r35.2 .i64 dF (iB+1)).bind λn38=>(Hp.ldSl r35.2 dF (iB+2)).bind λs39=>(ae n37 n38 s39 fa gy r35.2).bind λr40=>((r40.1).asP).bind λp41=>(Hp.ldI r40.2 .i64 p41.1 p41.2).bind λn42=>(Hp.ldI r40.2 .i64 p36.1 p36.2).bind λn43=>(Hp.st r40.2 p36.1 p36.2 (.int .i64 n42)).bind λH44=>(Hp.st H44 p41.1 p41.2 (.int .i64 n43)).bind λH45=>b_.l7 F ae nO gw gy dF iB gz (wrap .i64 (fa+1)) H45) else none)) else (some ((.tup []),H17)))
termination_by structural n=>n
def b_.twX (ae:PQ) (aa:Int) (ac:Int) (a_:Sl) (az:Int) (bR:Int) (H:Hp):OA:=(Hp.new H [(.int .i64 aa),(.int .i64 ac),(.sl a_)]).bind λH6=>(Hp.ldI H6 .i64 H.length 0).bind λn7=>b_.l7 F ae F az bR H.length 0 n7 0 H6
def b_.tw:=b_.twX F (aH.tw F)
def b_.lh7 (ae:PQ) (ks:PW) (n:Nat) (tm:Tm) (H:Hp):OA:=match ks,tm 1,tm 2,tm 3,tm 10,tm 11 with
 | [],(.int .i64 gw),(.int .i64 gy),(.ptr dF iB),(.int .i64 gz),(.int .i64 fa)=>b_.l7 F ae n gw gy dF iB gz fa H
 | _,_,_,_,_,_=>none
def b_.lh (ae:PQ) (p:Nat) (ks:PW) (n:Nat) (tm:Tm) (H:Hp):OA:=bif p.beq 7 then b_.lh7 F ae ks n tm H else (none)
def b_.pn:Nat->List Nat:=el [(4,[7]),(5,[9,11])]
def b_.tb:Nat->List (List Nat):=el [(4,[[],[],[],[0,1,2],[],[],[],[0,1,2,3,4,5,6],[0,1,2,3,4,5,6,7],[0,1,2,3,4,5,6,7,8]]),(5,[[],[],[],[2],[2,3],[],[5],[5,6],[0,2,3,4,5,6,7],[0,2,3,4,5,6,7,8],[0,1,2,3,4,5,6,7,8,9],[0,1,2,3,4,5,6,7,8,9,10]])]
def b_.cs (F:Nat) (ae:PQ):Cs:=[(75,mk10 ae)]
theorem b_.loops (ae:PQ):LO (bU (b_.cs F ae)) b_.pn (b_.lh F ae) F Try.f206:=
 (af.rt (af.rt (af.block (af.la (λn tm H r h=>by change b_.lh7 F ae [] n tm H=_ at h;unfold b_.lh7 at h;split at h;have e:dP tm [(1,_),(2,_),(3,_),(10,_),(11,_)]:=⟨‹_›,‹_›,‹_›,‹_›,‹_›,trivial⟩;obtain _ | k7:=n;cases h;exact ⟨_,rfl,by rw [<- dQ e];exact Eq.trans (by kernel_rfl) h⟩;cases h) λk7=>af.no))))
theorem b_.eqX (ae:PQ) (aa:Int) (ac:Int) (a_:Sl) (az:Int) (bR:Int) (H:Hp):EX (bU (b_.cs F ae)) b_.pn (b_.lh F ae) F Try.f206 [(.agg [(.int .i64 aa),(.int .i64 ac),(.sl a_)]),(.int .i64 az),(.int .i64 bR)] H=b_.twX F ae aa ac a_ az bR H:=by kernel_rfl
theorem b_.k:Ok Try.prog 206 (mk10 (b_.tw F)):=by
 intro args H v H' h
 unfold mk10 at h
 split at h
 ·exact okT (TB:=b_.tb) Try.func206 (bB (aH.k F) dr) (b_.loops F (aH.tw F)) ((b_.eqX F (aH.tw F) _ _ _ _ _ H).trans h) (by kernel_rfl)
 ·cases h
def bg.l32747 (F:Nat) (dS:PU) (dK:PQ) (dL:PQ) (ae:PQ) (bc:Qa) :Nat->Nat->Nat->Int->Int->Int->Hp->OA
 | 0,_,_,_,_,_,_=>none
 | I_+1,nU,nV,kR,mA,jL,H159=>(bif (decide (jL<mA)) then ((Hp.ldI H159 .i64 nU (nV+3)).bind λn172=>(Hp.ldI H159 .i64 nU ((nV+3)+1)).bind λn173=>(Hp.ldSl H159 nU ((nV+3)+2)).bind λs174=>(ae n172 n173 s174 jL kR H159).bind λr175=>((r175.1).asP).bind λp176=>(if aP H159 r175.2 then ((Hp.ldI r175.2 .i64 nU (nV+3)).bind λn177=>(Hp.ldI r175.2 .i64 nU ((nV+3)+1)).bind λn178=>(Hp.ldSl r175.2 nU ((nV+3)+2)).bind λs179=>(ae n177 n178 s179 jL kR r175.2).bind λr180=>((r180.1).asP).bind λp181=>(Hp.ldI r180.2 .i64 p181.1 p181.2).bind λn182=>(Hp.st r180.2 p176.1 p176.2 (.int .i64 (wrap .i64 (0 - n182)))).bind λH183=>bg.l32747 F dS dK dL ae bc I_ nU nV kR mA (wrap .i64 (jL+1)) H183) else none)) else (some ((.bool true),H159)))
termination_by structural n=>n
def bg.j3 (dS:PU) (dK:PQ) (dL:PQ) (ae:PQ) (bc:Qa) (DT:Nat) (DU:Nat) (tF:Int) (H142:Hp):OA:=(Hp.ldI H142 .i64 DT (DU+3)).bind λn143=>bg.l32747 F dS dK dL ae bc F DT DU tF n143 0 H142
def bg.j4 (F:Nat) (dS:PU) (dK:PQ) (dL:PQ) (ae:PQ) (bc:Qa) (C32745_:QC) (Ja:Nat) (Jb:Nat) (Jc:Int) (Jd:Sl) (Je:Int) (Jf:Int) (H242:Hp):OA:=C32745_ Ja Jb Jc Jd Je (wrap .i64 (Jf+1)) H242
def bg.j5 (dS:PU) (dK:PQ) (dL:PQ) (ae:PQ) (bc:Qa) (C32745_:QC) (Jg:Nat) (Jh:Nat) (Ji:Int) (Jj:Sl) (Jk:Int) (Jl:Int) (H224:Hp):OA:=bg.j4 F dS dK dL ae bc C32745_ Jg Jh Ji Jj Jk Jl H224
def bg.l2095707 (F:Nat) (dS:PU) (dK:PQ) (dL:PQ) (ae:PQ) (bc:Qa) (C32745_:QC):Nat->Nat->Nat->Int->Sl->Int->Int->Sl->Int->Int->Hp->OA
 | 0,_,_,_,_,_,_,_,_,_,_=>none
 | Jm+1,wQ,wR,wS,wT,wU,wV,uS,wW,tG,H202=>(bif (decide (tG<wW)) then ((Sl.idx uS tG 1).bind λp243=>(Hp.ldI H202 .i64 p243.1 p243.2).bind λn244=>(Sl.idx uS tG 1).bind λp245=>(Hp.st H202 p245.1 p245.2 (.int .i64 (wrap .i64 (0 - n244)))).bind λH246=>bg.l2095707 F dS dK dL ae bc C32745_ Jm wQ wR wS wT wU wV uS wW (wrap .i64 (tG+1)) H246) else (bg.j5 F dS dK dL ae bc C32745_ wQ wR wS wT wU wV H202))
termination_by structural n=>n
def bg.l32745 (F:Nat) (dS:PU) (dK:PQ) (dL:PQ) (ae:PQ) (bc:Qa) :Nat->Nat->Nat->Int->Sl->Int->Int->Hp->OA
 | 0,_,_,_,_,_,_,_=>none
 | zQ+1,mB,mC,gg,wX,wY,uT,H65=>(bif (decide (uT<wY)) then ((Sl.idx wX uT 1).bind λp184=>(Hp.ldSl H65 p184.1 p184.2).bind λs185=>bg.l2095707 F dS dK dL ae bc (bg.l32745 F dS dK dL ae bc zQ) F mB mC gg wX wY uT s185 (s185.n:Int) 0 H65) else (bg.j3 F dS dK dL ae bc mB mC gg H65))
termination_by structural n=>n
def bg.twX (dS:PU) (dK:PQ) (dL:PQ) (ae:PQ) (bc:Qa) (aa:Nat) (ac:Nat) (ai:Int) (H:Hp):OA:=(dS aa ac ai H).bind λr4=>((r4.1).asTup 3).bind λl5=>(l5[0]?).bind λv6=>((v6).asI .i64).bind λn7=>(l5[1]?).bind λv8=>((v8).asI .i64).bind λn9=>(l5[2]?).bind λv10=>((v10).asB).bind λb11=>(bif (!b11) then (some ((.bool false),r4.2)) else ((Hp.ldI r4.2 .i64 aa (ac+6)).bind λn12=>(Hp.ldI r4.2 .i64 aa ((ac+6)+1)).bind λn13=>(Hp.ldSl r4.2 aa ((ac+6)+2)).bind λs14=>(dK n12 n13 s14 n7 ai r4.2).bind λr15=>(Hp.ldI r15.2 .i64 aa ac).bind λn16=>(Hp.ldI r15.2 .i64 aa (ac+1)).bind λn17=>(Hp.ldSl r15.2 aa (ac+2)).bind λs18=>(dK n16 n17 s18 n7 ai r15.2).bind λr19=>(Hp.ldI r19.2 .i64 aa (ac+3)).bind λn20=>(Hp.ldI r19.2 .i64 aa ((ac+3)+1)).bind λn21=>(Hp.ldSl r19.2 aa ((ac+3)+2)).bind λs22=>(dL n20 n21 s22 n7 ai r19.2).bind λr23=>(Hp.ldI r23.2 .i64 aa (ac+6)).bind λn24=>(Hp.ldI r23.2 .i64 aa ((ac+6)+1)).bind λn25=>(Hp.ldSl r23.2 aa ((ac+6)+2)).bind λs26=>(dL n24 n25 s26 n9 ai r23.2).bind λr27=>(Hp.ldI r27.2 .i64 aa (ac+9)).bind λn28=>(Hp.ldI r27.2 .i64 aa ((ac+9)+1)).bind λn29=>(Hp.ldSl r27.2 aa ((ac+9)+2)).bind λs30=>(dL n28 n29 s30 n9 ai r27.2).bind λr31=>(Hp.ldI r31.2 .i64 aa (ac+12)).bind λn32=>(Hp.ldI r31.2 .i64 aa ((ac+12)+1)).bind λn33=>(Hp.ldSl r31.2 aa ((ac+12)+2)).bind λs34=>(dK n32 n33 s34 n9 ai r31.2).bind λr35=>(Hp.ldI r35.2 .i64 aa (ac+6)).bind λn36=>(Hp.ldI r35.2 .i64 aa ((ac+6)+1)).bind λn37=>(Hp.ldSl r35.2 aa ((ac+6)+2)).bind λs38=>(ae n36 n37 s38 ai ai r35.2).bind λr39=>((r39.1).asP).bind λp40=>(Hp.ldI r39.2 .i64 p40.1 p40.2).bind λn41=>(bif (decide (n41<0)) then ((Hp.ldI r39.2 .i64 aa (ac+6)).bind λn42=>(Hp.ldI r39.2 .i64 aa ((ac+6)+1)).bind λn43=>(Hp.ldSl r39.2 aa ((ac+6)+2)).bind λs44=>(bc n42 n43 s44 ai r39.2).bind λr45=>((r45.1).asSl).bind λs46=>(if aP r39.2 r45.2 then ((Hp.ldI r45.2 .i64 aa ac).bind λn47=>(Hp.ldI r45.2 .i64 aa (ac+1)).bind λn48=>(Hp.ldSl r45.2 aa (ac+2)).bind λs49=>(bc n47 n48 s49 ai r45.2).bind λr50=>((r50.1).asSl).bind λs51=>(Hp.new r50.2 [(.sl s46),(.sl s51)]).bind λH52=>bg.l32745 F dS dK dL ae bc F aa ac ai (⟨some (r50.2.length,0),2,.ex 2⟩:Sl) ((⟨some (r50.2.length,0),2,.ex 2⟩:Sl).n:Int) 0 H52) else none)) else (some ((.bool true),r39.2)))))
def bg.tw:=bg.twX F (aB.tw F) (bZ.tw F) (b_.tw F) (aH.tw F) (cM.tw F)
def bg.lh32745 (dS:PU) (dK:PQ) (dL:PQ) (ae:PQ) (bc:Qa) (ks:PW) (n:Nat) (tm:Tm) (H:Hp):OA:=match ks,tm 0,tm 1,tm 94,tm 95,tm 96 with
 | [],(.ptr mB mC),(.int .i64 gg),(.sl wX),(.int .i64 wY),(.int .i64 uT)=>bg.l32745 F dS dK dL ae bc n mB mC gg wX wY uT H
 | _,_,_,_,_,_=>none
def bg.lh32747 (dS:PU) (dK:PQ) (dL:PQ) (ae:PQ) (bc:Qa) (ks:PW) (n:Nat) (tm:Tm) (H:Hp):OA:=match ks,tm 0,tm 1,tm 120,tm 121 with
 | [],(.ptr nU nV),(.int .i64 kR),(.int .i64 mA),(.int .i64 jL)=>bg.l32747 F dS dK dL ae bc n nU nV kR mA jL H
 | _,_,_,_,_=>none
def bg.lh2095707 (dS:PU) (dK:PQ) (dL:PQ) (ae:PQ) (bc:Qa) (ks:PW) (n:Nat) (tm:Tm) (H:Hp):OA:=match ks,tm 0,tm 1,tm 9,tm 94,tm 95,tm 96,tm 101,tm 102 with
 | [zQ],(.ptr wQ wR),(.int .i64 wS),(.sl uS),(.sl wT),(.int .i64 wU),(.int .i64 wV),(.int .i64 wW),(.int .i64 tG)=>bg.l2095707 F dS dK dL ae bc (bg.l32745 F dS dK dL ae bc zQ) n wQ wR wS wT wU wV uS wW tG H
 | _,_,_,_,_,_,_,_,_=>none
def bg.lh (dS:PU) (dK:PQ) (dL:PQ) (ae:PQ) (bc:Qa) (p:Nat) (ks:PW) (n:Nat) (tm:Tm) (H:Hp):OA:=bif p.beq 2095707 then bg.lh2095707 F dS dK dL ae bc ks n tm H else (bif p.beq 32747 then bg.lh32747 F dS dK dL ae bc ks n tm H else (bif p.beq 32745 then bg.lh32745 F dS dK dL ae bc ks n tm H else (none)))
def bg.pn:Nat->List Nat:=el [(11,[13]),(23,[15,20])]
def bg.tb:Nat->List (List Nat):=el [(11,[[],[0],[0,1],[0,1,2],[0,1,2,3],[],[0,1,2,3,4,5],[],[7],[7,8],[7,8,9],[7,8,9,10],[],[0,1,2,3,4,5,6,7,8,9,10,11,12],[0,1,2,3,4,5,6,7,8,9,10,11,12,13],[0,1,2,3,4,5,6,7,8,9,10,11,12,13,14],[]]),(23,[[],[0],[0,1],[0,1,2],[0,1,2,3],[],[],[0,1,2,3,4,5,6],[],[8],[8,9],[8,9,10],[8,9,10,11],[],[],[0,1,2,3,4,5,6,7,8,9,10,11,12,13,14],[0,1,2,3,4,5,6,7,8,9,10,11,12,13,14,15],[0,1,2,3,4,5,6,7,8,9,10,11,12,13,14,15,16],[0,1,2,3,4,5,6,7,8,9,10,11,12,13,14,15,16,17],[0,1,2,3,4,5,6,7,8,9,10,11,12,13,14,15,16,17,18],[0,1,2,3,4,5,6,7,8,9,10,11,12,13,14,15,16,17,18,19]])]
def bg.cs (F:Nat) (dS:PU) (dK:PQ) (dL:PQ) (ae:PQ) (bc:Qa):Cs:=[(204,mk1 dS),(205,mk10 dK),(206,mk10 dL),(75,mk10 ae),(128,mk9 bc)]
theorem bg.loops (dS:PU) (dK:PQ) (dL:PQ) (ae:PQ) (bc:Qa):LO (bU (bg.cs F dS dK dL ae bc)) bg.pn (bg.lh F dS dK dL ae bc) F Try.f173:=
 (af.rt (af.rt (af.rt (af.rt (af.rt (af.rt (af.rt (af.rt (af.rt (af.lt (af.rt (af.cond (af.seq (af.rt (af.block (af.la (λn tm H r h=>by change bg.lh32745 F dS dK dL ae bc [] n tm H=_ at h;unfold bg.lh32745 at h;split at h;have e:dP tm [(0,_),(1,_),(94,_),(95,_),(96,_)]:=⟨‹_›,‹_›,‹_›,‹_›,‹_›,trivial⟩;obtain _ | k32745:=n;cases h;exact ⟨_,rfl,by rw [<- dQ e];exact Eq.trans (by kernel_rfl) h⟩;cases h) λk32745=>(af.rt (af.rt (af.lt (af.block (af.rt (af.rt (af.block (af.la (λn tm H r h=>by change bg.lh2095707 F dS dK dL ae bc [k32745] n tm H=_ at h;unfold bg.lh2095707 at h;split at h;have e:dP tm [(0,_),(1,_),(9,_),(94,_),(95,_),(96,_),(101,_),(102,_)]:=⟨‹_›,‹_›,‹_›,‹_›,‹_›,‹_›,‹_›,‹_›,trivial⟩;cases (show [k32745]=_ from ‹_›);obtain _ | k2095707:=n;cases h;exact ⟨_,rfl,by rw [<- dQ e];exact Eq.trans (by kernel_rfl) h⟩;cases h) λk2095707=>af.no))))))))))) (af.rt (af.block (af.la (λn tm H r h=>by change bg.lh32747 F dS dK dL ae bc [] n tm H=_ at h;unfold bg.lh32747 at h;split at h;have e:dP tm [(0,_),(1,_),(120,_),(121,_)]:=⟨‹_›,‹_›,‹_›,‹_›,trivial⟩;obtain _ | k32747:=n;cases h;exact ⟨_,rfl,by rw [<- dQ e];exact Eq.trans (by kernel_rfl) h⟩;cases h) λk32747=>af.no)))) af.no))))))))))))
theorem bg.eqX (dS:PU) (dK:PQ) (dL:PQ) (ae:PQ) (bc:Qa) (aa:Nat) (ac:Nat) (ai:Int) (H:Hp):EX (bU (bg.cs F dS dK dL ae bc)) bg.pn (bg.lh F dS dK dL ae bc) F Try.f173 [(.ptr aa ac),(.int .i64 ai)] H=bg.twX F dS dK dL ae bc aa ac ai H:=by kernel_rfl
theorem bg.k:Ok Try.prog 173 (mk1 (bg.tw F)):=by
 intro args H v H' h
 unfold mk1 at h
 split at h
 ·exact okT (TB:=bg.tb) Try.func173 (bB (aB.k F) (bB (bZ.k F) (bB (b_.k F) (bB (aH.k F) (bB (cM.k F) dr))))) (bg.loops F (aB.tw F) (bZ.tw F) (b_.tw F) (aH.tw F) (cM.tw F)) ((bg.eqX F (aB.tw F) (bZ.tw F) (b_.tw F) (aH.tw F) (cM.tw F) _ _ _ H).trans h) (by kernel_rfl)
 ·cases h
def fH.twX (F:Nat) (aa:Int) (aF:Int) (H:Hp):OA:=(if aF=0 then none else ((if aF=0 then none else ((bif (decide ((Int.tmod aa aF)<0)) then (some ((.int .i64 (wrap .i64 ((wrap .i64 (Int.tdiv aa aF)) - 1))),H)) else (some ((.int .i64 (wrap .i64 (Int.tdiv aa aF))),H)))))))
def fH.tw:=fH.twX F
theorem fH.k:Ok Try.prog 207 (mk2 (fH.tw F)):=by
 intro args H v H' h
 unfold mk2 at h
 split at h
 ·exact ok0 Try.func207 (Eq.trans (by kernel_rfl) h) (by kernel_rfl) (by kernel_rfl)
 ·cases h
def fj.twX (F:Nat) (bC:PX) (aa:Int) (aF:Int) (eS:Int) (H:Hp):OA:=(bif (aa != 0) then ((bC aF H).bind λr4=>((r4.1).asI .i64).bind λn5=>(bC aa r4.2).bind λr6=>((r6.1).asI .i64).bind λn7=>(if n7=0 then none else ((bif (decide (n5>(wrap .i64 (Int.tdiv eS n7)))) then (some ((.tup [(.int .i64 0),(.bool false)]),r6.2)) else (some ((.tup [(.int .i64 (wrap .i64 (aa * aF))),(.bool true)]),r6.2)))))) else (some ((.tup [(.int .i64 (wrap .i64 (aa * aF))),(.bool true)]),H)))
def fj.tw:=fj.twX F (cv.tw F)
def fj.cs (F:Nat) (bC:PX):Cs:=[(97,mk6 bC)]
theorem fj.eqX (bC:PX) (aa:Int) (aF:Int) (eS:Int) (H:Hp):EX (bU (fj.cs F bC)) cj lh0 F Try.f172 [(.int .i64 aa),(.int .i64 aF),(.int .i64 eS)] H=fj.twX F bC aa aF eS H:=by kernel_rfl
theorem fj.k:Ok Try.prog 172 (mk5 (fj.tw F)):=by
 intro args H v H' h
 unfold mk5 at h
 split at h
 ·exact okT (TB:=cj) Try.func172 (bB (cv.k F) dr) af.no ((fj.eqX F (cv.tw F) _ _ _ H).trans h) (by kernel_rfl)
 ·cases h
def eV.twX (F:Nat) (tH:Qe) (bC:PX) (aa:Nat) (ac:Nat) (ai:Nat) (az:Nat) (bR:Int) (ja:Int) (H:Hp):OA:=(tH bR ja 2000000000000 H).bind λr7=>((r7.1).asTup 2).bind λl8=>(l8[0]?).bind λv9=>((v9).asI .i64).bind λn10=>(l8[1]?).bind λv11=>((v11).asB).bind λb12=>(Hp.ldI r7.2 .i64 ai az).bind λn13=>(Hp.st r7.2 ai az (.int .i64 (wrap .i64 (n13+n10)))).bind λH14=>(bif (!b12) then ((Hp.st H14 aa (ac+15) (.bool true)).bind λH15=>(Hp.st H15 ai az (.int .i64 0)).bind λH16=>some ((.tup []),H16)) else ((Hp.ldI H14 .i64 ai az).bind λn17=>(bC n17 H14).bind λr18=>((r18.1).asI .i64).bind λn19=>(bif (decide (n19>1000000000000)) then ((Hp.st r18.2 aa (ac+15) (.bool true)).bind λH20=>(Hp.st H20 ai az (.int .i64 0)).bind λH21=>some ((.tup []),H21)) else (some ((.tup []),r18.2)))))
def eV.tw:=eV.twX F (fj.tw F) (cv.tw F)
def mk11 (g:Qf) (args:PZ) (H:Hp):OA:=match args with
 | [(.ptr aa ac),(.ptr ai az),(.int .i64 bR),(.int .i64 ja)]=>g aa ac ai az bR ja H
 | _=>none
theorem mk11_E (g:Qf) (aa:Nat) (ac:Nat) (ai:Nat) (az:Nat) (bR:Int) (ja:Int) (H:Hp):mk11 g [(.ptr aa ac),(.ptr ai az),(.int .i64 bR),(.int .i64 ja)] H=g aa ac ai az bR ja H:=rfl
def eV.cs (F:Nat) (tH:Qe) (bC:PX):Cs:=[(172,mk5 tH),(97,mk6 bC)]
theorem eV.eqX (tH:Qe) (bC:PX) (aa:Nat) (ac:Nat) (ai:Nat) (az:Nat) (bR:Int) (ja:Int) (H:Hp):EX (bU (eV.cs F tH bC)) cj lh0 F Try.f217 [(.ptr aa ac),(.ptr ai az),(.int .i64 bR),(.int .i64 ja)] H=eV.twX F tH bC aa ac ai az bR ja H:=by kernel_rfl
theorem eV.k:Ok Try.prog 217 (mk11 (eV.tw F)):=by
 intro args H v H' h
 unfold mk11 at h
 split at h
 ·exact okT (TB:=cj) Try.func217 (bB (fj.k F) (bB (cv.k F) dr)) af.no ((eV.eqX F (fj.tw F) (cv.tw F) _ _ _ _ _ _ H).trans h) (by kernel_rfl)
 ·cases h
def bX.l7 (F:Nat) (ae:PQ) (dV:Qf) :Nat->Nat->Nat->Int->Int->Int->Nat->Nat->Int->Int->Hp->OA
 | 0,_,_,_,_,_,_,_,_,_,_=>none
 | nO+1,iJ,iK,dJ,eP,fK,fL,iC,fM,en,H23=>(bif (decide (en<fM)) then ((Hp.ldI H23 .i64 fL iC).bind λn36=>(Hp.ldI H23 .i64 fL (iC+1)).bind λn37=>(Hp.ldSl H23 fL (iC+2)).bind λs38=>(ae n36 n37 s38 dJ en H23).bind λr39=>((r39.1).asP).bind λp40=>(if aP H23 r39.2 then ((Hp.ldI r39.2 .i64 fL iC).bind λn41=>(Hp.ldI r39.2 .i64 fL (iC+1)).bind λn42=>(Hp.ldSl r39.2 fL (iC+2)).bind λs43=>(ae n41 n42 s43 eP en r39.2).bind λr44=>((r44.1).asP).bind λp45=>(Hp.ldI r44.2 .i64 p45.1 p45.2).bind λn46=>(dV iJ iK p40.1 p40.2 n46 fK r44.2).bind λr47=>bX.l7 F ae dV nO iJ iK dJ eP fK fL iC fM (wrap .i64 (en+1)) r47.2) else none)) else (some ((.tup []),H23)))
termination_by structural n=>n
def bX.twX (ae:PQ) (dV:Qf) (aa:Nat) (ac:Nat) (ai:Int) (az:Int) (eL:Sl) (fk:Int) (fl:Int) (fb:Int) (H:Hp):OA:=(Hp.new H [(.int .i64 ai),(.int .i64 az),(.sl eL)]).bind λH9=>(Hp.ldI H9 .i64 H.length 1).bind λn10=>bX.l7 F ae dV F aa ac fk fl fb H.length 0 n10 0 H9
def bX.tw:=bX.twX F (aH.tw F) (eV.tw F)
def bX.lh7 (ae:PQ) (dV:Qf) (ks:PW) (n:Nat) (tm:Tm) (H:Hp):OA:=match ks,tm 0,tm 2,tm 3,tm 4,tm 6,tm 12,tm 13 with
 | [],(.ptr iJ iK),(.int .i64 dJ),(.int .i64 eP),(.int .i64 fK),(.ptr fL iC),(.int .i64 fM),(.int .i64 en)=>bX.l7 F ae dV n iJ iK dJ eP fK fL iC fM en H
 | _,_,_,_,_,_,_,_=>none
def bX.lh (ae:PQ) (dV:Qf) (p:Nat) (ks:PW) (n:Nat) (tm:Tm) (H:Hp):OA:=bif p.beq 7 then bX.lh7 F ae dV ks n tm H else (none)
def bX.pn:Nat->List Nat:=el [(4,[8,12])]
def bX.tb:Nat->List (List Nat):=el [(4,[[],[],[],[],[1,2,3],[],[],[],[1,2,3,4,5,6,7],[1,2,3,4,5,6,7,8],[1,2,3,4,5,6,7,8,9],[],[0,1,2,3,4,5,6,7,8,9,10,11]])]
def mk12 (g:Ql) (args:PZ) (H:Hp):OA:=match args with
 | [(.ptr aa ac),(.agg [(.int .i64 ai),(.int .i64 az),(.sl eL)]),(.int .i64 fk),(.int .i64 fl),(.int .i64 fb)]=>g aa ac ai az eL fk fl fb H
 | _=>none
theorem mk12_E (g:Ql) (aa:Nat) (ac:Nat) (ai:Int) (az:Int) (eL:Sl) (fk:Int) (fl:Int) (fb:Int) (H:Hp):mk12 g [(.ptr aa ac),(.agg [(.int .i64 ai),(.int .i64 az),(.sl eL)]),(.int .i64 fk),(.int .i64 fl),(.int .i64 fb)] H=g aa ac ai az eL fk fl fb H:=rfl
def bX.cs (F:Nat) (ae:PQ) (dV:Qf):Cs:=[(75,mk10 ae),(217,mk11 dV)]
theorem bX.loops (ae:PQ) (dV:Qf):LO (bU (bX.cs F ae dV)) bX.pn (bX.lh F ae dV) F Try.f211:=
 (af.rt (af.rt (af.block (af.la (λn tm H r h=>by change bX.lh7 F ae dV [] n tm H=_ at h;unfold bX.lh7 at h;split at h;have e:dP tm [(0,_),(2,_),(3,_),(4,_),(6,_),(12,_),(13,_)]:=⟨‹_›,‹_›,‹_›,‹_›,‹_›,‹_›,‹_›,trivial⟩;obtain _ | k7:=n;cases h;exact ⟨_,rfl,by rw [<- dQ e];exact Eq.trans (by kernel_rfl) h⟩;cases h) λk7=>af.no))))
theorem bX.eqX (ae:PQ) (dV:Qf) (aa:Nat) (ac:Nat) (ai:Int) (az:Int) (eL:Sl) (fk:Int) (fl:Int) (fb:Int) (H:Hp):EX (bU (bX.cs F ae dV)) bX.pn (bX.lh F ae dV) F Try.f211 [(.ptr aa ac),(.agg [(.int .i64 ai),(.int .i64 az),(.sl eL)]),(.int .i64 fk),(.int .i64 fl),(.int .i64 fb)] H=bX.twX F ae dV aa ac ai az eL fk fl fb H:=by kernel_rfl
theorem bX.k:Ok Try.prog 211 (mk12 (bX.tw F)):=by
 intro args H v H' h
 unfold mk12 at h
 split at h
 ·exact okT (TB:=bX.tb) Try.func211 (bB (aH.k F) (bB (eV.k F) dr)) (bX.loops F (aH.tw F) (eV.tw F)) ((bX.eqX F (aH.tw F) (eV.tw F) _ _ _ _ _ _ _ _ H).trans h) (by kernel_rfl)
 ·cases h
def bY.l7 (F:Nat) (ae:PQ) (dV:Qf) :Nat->Nat->Nat->Int->Int->Int->Nat->Nat->Int->Int->Hp->OA
 | 0,_,_,_,_,_,_,_,_,_,_=>none
 | nO+1,iJ,iK,dJ,eP,fK,fL,iC,fM,en,H23=>(bif (decide (en<fM)) then ((Hp.ldI H23 .i64 fL iC).bind λn36=>(Hp.ldI H23 .i64 fL (iC+1)).bind λn37=>(Hp.ldSl H23 fL (iC+2)).bind λs38=>(ae n36 n37 s38 en dJ H23).bind λr39=>((r39.1).asP).bind λp40=>(if aP H23 r39.2 then ((Hp.ldI r39.2 .i64 fL iC).bind λn41=>(Hp.ldI r39.2 .i64 fL (iC+1)).bind λn42=>(Hp.ldSl r39.2 fL (iC+2)).bind λs43=>(ae n41 n42 s43 en eP r39.2).bind λr44=>((r44.1).asP).bind λp45=>(Hp.ldI r44.2 .i64 p45.1 p45.2).bind λn46=>(dV iJ iK p40.1 p40.2 n46 fK r44.2).bind λr47=>bY.l7 F ae dV nO iJ iK dJ eP fK fL iC fM (wrap .i64 (en+1)) r47.2) else none)) else (some ((.tup []),H23)))
termination_by structural n=>n
def bY.twX (ae:PQ) (dV:Qf) (aa:Nat) (ac:Nat) (ai:Int) (az:Int) (eL:Sl) (fk:Int) (fl:Int) (fb:Int) (H:Hp):OA:=(Hp.new H [(.int .i64 ai),(.int .i64 az),(.sl eL)]).bind λH9=>(Hp.ldI H9 .i64 H.length 0).bind λn10=>bY.l7 F ae dV F aa ac fk fl fb H.length 0 n10 0 H9
def bY.tw:=bY.twX F (aH.tw F) (eV.tw F)
def bY.lh7 (ae:PQ) (dV:Qf) (ks:PW) (n:Nat) (tm:Tm) (H:Hp):OA:=match ks,tm 0,tm 2,tm 3,tm 4,tm 6,tm 12,tm 13 with
 | [],(.ptr iJ iK),(.int .i64 dJ),(.int .i64 eP),(.int .i64 fK),(.ptr fL iC),(.int .i64 fM),(.int .i64 en)=>bY.l7 F ae dV n iJ iK dJ eP fK fL iC fM en H
 | _,_,_,_,_,_,_,_=>none
def bY.lh (ae:PQ) (dV:Qf) (p:Nat) (ks:PW) (n:Nat) (tm:Tm) (H:Hp):OA:=bif p.beq 7 then bY.lh7 F ae dV ks n tm H else (none)
def bY.pn:Nat->List Nat:=el [(4,[8,12])]
def bY.tb:Nat->List (List Nat):=el [(4,[[],[],[],[],[1,2,3],[],[],[],[1,2,3,4,5,6,7],[1,2,3,4,5,6,7,8],[1,2,3,4,5,6,7,8,9],[],[0,1,2,3,4,5,6,7,8,9,10,11]])]
def bY.cs (F:Nat) (ae:PQ) (dV:Qf):Cs:=[(75,mk10 ae),(217,mk11 dV)]
theorem bY.loops (ae:PQ) (dV:Qf):LO (bU (bY.cs F ae dV)) bY.pn (bY.lh F ae dV) F Try.f212:=
 (af.rt (af.rt (af.block (af.la (λn tm H r h=>by change bY.lh7 F ae dV [] n tm H=_ at h;unfold bY.lh7 at h;split at h;have e:dP tm [(0,_),(2,_),(3,_),(4,_),(6,_),(12,_),(13,_)]:=⟨‹_›,‹_›,‹_›,‹_›,‹_›,‹_›,‹_›,trivial⟩;obtain _ | k7:=n;cases h;exact ⟨_,rfl,by rw [<- dQ e];exact Eq.trans (by kernel_rfl) h⟩;cases h) λk7=>af.no))))
theorem bY.eqX (ae:PQ) (dV:Qf) (aa:Nat) (ac:Nat) (ai:Int) (az:Int) (eL:Sl) (fk:Int) (fl:Int) (fb:Int) (H:Hp):EX (bU (bY.cs F ae dV)) bY.pn (bY.lh F ae dV) F Try.f212 [(.ptr aa ac),(.agg [(.int .i64 ai),(.int .i64 az),(.sl eL)]),(.int .i64 fk),(.int .i64 fl),(.int .i64 fb)] H=bY.twX F ae dV aa ac ai az eL fk fl fb H:=by kernel_rfl
theorem bY.k:Ok Try.prog 212 (mk12 (bY.tw F)):=by
 intro args H v H' h
 unfold mk12 at h
 split at h
 ·exact okT (TB:=bY.tb) Try.func212 (bB (aH.k F) (bB (eV.k F) dr)) (bY.loops F (aH.tw F) (eV.tw F)) ((bY.eqX F (aH.tw F) (eV.tw F) _ _ _ _ _ _ _ _ H).trans h) (by kernel_rfl)
 ·cases h
def dG.twX (F:Nat) (ki:Ql) (kj:Ql) (aa:Nat) (ac:Nat) (ai:Int) (bV:Int) (dH:Int) (H:Hp):OA:=(Hp.ldI H .i64 aa (ac+6)).bind λn6=>(Hp.ldI H .i64 aa ((ac+6)+1)).bind λn7=>(Hp.ldSl H aa ((ac+6)+2)).bind λs8=>(ki aa ac n6 n7 s8 ai bV dH H).bind λr9=>(Hp.ldI r9.2 .i64 aa ac).bind λn10=>(Hp.ldI r9.2 .i64 aa (ac+1)).bind λn11=>(Hp.ldSl r9.2 aa (ac+2)).bind λs12=>(ki aa ac n10 n11 s12 ai bV dH r9.2).bind λr13=>(Hp.ldI r13.2 .i64 aa (ac+3)).bind λn14=>(Hp.ldI r13.2 .i64 aa ((ac+3)+1)).bind λn15=>(Hp.ldSl r13.2 aa ((ac+3)+2)).bind λs16=>(kj aa ac n14 n15 s16 bV ai (wrap .i64 (0 - dH)) r13.2).bind λr17=>some ((.tup []),r17.2)
def dG.tw:=dG.twX F (bX.tw F) (bY.tw F)
def mk13 (g:P_) (args:PZ) (H:Hp):OA:=match args with
 | [(.ptr aa ac),(.int .i64 ai),(.int .i64 bV),(.int .i64 dH)]=>g aa ac ai bV dH H
 | _=>none
theorem mk13_E (g:P_) (aa:Nat) (ac:Nat) (ai:Int) (bV:Int) (dH:Int) (H:Hp):mk13 g [(.ptr aa ac),(.int .i64 ai),(.int .i64 bV),(.int .i64 dH)] H=g aa ac ai bV dH H:=rfl
def dG.cs (F:Nat) (ki:Ql) (kj:Ql):Cs:=[(211,mk12 ki),(212,mk12 kj)]
theorem dG.eqX (ki:Ql) (kj:Ql) (aa:Nat) (ac:Nat) (ai:Int) (bV:Int) (dH:Int) (H:Hp):EX (bU (dG.cs F ki kj)) cj lh0 F Try.f177 [(.ptr aa ac),(.int .i64 ai),(.int .i64 bV),(.int .i64 dH)] H=dG.twX F ki kj aa ac ai bV dH H:=by kernel_rfl
theorem dG.k:Ok Try.prog 177 (mk13 (dG.tw F)):=by
 intro args H v H' h
 unfold mk13 at h
 split at h
 ·exact okT (TB:=cj) Try.func177 (bB (bX.k F) (bB (bY.k F) dr)) af.no ((dG.eqX F (bX.tw F) (bY.tw F) _ _ _ _ _ H).trans h) (by kernel_rfl)
 ·cases h
def fc.twX (F:Nat) (kj:Ql) (ki:Ql) (aa:Nat) (ac:Nat) (ai:Int) (bV:Int) (dH:Int) (H:Hp):OA:=(Hp.ldI H .i64 aa (ac+6)).bind λn6=>(Hp.ldI H .i64 aa ((ac+6)+1)).bind λn7=>(Hp.ldSl H aa ((ac+6)+2)).bind λs8=>(kj aa ac n6 n7 s8 ai bV dH H).bind λr9=>(Hp.ldI r9.2 .i64 aa (ac+9)).bind λn10=>(Hp.ldI r9.2 .i64 aa ((ac+9)+1)).bind λn11=>(Hp.ldSl r9.2 aa ((ac+9)+2)).bind λs12=>(kj aa ac n10 n11 s12 ai bV dH r9.2).bind λr13=>(Hp.ldI r13.2 .i64 aa (ac+12)).bind λn14=>(Hp.ldI r13.2 .i64 aa ((ac+12)+1)).bind λn15=>(Hp.ldSl r13.2 aa ((ac+12)+2)).bind λs16=>(ki aa ac n14 n15 s16 bV ai (wrap .i64 (0 - dH)) r13.2).bind λr17=>some ((.tup []),r17.2)
def fc.tw:=fc.twX F (bY.tw F) (bX.tw F)
def fc.cs (F:Nat) (kj:Ql) (ki:Ql):Cs:=[(212,mk12 kj),(211,mk12 ki)]
theorem fc.eqX (kj:Ql) (ki:Ql) (aa:Nat) (ac:Nat) (ai:Int) (bV:Int) (dH:Int) (H:Hp):EX (bU (fc.cs F kj ki)) cj lh0 F Try.f208 [(.ptr aa ac),(.int .i64 ai),(.int .i64 bV),(.int .i64 dH)] H=fc.twX F kj ki aa ac ai bV dH H:=by kernel_rfl
theorem fc.k:Ok Try.prog 208 (mk13 (fc.tw F)):=by
 intro args H v H' h
 unfold mk13 at h
 split at h
 ·exact okT (TB:=cj) Try.func208 (bB (bY.k F) (bB (bX.k F) dr)) af.no ((fc.eqX F (bY.tw F) (bX.tw F) _ _ _ _ _ H).trans h) (by kernel_rfl)
 ·cases h
def aA.j3 (F:Nat) (ae:PQ) (dW:Qb) (ck:P_) (dY:P_) (C15_:QD) (Jn:Nat) (Jo:Nat) (tI:Int) (wZ:Nat) (Jp:Nat) (tJ:Int) (H119:Hp):OA:=C15_ Jn Jo tI wZ Jp (wrap .i64 (tJ+1)) H119
def aA.l15 (F:Nat) (ae:PQ) (dW:Qb) (ck:P_) (dY:P_) :Nat->Nat->Nat->Int->Nat->Nat->Int->Hp->OA
 | 0,_,_,_,_,_,_,_=>none
 | DV+1,mB,mC,gg,jM,mD,jb,H61=>(Hp.ldI H61 .i64 jM (mD+1)).bind λn91=>(bif (decide (jb<n91)) then ((Hp.ldB H61 mB (mC+15)).bind λb92=>(bif (!b92) then ((Hp.ldI H61 .i64 jM mD).bind λn93=>(Hp.ldI H61 .i64 jM (mD+1)).bind λn94=>(Hp.ldSl H61 jM (mD+2)).bind λs95=>(ae n93 n94 s95 gg jb H61).bind λr96=>((r96.1).asP).bind λp97=>(if aP H61 r96.2 then ((Hp.ldI r96.2 .i64 p97.1 p97.2).bind λn98=>(Hp.ldI r96.2 .i64 jM mD).bind λn99=>(Hp.ldI r96.2 .i64 jM (mD+1)).bind λn100=>(Hp.ldSl r96.2 jM (mD+2)).bind λs101=>(ae n99 n100 s101 gg gg r96.2).bind λr102=>((r102.1).asP).bind λp103=>(if aP r96.2 r102.2 then ((Hp.ldI r102.2 .i64 p103.1 p103.2).bind λn104=>(dW n98 n104 r102.2).bind λr105=>((r105.1).asI .i64).bind λn106=>(bif (n106 != 0) then ((dY mB mC jb gg (wrap .i64 (0 - n106)) r105.2).bind λr107=>aA.j3 F ae dW ck dY (aA.l15 F ae dW ck dY DV) mB mC gg jM mD jb r107.2) else (aA.j3 F ae dW ck dY (aA.l15 F ae dW ck dY DV) mB mC gg jM mD jb r105.2))) else none)) else none)) else (some ((.tup []),H61)))) else (some ((.tup []),H61)))
termination_by structural n=>n
def aA.j4 (ae:PQ) (dW:Qb) (ck:P_) (dY:P_) (Jq:Nat) (Jr:Nat) (oY:Int) (w_:Nat) (Js:Nat) (H52:Hp):OA:=aA.l15 F ae dW ck dY F Jq Jr oY w_ Js (wrap .i64 (oY+1)) H52
def aA.j5 (F:Nat) (ae:PQ) (dW:Qb) (ck:P_) (dY:P_) (C13_:QD) (Jt:Nat) (Ju:Nat) (tK:Int) (xa:Nat) (zR:Nat) (tL:Int) (H146:Hp):OA:=C13_ Jt Ju tK xa zR (wrap .i64 (tL+1)) H146
def aA.l13 (F:Nat) (ae:PQ) (dW:Qb) (ck:P_) (dY:P_) :Nat->Nat->Nat->Int->Nat->Nat->Int->Hp->OA
 | 0,_,_,_,_,_,_,_=>none
 | oE+1,iJ,iK,cQ,fu,kS,fV,H17=>(Hp.ldI H17 .i64 fu kS).bind λn120=>(bif (decide (fV<n120)) then ((Hp.ldB H17 iJ (iK+15)).bind λb121=>(bif (!b121) then ((Hp.ldI H17 .i64 fu kS).bind λn122=>(Hp.ldI H17 .i64 fu (kS+1)).bind λn123=>(Hp.ldSl H17 fu (kS+2)).bind λs124=>(ae n122 n123 s124 fV cQ H17).bind λr125=>((r125.1).asP).bind λp126=>(if aP H17 r125.2 then ((Hp.ldI r125.2 .i64 p126.1 p126.2).bind λn127=>(Hp.ldI r125.2 .i64 fu kS).bind λn128=>(Hp.ldI r125.2 .i64 fu (kS+1)).bind λn129=>(Hp.ldSl r125.2 fu (kS+2)).bind λs130=>(ae n128 n129 s130 cQ cQ r125.2).bind λr131=>((r131.1).asP).bind λp132=>(if aP r125.2 r131.2 then ((Hp.ldI r131.2 .i64 p132.1 p132.2).bind λn133=>(dW n127 n133 r131.2).bind λr134=>((r134.1).asI .i64).bind λn135=>(bif (n135 != 0) then ((ck iJ iK fV cQ (wrap .i64 (0 - n135)) r134.2).bind λr136=>aA.j5 F ae dW ck dY (aA.l13 F ae dW ck dY oE) iJ iK cQ fu kS fV r136.2) else (aA.j5 F ae dW ck dY (aA.l13 F ae dW ck dY oE) iJ iK cQ fu kS fV r134.2))) else none)) else none)) else (aA.j4 F ae dW ck dY iJ iK cQ fu kS H17))) else (aA.j4 F ae dW ck dY iJ iK cQ fu kS H17))
termination_by structural n=>n
def aA.twX (ae:PQ) (dW:Qb) (ck:P_) (dY:P_) (aa:Nat) (ac:Nat) (ai:Int) (H:Hp):OA:=(Hp.ldI H .i64 aa (ac+6)).bind λn4=>(Hp.ldI H .i64 aa ((ac+6)+1)).bind λn5=>(Hp.ldSl H aa ((ac+6)+2)).bind λs6=>(Hp.new H [.int .i64 0,.int .i64 0,.sl ⟨none,0,.ex 0⟩]).bind λH7=>(Hp.st H7 H.length 0 (.int .i64 n4)).bind λH8=>(Hp.st H8 H.length (0+1) (.int .i64 n5)).bind λH9=>(Hp.st H9 H.length (0+1+1) (.sl s6)).bind λH10=>aA.l13 F ae dW ck dY F aa ac ai H.length 0 (wrap .i64 (ai+1)) H10
def aA.tw:=aA.twX F (aH.tw F) (fH.tw F) (dG.tw F) (fc.tw F)
def aA.lh13 (ae:PQ) (dW:Qb) (ck:P_) (dY:P_) (ks:PW) (n:Nat) (tm:Tm) (H:Hp):OA:=match ks,tm 0,tm 1,tm 4,tm 5 with
 | [],(.ptr iJ iK),(.int .i64 cQ),(.ptr fu kS),(.int .i64 fV)=>aA.l13 F ae dW ck dY n iJ iK cQ fu kS fV H
 | _,_,_,_,_=>none
def aA.lh15 (ae:PQ) (dW:Qb) (ck:P_) (dY:P_) (ks:PW) (n:Nat) (tm:Tm) (H:Hp):OA:=match ks,tm 0,tm 1,tm 4,tm 7 with
 | [],(.ptr mB mC),(.int .i64 gg),(.ptr jM mD),(.int .i64 jb)=>aA.l15 F ae dW ck dY n mB mC gg jM mD jb H
 | _,_,_,_,_=>none
def aA.lh (ae:PQ) (dW:Qb) (ck:P_) (dY:P_) (p:Nat) (ks:PW) (n:Nat) (tm:Tm) (H:Hp):OA:=bif p.beq 15 then aA.lh15 F ae dW ck dY ks n tm H else (bif p.beq 13 then aA.lh13 F ae dW ck dY ks n tm H else (none))
def aA.pn:Nat->List Nat:=el [(4,[12]),(10,[12])]
def aA.tb:Nat->List (List Nat):=el [(4,[[],[],[],[0,1,2],[0,1,2,3],[0,1,2,3,4],[],[],[],[0,1,2,3,6,7,8],[0,1,2,3,6,7,8,9],[0,1,2,3,6,7,8,9,10],[0,1,2,3,4,5,6,7,8,9,10,11],[0,1,2,3,4,5,6,7,8,9,10,11,12]]),(10,[[],[],[],[0,1,2],[0,1,2,3],[0,1,2,3,4],[],[],[],[0,1,2,3,6,7,8],[0,1,2,3,6,7,8,9],[0,1,2,3,6,7,8,9,10],[0,1,2,3,4,5,6,7,8,9,10,11],[0,1,2,3,4,5,6,7,8,9,10,11,12]])]
def aA.cs (F:Nat) (ae:PQ) (dW:Qb) (ck:P_) (dY:P_):Cs:=[(75,mk10 ae),(207,mk2 dW),(177,mk13 ck),(208,mk13 dY)]
theorem aA.loops (ae:PQ) (dW:Qb) (ck:P_) (dY:P_):LO (bU (aA.cs F ae dW ck dY)) aA.pn (aA.lh F ae dW ck dY) F Try.f174:=
 (af.rt (af.seq (af.rt (af.block (af.la (λn tm H r h=>by change aA.lh13 F ae dW ck dY [] n tm H=_ at h;unfold aA.lh13 at h;split at h;have e:dP tm [(0,_),(1,_),(4,_),(5,_)]:=⟨‹_›,‹_›,‹_›,‹_›,trivial⟩;obtain _ | k13:=n;cases h;exact ⟨_,rfl,by rw [<- dQ e];exact Eq.trans (by kernel_rfl) h⟩;cases h) λk13=>af.no))) (af.rt (af.block (af.la (λn tm H r h=>by change aA.lh15 F ae dW ck dY [] n tm H=_ at h;unfold aA.lh15 at h;split at h;have e:dP tm [(0,_),(1,_),(4,_),(7,_)]:=⟨‹_›,‹_›,‹_›,‹_›,trivial⟩;obtain _ | k15:=n;cases h;exact ⟨_,rfl,by rw [<- dQ e];exact Eq.trans (by kernel_rfl) h⟩;cases h) λk15=>af.no)))))
theorem aA.eqX (ae:PQ) (dW:Qb) (ck:P_) (dY:P_) (aa:Nat) (ac:Nat) (ai:Int) (H:Hp):EX (bU (aA.cs F ae dW ck dY)) aA.pn (aA.lh F ae dW ck dY) F Try.f174 [(.ptr aa ac),(.int .i64 ai)] H=aA.twX F ae dW ck dY aa ac ai H:=by kernel_rfl
theorem aA.k:Ok Try.prog 174 (mk1 (aA.tw F)):=by
 intro args H v H' h
 unfold mk1 at h
 split at h
 ·exact okT (TB:=aA.tb) Try.func174 (bB (aH.k F) (bB (fH.k F) (bB (dG.k F) (bB (fc.k F) dr)))) (aA.loops F (aH.tw F) (fH.tw F) (dG.tw F) (fc.tw F)) ((aA.eqX F (aH.tw F) (fH.tw F) (dG.tw F) (fc.tw F) _ _ _ H).trans h) (by kernel_rfl)
 ·cases h
def hO.twX (F:Nat) (aa:Int) (H:Hp):OA:=some ((.bool (aa != 0)),H)
def hO.tw:=hO.twX F
theorem hO.k:Ok Try.prog 209 (mk6 (hO.tw F)):=by
 intro args H v H' h
 unfold mk6 at h
 split at h
 ·exact ok0 Try.func209 (Eq.trans (by kernel_rfl) h) (by kernel_rfl) (by kernel_rfl)
 ·cases h
def cJ.l13 (F:Nat) (iL:PX) :Nat->Sl->Int->Int->Hp->OA
 | 0,_,_,_,_=>none
 | oE+1,nJ,gq,eZ,H6=>(bif (decide (eZ<gq)) then ((Sl.idx nJ eZ 1).bind λp11=>(Hp.ldI H6 .i64 p11.1 p11.2).bind λn12=>(iL n12 H6).bind λr13=>((r13.1).asB).bind λb14=>(bif b14 then (some ((.int .i64 eZ),r13.2)) else (cJ.l13 F iL oE nJ gq (wrap .i64 (eZ+1)) r13.2))) else (some ((.int .i64 (-1)),H6)))
def cJ.twX (iL:PX) (aa:Sl) (H:Hp):OA:=cJ.l13 F iL F aa (aa.n:Int) 0 H
def cJ.tw:=cJ.twX F (hO.tw F)
def cJ.lh13 (iL:PX) (ks:PW) (n:Nat) (tm:Tm) (H:Hp):OA:=match ks,tm 0,tm 1,tm 7,tm 8 with
 | [],(.sl nJ),(.fn 209 []),(.int .i64 gq),(.int .i64 eZ)=>cJ.l13 F iL n nJ gq eZ H
 | _,_,_,_,_=>none
def cJ.lh (iL:PX) (p:Nat) (ks:PW) (n:Nat) (tm:Tm) (H:Hp):OA:=bif p.beq 13 then cJ.lh13 F iL ks n tm H else (none)
def mk14 (g:PY) (args:PZ) (H:Hp):OA:=match args with
 | [(.sl aa),(.fn 209 [])]=>g aa H
 | _=>none
theorem mk14_E (g:PY) (aa:Sl) (H:Hp):mk14 g [(.sl aa),(.fn 209 [])] H=g aa H:=rfl
def cJ.cs (F:Nat) (iL:PX):Cs:=[(209,mk6 iL)]
theorem cJ.loops (iL:PX):LO (bU (cJ.cs F iL)) cj (cJ.lh F iL) F Try.f122:=
 (af.rt (af.lt (af.rt (af.block (af.la (λn tm H r h=>by change cJ.lh13 F iL [] n tm H=_ at h;unfold cJ.lh13 at h;split at h;have e:dP tm [(0,_),(1,_),(7,_),(8,_)]:=⟨‹_›,‹_›,‹_›,‹_›,trivial⟩;obtain _ | k13:=n;cases h;exact ⟨_,rfl,by rw [<- dQ e];exact Eq.trans (by kernel_rfl) h⟩;cases h) λk13=>af.no)))))
theorem cJ.eqX (iL:PX) (aa:Sl) (H:Hp):EX (bU (cJ.cs F iL)) cj (cJ.lh F iL) F Try.f122 [(.sl aa),(.fn 209 [])] H=cJ.twX F iL aa H:=by kernel_rfl
theorem cJ.k:Ok Try.prog 122 (mk14 (cJ.tw F)):=by
 intro args H v H' h
 unfold mk14 at h
 split at h
 ·exact okT (TB:=cj) Try.func122 (bB (hO.k F) dr) (cJ.loops F (hO.tw F)) ((cJ.eqX F (hO.tw F) _ H).trans h) (by kernel_rfl)
 ·cases h
def fN.twX (F:Nat) (tM:PY) (aa:Sl) (H:Hp):OA:=(tM aa H).bind λr2=>((r2.1).asI .i64).bind λn3=>some ((.bool (decide (n3>=0))),r2.2)
def fN.tw:=fN.twX F (cJ.tw F)
def fN.cs (F:Nat) (tM:PY):Cs:=[(122,mk14 tM)]
theorem fN.eqX (tM:PY) (aa:Sl) (H:Hp):EX (bU (fN.cs F tM)) cj lh0 F Try.f65 [(.sl aa),(.fn 209 [])] H=fN.twX F tM aa H:=by kernel_rfl
theorem fN.k:Ok Try.prog 65 (mk14 (fN.tw F)):=by
 intro args H v H' h
 unfold mk14 at h
 split at h
 ·exact okT (TB:=cj) Try.func65 (bB (cJ.k F) dr) af.no ((fN.eqX F (cJ.tw F) _ H).trans h) (by kernel_rfl)
 ·cases h
def bW.j1 (F:Nat) (ae:PQ) (bc:Qa) (im:PY) (oZ:Int) (tN:Nat) (zS:Nat) (H34:Hp):OA:=(Hp.ldI H34 .i64 tN zS).bind λn35=>(Hp.ldI H34 .i64 tN (zS+1)).bind λn36=>(Hp.ldSl H34 tN (zS+2)).bind λs37=>(bc n35 n36 s37 oZ H34).bind λr38=>((r38.1).asSl).bind λs39=>(Sl.cut s39 1 (wrap .i64 (oZ+1)) (s39.n:Int)).bind λs40=>(im s40 r38.2).bind λr41=>((r41.1).asB).bind λb42=>some ((.bool (!b42)),r41.2)
def bW.l29 (F:Nat) (ae:PQ) (bc:Qa) (im:PY) :Nat->Int->Nat->Nat->Int->Hp->OA
 | 0,_,_,_,_,_=>none
 | eR+1,cQ,gf,fV,kT,H18=>(Hp.ldI H18 .i64 gf fV).bind λn43=>(bif (decide (kT<n43)) then ((Hp.ldI H18 .i64 gf fV).bind λn44=>(Hp.ldI H18 .i64 gf (fV+1)).bind λn45=>(Hp.ldSl H18 gf (fV+2)).bind λs46=>(ae n44 n45 s46 kT cQ H18).bind λr47=>((r47.1).asP).bind λp48=>(Hp.ldI r47.2 .i64 p48.1 p48.2).bind λn49=>(bif (n49 != 0) then (some ((.bool false),r47.2)) else (bW.l29 F ae bc im eR cQ gf fV (wrap .i64 (kT+1)) r47.2))) else (bW.j1 F ae bc im cQ gf fV H18))
termination_by structural n=>n
def bW.twX (ae:PQ) (bc:Qa) (im:PY) (aa:Nat) (ac:Nat) (ai:Int) (H:Hp):OA:=(Hp.ldI H .i64 aa (ac+6)).bind λn4=>(Hp.ldI H .i64 aa ((ac+6)+1)).bind λn5=>(Hp.ldSl H aa ((ac+6)+2)).bind λs6=>(Hp.new H [.int .i64 0,.int .i64 0,.sl ⟨none,0,.ex 0⟩]).bind λH7=>(Hp.st H7 H.length 0 (.int .i64 n4)).bind λH8=>(Hp.st H8 H.length (0+1) (.int .i64 n5)).bind λH9=>(Hp.st H9 H.length (0+1+1) (.sl s6)).bind λH10=>bW.l29 F ae bc im F ai H.length 0 (wrap .i64 (ai+1)) H10
def bW.tw:=bW.twX F (aH.tw F) (cM.tw F) (fN.tw F)
def bW.lh29 (ae:PQ) (bc:Qa) (im:PY) (ks:PW) (n:Nat) (tm:Tm) (H:Hp):OA:=match ks,tm 1,tm 5,tm 6 with
 | [],(.int .i64 cQ),(.ptr gf fV),(.int .i64 kT)=>bW.l29 F ae bc im n cQ gf fV kT H
 | _,_,_,_=>none
def bW.lh (ae:PQ) (bc:Qa) (im:PY) (p:Nat) (ks:PW) (n:Nat) (tm:Tm) (H:Hp):OA:=bif p.beq 29 then bW.lh29 F ae bc im ks n tm H else (none)
def bW.cs (F:Nat) (ae:PQ) (bc:Qa) (im:PY):Cs:=[(75,mk10 ae),(128,mk9 bc),(65,mk14 im)]
theorem bW.loops (ae:PQ) (bc:Qa) (im:PY):LO (bU (bW.cs F ae bc im)) cj (bW.lh F ae bc im) F Try.f175:=
 (af.rt (af.rt (af.lt (af.rt (af.block (af.la (λn tm H r h=>by change bW.lh29 F ae bc im [] n tm H=_ at h;unfold bW.lh29 at h;split at h;have e:dP tm [(1,_),(5,_),(6,_)]:=⟨‹_›,‹_›,‹_›,trivial⟩;obtain _ | k29:=n;cases h;exact ⟨_,rfl,by rw [<- dQ e];exact Eq.trans (by kernel_rfl) h⟩;cases h) λk29=>af.no))))))
theorem bW.eqX (ae:PQ) (bc:Qa) (im:PY) (aa:Nat) (ac:Nat) (ai:Int) (H:Hp):EX (bU (bW.cs F ae bc im)) cj (bW.lh F ae bc im) F Try.f175 [(.ptr aa ac),(.int .i64 ai)] H=bW.twX F ae bc im aa ac ai H:=by kernel_rfl
theorem bW.k:Ok Try.prog 175 (mk1 (bW.tw F)):=by
 intro args H v H' h
 unfold mk1 at h
 split at h
 ·exact okT (TB:=cj) Try.func175 (bB (aH.k F) (bB (cM.k F) (bB (fN.k F) dr))) (bW.loops F (aH.tw F) (cM.tw F) (fN.tw F)) ((bW.eqX F (aH.tw F) (cM.tw F) (fN.tw F) _ _ _ H).trans h) (by kernel_rfl)
 ·cases h
def fW.twX (F:Nat) (ae:PQ) (aa:Int) (aF:Nat) (ai:Nat) (bV:Nat) (bR:Nat) (H:Hp):OA:=(Hp.ldI H .i64 aF ai).bind λn6=>(Hp.ldI H .i64 aF (ai+1)).bind λn7=>(Hp.ldSl H aF (ai+2)).bind λs8=>(Hp.ldI H .i64 bV bR).bind λn9=>(Hp.ldI H .i64 bV bR).bind λn10=>(ae n6 n7 s8 n9 n10 H).bind λr11=>((r11.1).asP).bind λp12=>(Hp.ldI r11.2 .i64 p12.1 p12.2).bind λn13=>(if n13=0 then none else (some ((.bool ((Int.tmod aa n13) != 0)),r11.2)))
def fW.tw:=fW.twX F (aH.tw F)
def mk15 (g:Qp) (args:PZ) (H:Hp):OA:=match args with
 | [(.int .i64 aa),(.ptr aF ai),(.ptr bV bR)]=>g aa aF ai bV bR H
 | _=>none
theorem mk15_E (g:Qp) (aa:Int) (aF:Nat) (ai:Nat) (bV:Nat) (bR:Nat) (H:Hp):mk15 g [(.int .i64 aa),(.ptr aF ai),(.ptr bV bR)] H=g aa aF ai bV bR H:=rfl
def fW.cs (F:Nat) (ae:PQ):Cs:=[(75,mk10 ae)]
theorem fW.eqX (ae:PQ) (aa:Int) (aF:Nat) (ai:Nat) (bV:Nat) (bR:Nat) (H:Hp):EX (bU (fW.cs F ae)) cj lh0 F Try.f210 [(.int .i64 aa),(.ptr aF ai),(.ptr bV bR)] H=fW.twX F ae aa aF ai bV bR H:=by kernel_rfl
theorem fW.k:Ok Try.prog 210 (mk15 (fW.tw F)):=by
 intro args H v H' h
 unfold mk15 at h
 split at h
 ·exact okT (TB:=cj) Try.func210 (bB (aH.k F) dr) af.no ((fW.eqX F (aH.tw F) _ _ _ _ _ H).trans h) (by kernel_rfl)
 ·cases h
def cK.l13 (F:Nat) (iM:Qp) :Nat->Sl->Nat->Nat->Nat->Nat->Int->Int->Hp->OA
 | 0,_,_,_,_,_,_,_,_=>none
 | oE+1,xb,aF,ai,az,eL,mE,jN,H10=>(bif (decide (jN<mE)) then ((Sl.idx xb jN 1).bind λp15=>(Hp.ldI H10 .i64 p15.1 p15.2).bind λn16=>(iM n16 aF ai az eL H10).bind λr17=>((r17.1).asB).bind λb18=>(bif b18 then (some ((.int .i64 jN),r17.2)) else (cK.l13 F iM oE xb aF ai az eL mE (wrap .i64 (jN+1)) r17.2))) else (some ((.int .i64 (-1)),H10)))
termination_by structural n=>n
def cK.twX (iM:Qp) (aa:Sl) (aF:Nat) (ai:Nat) (az:Nat) (eL:Nat) (H:Hp):OA:=cK.l13 F iM F aa aF ai az eL (aa.n:Int) 0 H
def cK.tw:=cK.twX F (fW.tw F)
def cK.lh13 (iM:Qp) (ks:PW) (n:Nat) (tm:Tm) (H:Hp):OA:=match ks,tm 0,tm 1,tm 7,tm 8 with
 | [],(.sl xb),(.fn 210 [(.ptr aF ai),(.ptr az eL)]),(.int .i64 mE),(.int .i64 jN)=>cK.l13 F iM n xb aF ai az eL mE jN H
 | _,_,_,_,_=>none
def cK.lh (iM:Qp) (p:Nat) (ks:PW) (n:Nat) (tm:Tm) (H:Hp):OA:=bif p.beq 13 then cK.lh13 F iM ks n tm H else (none)
def mk16 (g:Qm) (args:PZ) (H:Hp):OA:=match args with
 | [(.sl aa),(.fn 210 [(.ptr aF ai),(.ptr az eL)])]=>g aa aF ai az eL H
 | _=>none
theorem mk16_E (g:Qm) (aa:Sl) (aF:Nat) (ai:Nat) (az:Nat) (eL:Nat) (H:Hp):mk16 g [(.sl aa),(.fn 210 [(.ptr aF ai),(.ptr az eL)])] H=g aa aF ai az eL H:=rfl
def cK.cs (F:Nat) (iM:Qp):Cs:=[(210,mk15 iM)]
theorem cK.loops (iM:Qp):LO (bU (cK.cs F iM)) cj (cK.lh F iM) F Try.f122:=
 (af.rt (af.lt (af.rt (af.block (af.la (λn tm H r h=>by change cK.lh13 F iM [] n tm H=_ at h;unfold cK.lh13 at h;split at h;have e:dP tm [(0,_),(1,_),(7,_),(8,_)]:=⟨‹_›,‹_›,‹_›,‹_›,trivial⟩;obtain _ | k13:=n;cases h;exact ⟨_,rfl,by rw [<- dQ e];exact Eq.trans (by kernel_rfl) h⟩;cases h) λk13=>af.no)))))
theorem cK.eqX (iM:Qp) (aa:Sl) (aF:Nat) (ai:Nat) (az:Nat) (eL:Nat) (H:Hp):EX (bU (cK.cs F iM)) cj (cK.lh F iM) F Try.f122 [(.sl aa),(.fn 210 [(.ptr aF ai),(.ptr az eL)])] H=cK.twX F iM aa aF ai az eL H:=by kernel_rfl
theorem cK.k:Ok Try.prog 122 (mk16 (cK.tw F)):=by
 intro args H v H' h
 unfold mk16 at h
 split at h
 ·exact okT (TB:=cj) Try.func122 (bB (fW.k F) dr) (cK.loops F (fW.tw F)) ((cK.eqX F (fW.tw F) _ _ _ _ _ H).trans h) (by kernel_rfl)
 ·cases h
def fX.twX (F:Nat) (tO:Qm) (aa:Sl) (aF:Nat) (ai:Nat) (az:Nat) (eL:Nat) (H:Hp):OA:=(tO aa aF ai az eL H).bind λr6=>((r6.1).asI .i64).bind λn7=>some ((.bool (decide (n7>=0))),r6.2)
def fX.tw:=fX.twX F (cK.tw F)
def fX.cs (F:Nat) (tO:Qm):Cs:=[(122,mk16 tO)]
theorem fX.eqX (tO:Qm) (aa:Sl) (aF:Nat) (ai:Nat) (az:Nat) (eL:Nat) (H:Hp):EX (bU (fX.cs F tO)) cj lh0 F Try.f65 [(.sl aa),(.fn 210 [(.ptr aF ai),(.ptr az eL)])] H=fX.twX F tO aa aF ai az eL H:=by kernel_rfl
theorem fX.k:Ok Try.prog 65 (mk16 (fX.tw F)):=by
 intro args H v H' h
 unfold mk16 at h
 split at h
 ·exact okT (TB:=cj) Try.func65 (bB (cK.k F) dr) af.no ((fX.eqX F (cK.tw F) _ _ _ _ _ H).trans h) (by kernel_rfl)
 ·cases h
def cl.l29 (F:Nat) (bc:Qa) (iN:Qm) :Nat->Nat->Nat->Nat->Nat->Int->Hp->OA
 | 0,_,_,_,_,_,_=>none
 | eR+1,jO,eP,lj,o_,jP,H22=>(Hp.ldI H22 .i64 lj o_).bind λn33=>(bif (decide (jP<n33)) then ((Hp.ldI H22 .i64 lj o_).bind λn34=>(Hp.ldI H22 .i64 lj (o_+1)).bind λn35=>(Hp.ldSl H22 lj (o_+2)).bind λs36=>(bc n34 n35 s36 jP H22).bind λr37=>((r37.1).asSl).bind λs38=>(if aP H22 r37.2 then ((Hp.ldI r37.2 .i64 jO eP).bind λn39=>(Sl.cut s38 1 (wrap .i64 (n39+1)) (s38.n:Int)).bind λs40=>(iN s40 lj o_ jO eP r37.2).bind λr41=>((r41.1).asB).bind λb42=>(bif b42 then (some ((.int .i64 jP),r41.2)) else (cl.l29 F bc iN eR jO eP lj o_ (wrap .i64 (jP+1)) r41.2))) else none)) else (some ((.int .i64 (-1)),H22)))
termination_by structural n=>n
def cl.twX (bc:Qa) (iN:Qm) (aa:Nat) (ac:Nat) (ai:Int) (H:Hp):OA:=(Hp.new H [(.int .i64 ai)]).bind λH4=>(Hp.ldI H4 .i64 aa (ac+6)).bind λn5=>(Hp.ldI H4 .i64 aa ((ac+6)+1)).bind λn6=>(Hp.ldSl H4 aa ((ac+6)+2)).bind λs7=>(Hp.new H4 [.int .i64 0,.int .i64 0,.sl ⟨none,0,.ex 0⟩]).bind λH8=>(Hp.st H8 H4.length 0 (.int .i64 n5)).bind λH9=>(Hp.st H9 H4.length (0+1) (.int .i64 n6)).bind λH10=>(Hp.st H10 H4.length (0+1+1) (.sl s7)).bind λH11=>(Hp.ldI H11 .i64 H.length 0).bind λn12=>cl.l29 F bc iN F H.length 0 H4.length 0 (wrap .i64 (n12+1)) H11
def cl.tw:=cl.twX F (cM.tw F) (fX.tw F)
def cl.lh29 (bc:Qa) (iN:Qm) (ks:PW) (n:Nat) (tm:Tm) (H:Hp):OA:=match ks,tm 3,tm 5,tm 6 with
 | [],(.ptr jO eP),(.ptr lj o_),(.int .i64 jP)=>cl.l29 F bc iN n jO eP lj o_ jP H
 | _,_,_,_=>none
def cl.lh (bc:Qa) (iN:Qm) (p:Nat) (ks:PW) (n:Nat) (tm:Tm) (H:Hp):OA:=bif p.beq 29 then cl.lh29 F bc iN ks n tm H else (none)
def cl.pn:Nat->List Nat:=el [(5,[7])]
def cl.tb:Nat->List (List Nat):=el [(5,[[],[],[0,1],[],[3],[0,1,2,3,4],[],[0,1,2,3,4,5,6]])]
def cl.cs (F:Nat) (bc:Qa) (iN:Qm):Cs:=[(128,mk9 bc),(65,mk16 iN)]
theorem cl.loops (bc:Qa) (iN:Qm):LO (bU (cl.cs F bc iN)) cl.pn (cl.lh F bc iN) F Try.f176:=
 (af.rt (af.rt (af.lt (af.rt (af.block (af.la (λn tm H r h=>by change cl.lh29 F bc iN [] n tm H=_ at h;unfold cl.lh29 at h;split at h;have e:dP tm [(3,_),(5,_),(6,_)]:=⟨‹_›,‹_›,‹_›,trivial⟩;obtain _ | k29:=n;cases h;exact ⟨_,rfl,by rw [<- dQ e];exact Eq.trans (by kernel_rfl) h⟩;cases h) λk29=>af.no))))))
theorem cl.eqX (bc:Qa) (iN:Qm) (aa:Nat) (ac:Nat) (ai:Int) (H:Hp):EX (bU (cl.cs F bc iN)) cl.pn (cl.lh F bc iN) F Try.f176 [(.ptr aa ac),(.int .i64 ai)] H=cl.twX F bc iN aa ac ai H:=by kernel_rfl
theorem cl.k:Ok Try.prog 176 (mk1 (cl.tw F)):=by
 intro args H v H' h
 unfold mk1 at h
 split at h
 ·exact okT (TB:=cl.tb) Try.func176 (bB (cM.k F) (bB (fX.k F) dr)) (cl.loops F (cM.tw F) (fX.tw F)) ((cl.eqX F (cM.tw F) (fX.tw F) _ _ _ H).trans h) (by kernel_rfl)
 ·cases h
def aR.j4 (F:Nat) (fv:PU) (fw:PU) (fx:PU) (fy:PU) (ck:P_) (C3_:PU) (Jv:Nat) (Jw:Nat) (tP:Int) (H57:Hp):OA:=C3_ Jv Jw tP H57
def aR.j5 (F:Nat) (fv:PU) (fw:PU) (fx:PU) (fy:PU) (ck:P_) (C3_:PU) (Jx:Nat) (zM:Nat) (tQ:Int) (H80:Hp):OA:=C3_ Jx zM tQ H80
def aR.j6 (fv:PU) (fw:PU) (fx:PU) (fy:PU) (ck:P_) (C3_:PU) (Jy:Nat) (Jz:Nat) (tR:Int) (H71:Hp):OA:=aR.j5 F fv fw fx fy ck C3_ Jy Jz tR H71
def aR.l3 (F:Nat) (fv:PU) (fw:PU) (fx:PU) (fy:PU) (ck:P_) :Nat->Nat->Nat->Int->Hp->OA
 | 0,_,_,_,_=>none
 | xc+1,hJ,jQ,fO,H6=>(Hp.ldB H6 hJ (jQ+15)).bind λb44=>(bif (!b44) then ((Hp.ldI H6 .i64 hJ (jQ+6)).bind λn45=>(Hp.ldI H6 .i64 hJ ((jQ+6)+1)).bind λn46=>(bif (decide (fO<(if n46<n45 then n46 else n45))) then ((fv hJ jQ fO H6).bind λr47=>((r47.1).asB).bind λb48=>(bif (!b48) then (some ((.tup []),r47.2)) else ((fw hJ jQ fO r47.2).bind λr49=>(Hp.ldB r49.2 hJ (jQ+15)).bind λb50=>(bif b50 then (aR.j4 F fv fw fx fy ck (aR.l3 F fv fw fx fy ck xc) hJ jQ fO r49.2) else ((fx hJ jQ fO r49.2).bind λr58=>((r58.1).asB).bind λb59=>(bif (!b59) then (aR.j4 F fv fw fx fy ck (aR.l3 F fv fw fx fy ck xc) hJ jQ fO r58.2) else ((fy hJ jQ fO r58.2).bind λr60=>((r60.1).asI .i64).bind λn61=>(bif (decide (n61>=0)) then ((ck hJ jQ fO n61 1 r60.2).bind λr62=>aR.j6 F fv fw fx fy ck (aR.l3 F fv fw fx fy ck xc) hJ jQ fO r62.2) else (aR.j6 F fv fw fx fy ck (aR.l3 F fv fw fx fy ck xc) hJ jQ (wrap .i64 (fO+1)) r60.2))))))))) else (some ((.tup []),H6)))) else (some ((.tup []),H6)))
termination_by structural n=>n
def aR.twX (fv:PU) (fw:PU) (fx:PU) (fy:PU) (ck:P_) (aa:Nat) (ac:Nat) (H:Hp):OA:=aR.l3 F fv fw fx fy ck F aa ac 0 H
def aR.tw:=aR.twX F (bg.tw F) (aA.tw F) (bW.tw F) (cl.tw F) (dG.tw F)
def aR.lh3 (fv:PU) (fw:PU) (fx:PU) (fy:PU) (ck:P_) (ks:PW) (n:Nat) (tm:Tm) (H:Hp):OA:=match ks,tm 0,tm 2 with
 | [],(.ptr hJ jQ),(.int .i64 fO)=>aR.l3 F fv fw fx fy ck n hJ jQ fO H
 | _,_,_=>none
def aR.lh (fv:PU) (fw:PU) (fx:PU) (fy:PU) (ck:P_) (p:Nat) (ks:PW) (n:Nat) (tm:Tm) (H:Hp):OA:=bif p.beq 3 then aR.lh3 F fv fw fx fy ck ks n tm H else (none)
def aR.tb:Nat->List (List Nat):=el [(1,[[],[0],[0,1],[0,1,2],[0,1,2,3],[0,1,2,3,4],[0,1,2,3,4,5],[0,1,2,3,4,5],[0,1,2,3,4,5,7],[0,1,2,3,4,5,7,8],[0,1,2,3,4,5,7,8,9],[0,1,2,3,4,5,7,8,9,10],[0,1,2,3,4,5,7,8,9,10,11],[0,1,2,3,4,5],[0,1,2,3,4,5,13],[0,1,2,3,4,5,13,14],[0,1,2,3,4,5,13,14,15],[0,1,2,3,4,5,13,14,15,16],[0,1,2,3,4,5,13,14,15,16,17],[0,1,2,3,4,5,7,8,9,10,11,12,13,14,15,16,17,18],[0,1,2,3,4,5,6,7,8,9,10,11,12,13,14,15,16,17,18,19],[0,1,2,3,4,5,6,7,8,9,10,11,12,13,14,15,16,17,18,19,20]])]
def aR.cs (F:Nat) (fv:PU) (fw:PU) (fx:PU) (fy:PU) (ck:P_):Cs:=[(173,mk1 fv),(174,mk1 fw),(175,mk1 fx),(176,mk1 fy),(177,mk13 ck)]
theorem aR.loops (fv:PU) (fw:PU) (fx:PU) (fy:PU) (ck:P_):LO (bU (aR.cs F fv fw fx fy ck)) cj (aR.lh F fv fw fx fy ck) F Try.f133:=
 (af.rt (af.block (af.la (λn tm H r h=>by change aR.lh3 F fv fw fx fy ck [] n tm H=_ at h;unfold aR.lh3 at h;split at h;have e:dP tm [(0,_),(2,_)]:=⟨‹_›,‹_›,trivial⟩;obtain _ | k3:=n;cases h;exact ⟨_,rfl,by rw [<- dQ e];exact Eq.trans (by kernel_rfl) h⟩;cases h) λk3=>af.no)))
theorem aR.eqX (fv:PU) (fw:PU) (fx:PU) (fy:PU) (ck:P_) (aa:Nat) (ac:Nat) (H:Hp):EX (bU (aR.cs F fv fw fx fy ck)) cj (aR.lh F fv fw fx fy ck) F Try.f133 [(.ptr aa ac)] H=aR.twX F fv fw fx fy ck aa ac H:=by kernel_rfl
theorem aR.k:Ok Try.prog 133 (mk4 (aR.tw F)):=by
 intro args H v H' h
 unfold mk4 at h
 split at h
 ·exact okT (TB:=aR.tb) Try.func133 (bB (bg.k F) (bB (aA.k F) (bB (bW.k F) (bB (cl.k F) (bB (dG.k F) dr))))) (aR.loops F (bg.tw F) (aA.tw F) (bW.tw F) (cl.tw F) (dG.tw F)) ((aR.eqX F (bg.tw F) (aA.tw F) (bW.tw F) (cl.tw F) (dG.tw F) _ _ H).trans h) (by kernel_rfl)
 ·cases h
def fz.twX (F:Nat) (tS:PT) (tT:Qq) (aa:Int) (ac:Int) (a_:Sl) (H:Hp):OA:=(Hp.new H [(.int .i64 aa),(.int .i64 ac),(.sl a_)]).bind λH4=>(Hp.new H4 [.int .i64 0,.int .i64 0,.sl ⟨none,0,.ex 0⟩,.int .i64 0,.int .i64 0,.sl ⟨none,0,.ex 0⟩,.int .i64 0,.int .i64 0,.sl ⟨none,0,.ex 0⟩,.int .i64 0,.int .i64 0,.sl ⟨none,0,.ex 0⟩,.int .i64 0,.int .i64 0,.sl ⟨none,0,.ex 0⟩]).bind λH5=>(Hp.ldI H5 .i64 H.length 0).bind λn6=>(Hp.ldI H5 .i64 H.length (0+1)).bind λn7=>(Hp.ldSl H5 H.length (0+2)).bind λs8=>(tS n6 n7 s8 H5).bind λr9=>((r9.1).asP).bind λp10=>(tT p10.1 p10.2 r9.2).bind λr11=>(Hp.ldB r11.2 p10.1 (p10.2+15)).bind λb12=>(bif b12 then ((Hp.st r11.2 H4.length 0 (.int .i64 0)).bind λH13=>(Hp.st H13 H4.length (0+1) (.int .i64 0)).bind λH14=>(Hp.st H14 H4.length (0+1+1) (.sl (⟨none,0,.ex 0⟩:Sl))).bind λH15=>(Hp.st H15 H4.length (0+1+1+1) (.int .i64 0)).bind λH16=>(Hp.st H16 H4.length (0+1+1+1+1) (.int .i64 0)).bind λH17=>(Hp.st H17 H4.length (0+1+1+1+1+1) (.sl (⟨none,0,.ex 0⟩:Sl))).bind λH18=>(Hp.st H18 H4.length (0+1+1+1+1+1+1) (.int .i64 0)).bind λH19=>(Hp.st H19 H4.length (0+1+1+1+1+1+1+1) (.int .i64 0)).bind λH20=>(Hp.st H20 H4.length (0+1+1+1+1+1+1+1+1) (.sl (⟨none,0,.ex 0⟩:Sl))).bind λH21=>(Hp.st H21 H4.length (0+1+1+1+1+1+1+1+1+1) (.int .i64 0)).bind λH22=>(Hp.st H22 H4.length (0+1+1+1+1+1+1+1+1+1+1) (.int .i64 0)).bind λH23=>(Hp.st H23 H4.length (0+1+1+1+1+1+1+1+1+1+1+1) (.sl (⟨none,0,.ex 0⟩:Sl))).bind λH24=>(Hp.st H24 H4.length (0+1+1+1+1+1+1+1+1+1+1+1+1) (.int .i64 0)).bind λH25=>(Hp.st H25 H4.length (0+1+1+1+1+1+1+1+1+1+1+1+1+1) (.int .i64 0)).bind λH26=>(Hp.st H26 H4.length (0+1+1+1+1+1+1+1+1+1+1+1+1+1+1) (.sl (⟨none,0,.ex 0⟩:Sl))).bind λH27=>(Hp.ldI H27 .i64 H4.length 0).bind λn28=>(Hp.ldI H27 .i64 H4.length (0+1)).bind λn29=>(Hp.ldSl H27 H4.length (0+2)).bind λs30=>(Hp.ldI H27 .i64 H4.length (0+3)).bind λn31=>(Hp.ldI H27 .i64 H4.length (0+4)).bind λn32=>(Hp.ldSl H27 H4.length (0+5)).bind λs33=>(Hp.ldI H27 .i64 H4.length (0+6)).bind λn34=>(Hp.ldI H27 .i64 H4.length (0+7)).bind λn35=>(Hp.ldSl H27 H4.length (0+8)).bind λs36=>(Hp.ldI H27 .i64 H4.length (0+9)).bind λn37=>(Hp.ldI H27 .i64 H4.length (0+10)).bind λn38=>(Hp.ldSl H27 H4.length (0+11)).bind λs39=>(Hp.ldI H27 .i64 H4.length (0+12)).bind λn40=>(Hp.ldI H27 .i64 H4.length (0+13)).bind λn41=>(Hp.ldSl H27 H4.length (0+14)).bind λs42=>some ((.tup [(.agg [(.int .i64 n28),(.int .i64 n29),(.sl s30),(.int .i64 n31),(.int .i64 n32),(.sl s33),(.int .i64 n34),(.int .i64 n35),(.sl s36),(.int .i64 n37),(.int .i64 n38),(.sl s39),(.int .i64 n40),(.int .i64 n41),(.sl s42)]),(.int .i64 3)]),H27)) else ((Hp.ldI r11.2 .i64 p10.1 p10.2).bind λn43=>(Hp.ldI r11.2 .i64 p10.1 (p10.2+1)).bind λn44=>(Hp.ldSl r11.2 p10.1 (p10.2+2)).bind λs45=>(Hp.ldI r11.2 .i64 p10.1 (p10.2+3)).bind λn46=>(Hp.ldI r11.2 .i64 p10.1 (p10.2+4)).bind λn47=>(Hp.ldSl r11.2 p10.1 (p10.2+5)).bind λs48=>(Hp.ldI r11.2 .i64 p10.1 (p10.2+6)).bind λn49=>(Hp.ldI r11.2 .i64 p10.1 (p10.2+7)).bind λn50=>(Hp.ldSl r11.2 p10.1 (p10.2+8)).bind λs51=>(Hp.ldI r11.2 .i64 p10.1 (p10.2+9)).bind λn52=>(Hp.ldI r11.2 .i64 p10.1 (p10.2+10)).bind λn53=>(Hp.ldSl r11.2 p10.1 (p10.2+11)).bind λs54=>(Hp.ldI r11.2 .i64 p10.1 (p10.2+12)).bind λn55=>(Hp.ldI r11.2 .i64 p10.1 (p10.2+13)).bind λn56=>(Hp.ldSl r11.2 p10.1 (p10.2+14)).bind λs57=>(Hp.st r11.2 H4.length 0 (.int .i64 n43)).bind λH58=>(Hp.st H58 H4.length (0+1) (.int .i64 n44)).bind λH59=>(Hp.st H59 H4.length (0+1+1) (.sl s45)).bind λH60=>(Hp.st H60 H4.length (0+1+1+1) (.int .i64 n46)).bind λH61=>(Hp.st H61 H4.length (0+1+1+1+1) (.int .i64 n47)).bind λH62=>(Hp.st H62 H4.length (0+1+1+1+1+1) (.sl s48)).bind λH63=>(Hp.st H63 H4.length (0+1+1+1+1+1+1) (.int .i64 n49)).bind λH64=>(Hp.st H64 H4.length (0+1+1+1+1+1+1+1) (.int .i64 n50)).bind λH65=>(Hp.st H65 H4.length (0+1+1+1+1+1+1+1+1) (.sl s51)).bind λH66=>(Hp.st H66 H4.length (0+1+1+1+1+1+1+1+1+1) (.int .i64 n52)).bind λH67=>(Hp.st H67 H4.length (0+1+1+1+1+1+1+1+1+1+1) (.int .i64 n53)).bind λH68=>(Hp.st H68 H4.length (0+1+1+1+1+1+1+1+1+1+1+1) (.sl s54)).bind λH69=>(Hp.st H69 H4.length (0+1+1+1+1+1+1+1+1+1+1+1+1) (.int .i64 n55)).bind λH70=>(Hp.st H70 H4.length (0+1+1+1+1+1+1+1+1+1+1+1+1+1) (.int .i64 n56)).bind λH71=>(Hp.st H71 H4.length (0+1+1+1+1+1+1+1+1+1+1+1+1+1+1) (.sl s57)).bind λH72=>(Hp.ldI H72 .i64 H4.length 0).bind λn73=>(Hp.ldI H72 .i64 H4.length (0+1)).bind λn74=>(Hp.ldSl H72 H4.length (0+2)).bind λs75=>(Hp.ldI H72 .i64 H4.length (0+3)).bind λn76=>(Hp.ldI H72 .i64 H4.length (0+4)).bind λn77=>(Hp.ldSl H72 H4.length (0+5)).bind λs78=>(Hp.ldI H72 .i64 H4.length (0+6)).bind λn79=>(Hp.ldI H72 .i64 H4.length (0+7)).bind λn80=>(Hp.ldSl H72 H4.length (0+8)).bind λs81=>(Hp.ldI H72 .i64 H4.length (0+9)).bind λn82=>(Hp.ldI H72 .i64 H4.length (0+10)).bind λn83=>(Hp.ldSl H72 H4.length (0+11)).bind λs84=>(Hp.ldI H72 .i64 H4.length (0+12)).bind λn85=>(Hp.ldI H72 .i64 H4.length (0+13)).bind λn86=>(Hp.ldSl H72 H4.length (0+14)).bind λs87=>some ((.tup [(.agg [(.int .i64 n73),(.int .i64 n74),(.sl s75),(.int .i64 n76),(.int .i64 n77),(.sl s78),(.int .i64 n79),(.int .i64 n80),(.sl s81),(.int .i64 n82),(.int .i64 n83),(.sl s84),(.int .i64 n85),(.int .i64 n86),(.sl s87)]),(.int .i64 0)]),H72)))
def fz.tw:=fz.twX F (iA.tw F) (aR.tw F)
def fz.cs (F:Nat) (tS:PT) (tT:Qq):Cs:=[(132,mk8 tS),(133,mk4 tT)]
theorem fz.eqX (tS:PT) (tT:Qq) (aa:Int) (ac:Int) (a_:Sl) (H:Hp):EX (bU (fz.cs F tS tT)) cj lh0 F Try.f82 [(.agg [(.int .i64 aa),(.int .i64 ac),(.sl a_)])] H=fz.twX F tS tT aa ac a_ H:=by kernel_rfl
theorem fz.k:Ok Try.prog 82 (mk8 (fz.tw F)):=by
 intro args H v H' h
 unfold mk8 at h
 split at h
 ·exact okT (TB:=cj) Try.func82 (bB (iA.k F) (bB (aR.k F) dr)) af.no ((fz.eqX F (iA.tw F) (aR.tw F) _ _ _ H).trans h) (by kernel_rfl)
 ·cases h
def bD.j2 (F:Nat) (gX:PT) (ae:PQ) (C125_:QN) (xd:Nat) (JA:Nat) (JB:Sl) (tU:Int) (tV:Int) (H132:Hp):OA:=C125_ xd JA JB tU (wrap .i64 (tV+1)) H132
def bD.l125 (F:Nat) (gX:PT) (ae:PQ) :Nat->Nat->Nat->Sl->Int->Int->Hp->OA
 | 0,_,_,_,_,_,_=>none
 | mi+1,mF,p_,uU,kU,jc,H76=>(bif (decide (jc<kU)) then ((Hp.ldI H76 .i64 mF (p_+6)).bind λn105=>(Hp.ldI H76 .i64 mF ((p_+6)+1)).bind λn106=>(Hp.ldSl H76 mF ((p_+6)+2)).bind λs107=>(ae n105 n106 s107 jc jc H76).bind λr108=>((r108.1).asP).bind λp109=>(Hp.ldI r108.2 .i64 p109.1 p109.2).bind λn110=>(bif (n110 != 0) then ((Hp.new r108.2 [(.int .i64 n110)]).bind λH111=>(Sl.row H111 (⟨some (r108.2.length,0),1,.ex 1⟩:Sl) 1).bind λxs113=>(Hp.app H111 1 8 uU (⟨some (r108.2.length,0),1,.ex 1⟩:Sl).n xs113).bind λa112=>bD.j2 F gX ae (bD.l125 F gX ae mi) mF p_ a112.1 kU jc a112.2) else (bD.j2 F gX ae (bD.l125 F gX ae mi) mF p_ uU kU jc r108.2))) else (some ((.tup [(.sl uU),(.int .i64 0)]),H76)))
termination_by structural n=>n
def bD.twX (gX:PT) (ae:PQ) (aa:Int) (ac:Int) (a_:Sl) (H:Hp):OA:=(Hp.new H [(.int .i64 aa),(.int .i64 ac),(.sl a_)]).bind λH4=>(Hp.ldI H4 .i64 H.length 0).bind λn5=>(Hp.ldI H4 .i64 H.length (0+1)).bind λn6=>(Hp.ldSl H4 H.length (0+2)).bind λs7=>(gX n5 n6 s7 H4).bind λr8=>((r8.1).asTup 2).bind λl9=>(l9[0]?).bind λv10=>((v10).asAgg 15).bind λl11=>(l11[0]?).bind λv12=>((v12).asI .i64).bind λn13=>(l11[1]?).bind λv14=>((v14).asI .i64).bind λn15=>(l11[2]?).bind λv16=>((v16).asSl).bind λs17=>(l11[3]?).bind λv18=>((v18).asI .i64).bind λn19=>(l11[4]?).bind λv20=>((v20).asI .i64).bind λn21=>(l11[5]?).bind λv22=>((v22).asSl).bind λs23=>(l11[6]?).bind λv24=>((v24).asI .i64).bind λn25=>(l11[7]?).bind λv26=>((v26).asI .i64).bind λn27=>(l11[8]?).bind λv28=>((v28).asSl).bind λs29=>(l11[9]?).bind λv30=>((v30).asI .i64).bind λn31=>(l11[10]?).bind λv32=>((v32).asI .i64).bind λn33=>(l11[11]?).bind λv34=>((v34).asSl).bind λs35=>(l11[12]?).bind λv36=>((v36).asI .i64).bind λn37=>(l11[13]?).bind λv38=>((v38).asI .i64).bind λn39=>(l11[14]?).bind λv40=>((v40).asSl).bind λs41=>(l9[1]?).bind λv42=>((v42).asI .i64).bind λn43=>(Hp.new r8.2 [.int .i64 0,.int .i64 0,.sl ⟨none,0,.ex 0⟩,.int .i64 0,.int .i64 0,.sl ⟨none,0,.ex 0⟩,.int .i64 0,.int .i64 0,.sl ⟨none,0,.ex 0⟩,.int .i64 0,.int .i64 0,.sl ⟨none,0,.ex 0⟩,.int .i64 0,.int .i64 0,.sl ⟨none,0,.ex 0⟩]).bind λH44=>(Hp.st H44 r8.2.length 0 (.int .i64 n13)).bind λH45=>(Hp.st H45 r8.2.length (0+1) (.int .i64 n15)).bind λH46=>(Hp.st H46 r8.2.length (0+1+1) (.sl s17)).bind λH47=>(Hp.st H47 r8.2.length (0+1+1+1) (.int .i64 n19)).bind λH48=>(Hp.st H48 r8.2.length (0+1+1+1+1) (.int .i64 n21)).bind λH49=>(Hp.st H49 r8.2.length (0+1+1+1+1+1) (.sl s23)).bind λH50=>(Hp.st H50 r8.2.length (0+1+1+1+1+1+1) (.int .i64 n25)).bind λH51=>(Hp.st H51 r8.2.length (0+1+1+1+1+1+1+1) (.int .i64 n27)).bind λH52=>(Hp.st H52 r8.2.length (0+1+1+1+1+1+1+1+1) (.sl s29)).bind λH53=>(Hp.st H53 r8.2.length (0+1+1+1+1+1+1+1+1+1) (.int .i64 n31)).bind λH54=>(Hp.st H54 r8.2.length (0+1+1+1+1+1+1+1+1+1+1) (.int .i64 n33)).bind λH55=>(Hp.st H55 r8.2.length (0+1+1+1+1+1+1+1+1+1+1+1) (.sl s35)).bind λH56=>(Hp.st H56 r8.2.length (0+1+1+1+1+1+1+1+1+1+1+1+1) (.int .i64 n37)).bind λH57=>(Hp.st H57 r8.2.length (0+1+1+1+1+1+1+1+1+1+1+1+1+1) (.int .i64 n39)).bind λH58=>(Hp.st H58 r8.2.length (0+1+1+1+1+1+1+1+1+1+1+1+1+1+1) (.sl s41)).bind λH59=>(bif (n43 != 0) then (some ((.tup [(.sl (⟨none,0,.ex 0⟩:Sl)),(.int .i64 n43)]),H59)) else ((Hp.ldI H59 .i64 H.length 0).bind λn60=>(Hp.ldI H59 .i64 H.length 1).bind λn61=>bD.l125 F gX ae F r8.2.length 0 (⟨none,0,.ex 0⟩:Sl) (if n61<n60 then n61 else n60) 0 H59))
def bD.tw:=bD.twX F (fz.tw F) (aH.tw F)
def bD.lh125 (gX:PT) (ae:PQ) (ks:PW) (n:Nat) (tm:Tm) (H:Hp):OA:=match ks,tm 4,tm 6,tm 21,tm 22 with
 | [],(.ptr mF p_),(.sl uU),(.int .i64 kU),(.int .i64 jc)=>bD.l125 F gX ae n mF p_ uU kU jc H
 | _,_,_,_,_=>none
def bD.lh (gX:PT) (ae:PQ) (p:Nat) (ks:PW) (n:Nat) (tm:Tm) (H:Hp):OA:=bif p.beq 125 then bD.lh125 F gX ae ks n tm H else (none)
def bD.cs (F:Nat) (gX:PT) (ae:PQ):Cs:=[(82,mk8 gX),(75,mk10 ae)]
theorem bD.loops (gX:PT) (ae:PQ):LO (bU (bD.cs F gX ae)) cj (bD.lh F gX ae) F Try.f67:=
 (af.rt (af.rt (af.rt (af.rt (af.lt (af.rt (af.block (af.la (λn tm H r h=>by change bD.lh125 F gX ae [] n tm H=_ at h;unfold bD.lh125 at h;split at h;have e:dP tm [(4,_),(6,_),(21,_),(22,_)]:=⟨‹_›,‹_›,‹_›,‹_›,trivial⟩;obtain _ | k125:=n;cases h;exact ⟨_,rfl,by rw [<- dQ e];exact Eq.trans (by kernel_rfl) h⟩;cases h) λk125=>af.no))))))))
theorem bD.eqX (gX:PT) (ae:PQ) (aa:Int) (ac:Int) (a_:Sl) (H:Hp):EX (bU (bD.cs F gX ae)) cj (bD.lh F gX ae) F Try.f67 [(.agg [(.int .i64 aa),(.int .i64 ac),(.sl a_)])] H=bD.twX F gX ae aa ac a_ H:=by kernel_rfl
theorem bD.k:Ok Try.prog 67 (mk8 (bD.tw F)):=by
 intro args H v H' h
 unfold mk8 at h
 split at h
 ·exact okT (TB:=cj) Try.func67 (bB (fz.k F) (bB (aH.k F) dr)) (bD.loops F (fz.tw F) (aH.tw F)) ((bD.eqX F (fz.tw F) (aH.tw F) _ _ _ H).trans h) (by kernel_rfl)
 ·cases h
def eW.twX (F:Nat) (du:PT) (tW:PT) (aa:Int) (ac:Int) (a_:Sl) (H:Hp):OA:=(Hp.new H [(.int .i64 aa),(.int .i64 ac),(.sl a_)]).bind λH4=>(Hp.ldI H4 .i64 H.length 0).bind λn5=>(Hp.ldI H4 .i64 H.length (0+1)).bind λn6=>(Hp.ldSl H4 H.length (0+2)).bind λs7=>(du n5 n6 s7 H4).bind λr8=>((r8.1).asB).bind λb9=>(bif (!b9) then (some ((.tup [(.sl (⟨none,0,.ex 0⟩:Sl)),(.int .i64 1)]),r8.2)) else ((Hp.ldI r8.2 .i64 H.length 0).bind λn10=>(Hp.ldI r8.2 .i64 H.length (0+1)).bind λn11=>(Hp.ldSl r8.2 H.length (0+2)).bind λs12=>(tW n10 n11 s12 r8.2).bind λr13=>((r13.1).asTup 2).bind λl14=>(l14[0]?).bind λv15=>((v15).asSl).bind λs16=>(l14[1]?).bind λv17=>((v17).asI .i64).bind λn18=>some ((.tup [(.sl s16),(.int .i64 n18)]),r13.2)))
def eW.tw:=eW.twX F (cO.tw F) (bD.tw F)
def eW.cs (F:Nat) (du:PT) (tW:PT):Cs:=[(76,mk8 du),(67,mk8 tW)]
theorem eW.eqX (du:PT) (tW:PT) (aa:Int) (ac:Int) (a_:Sl) (H:Hp):EX (bU (eW.cs F du tW)) cj lh0 F Try.f24 [(.agg [(.int .i64 aa),(.int .i64 ac),(.sl a_)])] H=eW.twX F du tW aa ac a_ H:=by kernel_rfl
theorem eW.k:Ok Try.prog 24 (mk8 (eW.tw F)):=by
 intro args H v H' h
 unfold mk8 at h
 split at h
 ·exact okT (TB:=cj) Try.func24 (bB (cO.k F) (bB (bD.k F) dr)) af.no ((eW.eqX F (cO.tw F) (bD.tw F) _ _ _ H).trans h) (by kernel_rfl)
 ·cases h
def bp.j1 (F:Nat) (gh:PY) (gi:PY) (ga:PT) (gj:PT) (gk:PT) (gl:PT) (ll:Int) (tX:Int) (H125:Hp):OA:=some ((.bool (tX==(if (wrap .i64 (0 - ll))>ll then (wrap .i64 (0 - ll)) else ll))),H125)
def bp.j2 (gh:PY) (gi:PY) (ga:PT) (gj:PT) (gk:PT) (gl:PT) (xe:Nat) (JC:Nat) (pc:Int) (JD:Sl) (tY:Int) (H102:Hp):OA:=(Hp.ldI H102 .i64 xe JC).bind λn103=>(bif (decide ((JD.n:Int)<n103)) then (bp.j1 F gh gi ga gj gk gl pc 0 H102) else (bp.j1 F gh gi ga gj gk gl pc tY H102))
def bp.l16381 (F:Nat) (gh:PY) (gi:PY) (ga:PT) (gj:PT) (gk:PT) (gl:PT) :Nat->Nat->Nat->Int->Sl->Int->Int->Hp->OA
 | 0,_,_,_,_,_,_,_=>none
 | JE+1,pd,xf,mG,tZ,mH,kV,H79=>(bif (decide (kV<(tZ.n:Int))) then ((Sl.idx tZ kV 1).bind λp126=>(Hp.ldI H79 .i64 p126.1 p126.2).bind λn127=>bp.l16381 F gh gi ga gj gk gl JE pd xf mG tZ (wrap .i64 (mH * n127)) (wrap .i64 (kV+1)) H79) else (bp.j2 F gh gi ga gj gk gl pd xf mG tZ mH H79))
termination_by structural n=>n
def bp.twX (gh:PY) (gi:PY) (ga:PT) (gj:PT) (gk:PT) (gl:PT) (aa:Sl) (H:Hp):OA:=(gh aa H).bind λr2=>((r2.1).asB).bind λb3=>(bif b3 then (some ((.bool true),r2.2)) else ((gi aa r2.2).bind λr4=>((r4.1).asAgg 3).bind λl5=>(l5[0]?).bind λv6=>((v6).asI .i64).bind λn7=>(l5[1]?).bind λv8=>((v8).asI .i64).bind λn9=>(l5[2]?).bind λv10=>((v10).asSl).bind λs11=>(Hp.new r4.2 [.int .i64 0,.int .i64 0,.sl ⟨none,0,.ex 0⟩]).bind λH12=>(Hp.st H12 r4.2.length 0 (.int .i64 n7)).bind λH13=>(Hp.st H13 r4.2.length (0+1) (.int .i64 n9)).bind λH14=>(Hp.st H14 r4.2.length (0+1+1) (.sl s11)).bind λH15=>(Hp.ldI H15 .i64 r4.2.length 0).bind λn16=>(Hp.ldI H15 .i64 r4.2.length (0+1)).bind λn17=>(Hp.ldSl H15 r4.2.length (0+2)).bind λs18=>(ga n16 n17 s18 H15).bind λr19=>((r19.1).asTup 2).bind λl20=>(l20[0]?).bind λv21=>((v21).asI .i64).bind λn22=>(l20[1]?).bind λv23=>((v23).asI .i64).bind λn24=>(Hp.ldI r19.2 .i64 r4.2.length 0).bind λn25=>(Hp.ldI r19.2 .i64 r4.2.length (0+1)).bind λn26=>(Hp.ldSl r19.2 r4.2.length (0+2)).bind λs27=>(gj n25 n26 s27 r19.2).bind λr28=>((r28.1).asTup 2).bind λl29=>(l29[0]?).bind λv30=>((v30).asI .i64).bind λn31=>(l29[1]?).bind λv32=>((v32).asI .i64).bind λn33=>(bif (n24 != n33) then (some ((.bool false),r28.2)) else ((bif (n22 != n31) then (some ((.bool false),r28.2)) else ((bif (n24 != 0) then (some ((.bool (n22==0)),r28.2)) else ((Hp.ldI r28.2 .i64 r4.2.length 0).bind λn34=>(Hp.ldI r28.2 .i64 r4.2.length (0+1)).bind λn35=>(Hp.ldSl r28.2 r4.2.length (0+2)).bind λs36=>(gk n34 n35 s36 r28.2).bind λr37=>((r37.1).asAgg 3).bind λl38=>(l38[0]?).bind λv39=>((v39).asI .i64).bind λn40=>(l38[1]?).bind λv41=>((v41).asI .i64).bind λn42=>(l38[2]?).bind λv43=>((v43).asSl).bind λs44=>(ga n40 n42 s44 r37.2).bind λr45=>((r45.1).asTup 2).bind λl46=>(l46[0]?).bind λv47=>((v47).asI .i64).bind λn48=>(l46[1]?).bind λv49=>((v49).asI .i64).bind λn50=>(Hp.ldI r45.2 .i64 r4.2.length 0).bind λn51=>(Hp.ldI r45.2 .i64 r4.2.length (0+1)).bind λn52=>(Hp.ldSl r45.2 r4.2.length (0+2)).bind λs53=>(gl n51 n52 s53 r45.2).bind λr54=>((r54.1).asTup 2).bind λl55=>(l55[0]?).bind λv56=>((v56).asSl).bind λs57=>(l55[1]?).bind λv58=>((v58).asI .i64).bind λn59=>(bif (n50==0) then ((bif (n48 != n22) then (some ((.bool false),r54.2)) else ((bif (n59 != 0) then (some ((.bool true),r54.2)) else (bp.l16381 F gh gi ga gj gk gl F r4.2.length 0 n22 s57 1 0 r54.2))))) else ((bif (n59 != 0) then (some ((.bool true),r54.2)) else (bp.l16381 F gh gi ga gj gk gl F r4.2.length 0 n22 s57 1 0 r54.2))))))))))))
def bp.tw:=bp.twX F (gp.tw F) (eO.tw F) (dX.tw F) (eK.tw F) (aY.tw F) (eW.tw F)
def bp.lh16381 (gh:PY) (gi:PY) (ga:PT) (gj:PT) (gk:PT) (gl:PT) (ks:PW) (n:Nat) (tm:Tm) (H:Hp):OA:=match ks,tm 3,tm 4,tm 10,tm 12,tm 13 with
 | [],(.ptr pd xf),(.int .i64 mG),(.sl tZ),(.int .i64 mH),(.int .i64 kV)=>bp.l16381 F gh gi ga gj gk gl n pd xf mG tZ mH kV H
 | _,_,_,_,_,_=>none
def bp.lh (gh:PY) (gi:PY) (ga:PT) (gj:PT) (gk:PT) (gl:PT) (p:Nat) (ks:PW) (n:Nat) (tm:Tm) (H:Hp):OA:=bif p.beq 16381 then bp.lh16381 F gh gi ga gj gk gl ks n tm H else (none)
def bp.cs (F:Nat) (gh:PY) (gi:PY) (ga:PT) (gj:PT) (gk:PT) (gl:PT):Cs:=[(12,mk0 gh),(20,mk0 gi),(21,mk8 ga),(22,mk8 gj),(23,mk8 gk),(24,mk8 gl)]
theorem bp.loops (gh:PY) (gi:PY) (ga:PT) (gj:PT) (gk:PT) (gl:PT):LO (bU (bp.cs F gh gi ga gj gk gl)) cj (bp.lh F gh gi ga gj gk gl) F Try.f5:=
 (af.rt (af.rt (af.rt (af.rt (af.rt (af.rt (af.rt (af.rt (af.rt (af.rt (af.rt (af.lt (af.rt (af.block (af.la (λn tm H r h=>by change bp.lh16381 F gh gi ga gj gk gl [] n tm H=_ at h;unfold bp.lh16381 at h;split at h;have e:dP tm [(3,_),(4,_),(10,_),(12,_),(13,_)]:=⟨‹_›,‹_›,‹_›,‹_›,‹_›,trivial⟩;obtain _ | k16381:=n;cases h;exact ⟨_,rfl,by rw [<- dQ e];exact Eq.trans (by kernel_rfl) h⟩;cases h) λk16381=>af.no)))))))))))))))
theorem bp.eqX (gh:PY) (gi:PY) (ga:PT) (gj:PT) (gk:PT) (gl:PT) (aa:Sl) (H:Hp):EX (bU (bp.cs F gh gi ga gj gk gl)) cj (bp.lh F gh gi ga gj gk gl) F Try.f5 [(.sl aa)] H=bp.twX F gh gi ga gj gk gl aa H:=by kernel_rfl
theorem bp.k:Ok Try.prog 5 (mk0 (bp.tw F)):=by
 intro args H v H' h
 unfold mk0 at h
 split at h
 ·exact okT (TB:=cj) Try.func5 (bB (gp.k F) (bB (eO.k F) (bB (dX.k F) (bB (eK.k F) (bB (aY.k F) (bB (eW.k F) dr)))))) (bp.loops F (gp.tw F) (eO.tw F) (dX.tw F) (eK.tw F) (aY.tw F) (eW.tw F)) ((bp.eqX F (gp.tw F) (eO.tw F) (dX.tw F) (eK.tw F) (aY.tw F) (eW.tw F) _ H).trans h) (by kernel_rfl)
 ·cases h
theorem bp.T {F:Nat} {aa:Sl} {H:Hp} {v:AV} {H':Hp} (h:bp.tw F aa H=some (v,H')):Go.AE.T Try.prog 5 [(.sl aa)] H v H':=bp.k F _ _ _ _ ((mk0_E (bp.tw F) aa H).trans h)
end
end Go.Proofs.Ytokekkacliomkaa.AE
