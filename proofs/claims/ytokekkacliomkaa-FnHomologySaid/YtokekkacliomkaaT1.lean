import Derived.Test.YtokekkacliomkaaTab1
set_option linter.unusedVariables false
set_option linter.unusedSimpArgs false
namespace Go.Proofs.Ytokekkacliomkaa.AE
open Go Go.AE Go.Proofs IntKind
variable (F:Nat)
set_option linter.unusedVariables false
set_option maxHeartbeats 4000000
set_option maxRecDepth 100000
noncomputable section
def ka.twX (F:Nat) (aa:Sl) (H:Hp):OA:=some ((.bool (decide ((aa.n:Int)>4096))),H)
def ka.tw:=ka.twX F
def mk0 (g:agZ) (args:ag3) (H:Hp):OA:=match args with
 | [(.sl aa)]=>g aa H
 | _=>none
theorem mk0_E (g:agZ) (aa:Sl) (H:Hp):mk0 g [(.sl aa)] H=g aa H:=rfl
theorem ka.k:Ok Try.prog 12 (mk0 (ka.tw F)):=by
 intro args H v H' h
 unfold mk0 at h
 split at h
 ·exact ok0 Try.func12 (Eq.trans (by kernel_rfl) h) (by kernel_rfl) (by kernel_rfl)
 ·cases h
def dy.l29 (F:Nat) :Nat->Sl->Nat->Nat->Int->Hp->OA
 | 0,_,_,_,_,_=>none
 | hJ+1,jA,ny,rv,ll,H7=>(bif (decide (ll<(jA.n:Int))) then ((bif (decide (ll<64)) then ((Hp.ldI H7 .i64 ny (rv+2)).bind λn12=>(Sl.idx jA ll 1).bind λp13=>(Hp.ldI H7 .u8 p13.1 p13.2).bind λn14=>(Hp.st H7 ny (rv+2) (.int .i64 (Int.tmod (wrap .i64 ((wrap .i64 (n12 * 37))+(wrap .i64 n14))) 2147483647))).bind λH15=>dy.l29 F hJ jA ny rv (wrap .i64 (ll+1)) H15) else (some ((.ptr ny rv),H7)))) else (some ((.ptr ny rv),H7)))
termination_by structural n=>n
def dy.twX (aa:Sl) (H:Hp):OA:=(Hp.new H [(.sl aa),(.int .i64 0),(.int .i64 97531)]).bind λH2=>dy.l29 F F aa H.length 0 0 H2
def dy.tw:=dy.twX F
def dy.lh29 (ks:ag0) (n:Nat) (tm:Tm) (H:Hp):OA:=match ks,tm 0,tm 2,tm 3,tm 4 with
 | [],(.sl jA),.nilp,(.ptr ny rv),(.int .i64 ll)=>dy.l29 F n jA ny rv ll H
 | _,_,_,_,_=>none
def dy.lh (p:Nat) (ks:ag0) (n:Nat) (tm:Tm) (H:Hp):OA:=bif p.beq 29 then dy.lh29 F ks n tm H else (none)
def dy.pn:Nat->List Nat:=eL [(5,[15])]
def dy.tb:Nat->List (List Nat):=eL [(5,[[],[],[1],[1,2],[1,2,3],[1,2,3,4],[],[],[6,7],[6,7,8],[6,7,8,9],[1,2,3,4,5,6,7,8,9,10],[1,2,3,4,5,6,7,8,9,10,11],[0,1,2,3,4,5,6,7,8,9,10,11,12],[0,1,2,3,4,5,6,7,8,9,10,11,12,13],[0,1,2,3,4,5,6,7,8,9,10,11,12,13,14]])]
theorem dy.loops:LO (cn []) dy.pn (dy.lh F) F Try.f57:=
 (ae.rt (ae.rt (ae.lt (ae.rt (ae.block (ae.la (λn tm H r h=>by change dy.lh29 F [] n tm H=_ at h;unfold dy.lh29 at h;split at h;have e:eE tm [(0,_),(2,_),(3,_),(4,_)]:=⟨‹_›,‹_›,‹_›,‹_›,trivial⟩;obtain _ | k29:=n;cases h;exact ⟨_,rfl,by rw [<- eG e];exact Eq.trans (by kernel_rfl) h⟩;cases h) λk29=>ae.no))))))
theorem dy.k:Ok Try.prog 57 (mk0 (dy.tw F)):=by
 intro args H v H' h
 unfold mk0 at h
 split at h
 ·exact okT (PN:=dy.pn) (LH:=(dy.lh F)) (F:=F) (TB:=dy.tb) Try.func57 dP (dy.loops F) (Eq.trans (by kernel_rfl) h) (by kernel_rfl)
 ·cases h
def bO.j1 (F:Nat) (kM:Int) (tB:Int) (H37:Hp):OA:=(if kM=0 then none else (some ((.int .i64 (Int.tmod tB kM)),H37)))
def bO.j2 (tC:Int) (tD:Int) (H28:Hp):OA:=bO.j1 F tC tD H28
def bO.j3 (F:Nat) (p_:Int) (mN:Int) (H45:Hp):OA:=(if p_=0 then none else (some ((.int .i64 (Int.tmod mN p_)),H45)))
def bO.twX (aa:Nat) (ac:Nat) (af:Int) (H:Hp):OA:=(bif (decide (af<=1)) then (some ((.int .i64 0),H)) else ((Hp.ldI H .i64 aa (ac+2)).bind λn4=>(Hp.st H aa (ac+2) (.int .i64 (Int.tmod (wrap .i64 ((wrap .i64 (n4 * 48271))+11)) 2147483647))).bind λH5=>(Hp.ldI H5 .i64 aa (ac+2)).bind λn6=>(Hp.ldI H5 .i64 aa (ac+1)).bind λn7=>(Hp.ldSl H5 aa ac).bind λs8=>(bif (decide (n7<(s8.n:Int))) then ((Hp.ldSl H5 aa ac).bind λs9=>(Hp.ldI H5 .i64 aa (ac+1)).bind λn10=>(Sl.idx s9 n10 1).bind λp11=>(Hp.ldI H5 .u8 p11.1 p11.2).bind λn12=>(Hp.ldI H5 .i64 aa (ac+1)).bind λn13=>(Hp.st H5 aa (ac+1) (.int .i64 (wrap .i64 (n13+1)))).bind λH14=>(bif (decide (af<=256)) then ((Hp.ldI H14 .i64 aa (ac+1)).bind λn15=>(bif ((Int.tmod n15 2)==0) then ((Hp.ldSl H14 aa ac).bind λs16=>(Hp.ldI H14 .i64 aa (ac+1)).bind λn17=>(Sl.idx s16 (wrap .i64 (n17 - 1)) 1).bind λp18=>(Hp.ldI H14 .u8 p18.1 p18.2).bind λn19=>bO.j2 F af (wrap .i64 n19) H14) else (bO.j2 F af (wrap .i64 ((wrap .i64 (Int.tdiv n6 11))+(wrap .i64 n12))) H14))) else (bO.j1 F af (wrap .i64 ((wrap .i64 (Int.tdiv n6 11))+(wrap .i64 n12))) H14))) else (bO.j3 F af (wrap .i64 (Int.tdiv n6 11)) H5))))
def bO.tw:=bO.twX F
def bO.tb:Nat->List (List Nat):=eL [(5,[[],[0],[0,1],[0,1,2],[],[4],[4,5],[4,5,6],[4,5,6,7],[0,1,2,3,4,5,6,7,8]]),(6,[[],[],[1],[1,2],[1,2,3],[],[5],[5,6],[5,6,7],[1,2,3,4,5,6,7,8],[1,2,3,4,5,6,7,8,9],[1,2,3,4,5,6,7,8,9,10],[0,1,2,3,4,5,6,7,8,9,10,11],[0,1,2,3,4,5,6,7,8,9,10,11,12]]),(9,[[],[0],[0,1],[0,1,2],[],[4],[4,5],[4,5,6],[4,5,6,7],[0,1,2,3,4,5,6,7,8],[0,1,2,3,4,5,6,7,8,9],[0,1,2,3,4,5,6,7,8,9,10],[0,1,2,3,4,5,6,7,8,9,10,11]])]
def mk1 (g:agW) (args:ag3) (H:Hp):OA:=match args with
 | [(.ptr aa ac),(.int .i64 af)]=>g aa ac af H
 | _=>none
theorem mk1_E (g:agW) (aa:Nat) (ac:Nat) (af:Int) (H:Hp):mk1 g [(.ptr aa ac),(.int .i64 af)] H=g aa ac af H:=rfl
theorem bO.k:Ok Try.prog 58 (mk1 (bO.tw F)):=by
 intro args H v H' h
 unfold mk1 at h
 split at h
 ·exact okT (PN:=cE) (LH:=lh0) (F:=F) (TB:=bO.tb) Try.func58 dP ae.no (Eq.trans (by kernel_rfl) h) (by kernel_rfl)
 ·cases h
def eH.twX (F:Nat) (aa:Int) (aQ:Int) (H:Hp):OA:=(Hp.new H [.int .i64 0,.int .i64 0,.sl ⟨none,0,.ex 0⟩]).bind λH3=>(Hp.mk H3 [.int .i64 0] 8 (wrap .i64 (aa * aQ)) (wrap .i64 (aa * aQ))).bind λm4=>(Hp.st m4.2 H.length 0 (.int .i64 aa)).bind λH5=>(Hp.st H5 H.length (0+1) (.int .i64 aQ)).bind λH6=>(Hp.st H6 H.length (0+1+1) (.sl m4.1)).bind λH7=>(Hp.ldI H7 .i64 H.length 0).bind λn8=>(Hp.ldI H7 .i64 H.length (0+1)).bind λn9=>(Hp.ldSl H7 H.length (0+2)).bind λs10=>some ((.agg [(.int .i64 n8),(.int .i64 n9),(.sl s10)]),H7)
def eH.tw:=eH.twX F
def mk2 (g:ag2) (args:ag3) (H:Hp):OA:=match args with
 | [(.int .i64 aa),(.int .i64 aQ)]=>g aa aQ H
 | _=>none
theorem mk2_E (g:ag2) (aa:Int) (aQ:Int) (H:Hp):mk2 g [(.int .i64 aa),(.int .i64 aQ)] H=g aa aQ H:=rfl
theorem eH.k:Ok Try.prog 63 (mk2 (eH.tw F)):=by
 intro args H v H' h
 unfold mk2 at h
 split at h
 ·exact ok0 Try.func63 (Eq.trans (by kernel_rfl) h) (by kernel_rfl) (by kernel_rfl)
 ·cases h
def cw.j2 (F:Nat) (co:ag2) (cp:agW) (C61_:ahO) (DU:Nat) (V_:Nat) (yS:Nat) (Wa:Nat) (yT:Nat) (Wb:Nat) (tE:Int) (tF:Int) (H85:Hp):OA:=C61_ DU V_ yS Wa yT Wb tE (wrap .i64 (tF+1)) H85
def cw.l61 (F:Nat) (co:ag2) (cp:agW) :Nat->Nat->Nat->Nat->Nat->Nat->Nat->Int->Int->Hp->OA
 | 0,_,_,_,_,_,_,_,_,_=>none
 | nz+1,tG,tH,mh,oT,ln,nA,lp,lq,H30=>(Hp.ldSl H30 ln (nA+2)).bind λs63=>(bif (decide (lq<(s63.n:Int))) then ((cp tG tH 3 H30).bind λr64=>((r64.1).asI .i64).bind λn65=>(bif (decide (n65>0)) then ((Hp.ldSl r64.2 ln (nA+2)).bind λs66=>(cp tG tH (wrap .i64 ((wrap .i64 (2 * lp))+1)) r64.2).bind λr67=>((r67.1).asI .i64).bind λn68=>(Sl.idx s66 lq 1).bind λp69=>(Hp.st r67.2 p69.1 p69.2 (.int .i64 (wrap .i64 (n68 - lp)))).bind λH70=>(ifW (((((Hp.ldSl r67.2 ln (nA+2)).bind λs71=>iN (.sl s66) r67.2 (.sl s71) r67.2)=some ())/\(((Hp.ldSl r64.2 ln (nA+2)).bind λs72=>iN (.sl s66) r64.2 (.sl s72) r64.2)=some ())/\True)/\True) (cw.j2 F co cp (cw.l61 F co cp nz) tG tH mh oT ln nA lp lq H70))) else (cw.j2 F co cp (cw.l61 F co cp nz) tG tH mh oT ln nA lp lq r64.2))) else ((Hp.ldI H30 .i64 ln nA).bind λn86=>(Hp.ldI H30 .i64 ln (nA+1)).bind λn87=>(Hp.ldSl H30 ln (nA+2)).bind λs88=>(Hp.st H30 mh oT (.int .i64 n86)).bind λH89=>(Hp.st H89 mh (oT+1) (.int .i64 n87)).bind λH90=>(Hp.st H90 mh (oT+1+1) (.sl s88)).bind λH91=>(Hp.ldI H91 .i64 mh oT).bind λn92=>(Hp.ldI H91 .i64 mh (oT+1)).bind λn93=>(Hp.ldSl H91 mh (oT+2)).bind λs94=>some ((.agg [(.int .i64 n92),(.int .i64 n93),(.sl s94)]),H91)))
termination_by structural n=>n
def cw.twX (co:ag2) (cp:agW) (aa:Nat) (ac:Nat) (af:Int) (cy:Int) (H:Hp):OA:=(Hp.new H [.int .i64 0,.int .i64 0,.sl ⟨none,0,.ex 0⟩]).bind λH5=>(co af cy H5).bind λr6=>((r6.1).asAgg 3).bind λl7=>(l7[0]?).bind λv8=>((v8).asI .i64).bind λn9=>(l7[1]?).bind λv10=>((v10).asI .i64).bind λn11=>(l7[2]?).bind λv12=>((v12).asSl).bind λs13=>(Hp.new r6.2 [.int .i64 0,.int .i64 0,.sl ⟨none,0,.ex 0⟩]).bind λH14=>(Hp.st H14 r6.2.length 0 (.int .i64 n9)).bind λH15=>(Hp.st H15 r6.2.length (0+1) (.int .i64 n11)).bind λH16=>(Hp.st H16 r6.2.length (0+1+1) (.sl s13)).bind λH17=>(cp aa ac 6 H17).bind λr18=>((r18.1).asI .i64).bind λn19=>cw.l61 F co cp F aa ac H.length 0 r6.2.length 0 (wrap .i64 (1+n19)) 0 r18.2
def cw.tw:=cw.twX F (eH.tw F) (bO.tw F)
def cw.lh61 (co:ag2) (cp:agW) (ks:ag0) (n:Nat) (tm:Tm) (H:Hp):OA:=match ks,tm 0,tm 6,tm 7,tm 8,tm 9 with
 | [],(.ptr tG tH),(.ptr mh oT),(.ptr ln nA),(.int .i64 lp),(.int .i64 lq)=>cw.l61 F co cp n tG tH mh oT ln nA lp lq H
 | _,_,_,_,_,_=>none
def cw.lh (co:ag2) (cp:agW) (p:Nat) (ks:ag0) (n:Nat) (tm:Tm) (H:Hp):OA:=bif p.beq 61 then cw.lh61 F co cp ks n tm H else (none)
def cw.pn:Nat->List Nat:=eL [(7,[7,11,999,1001])]
def cw.tb:Nat->List (List Nat):=eL [(7,[[],[0],[],[],[],[4],[4,5],[3,4,5,6],[],[3,4,5,6,7,8],[0,1,2,3,4,5,6,7,8,9],[0,1,2,3,4,5,6,7,8,9,10]])]
def mk3 (g:ag8) (args:ag3) (H:Hp):OA:=match args with
 | [(.ptr aa ac),(.int .i64 af),(.int .i64 cy)]=>g aa ac af cy H
 | _=>none
theorem mk3_E (g:ag8) (aa:Nat) (ac:Nat) (af:Int) (cy:Int) (H:Hp):mk3 g [(.ptr aa ac),(.int .i64 af),(.int .i64 cy)] H=g aa ac af cy H:=rfl
def cw.cs (F:Nat) (co:ag2) (cp:agW):Cs:=[(63,mk2 co),(58,mk1 cp)]
theorem cw.loops (co:ag2) (cp:agW):LO (cn (cw.cs F co cp)) cw.pn (cw.lh F co cp) F Try.f59:=
 (ae.rt (ae.rt (ae.rt (ae.lt (ae.rt (ae.block (ae.la (λn tm H r h=>by change cw.lh61 F co cp [] n tm H=_ at h;unfold cw.lh61 at h;split at h;have e:eE tm [(0,_),(6,_),(7,_),(8,_),(9,_)]:=⟨‹_›,‹_›,‹_›,‹_›,‹_›,trivial⟩;obtain _ | k61:=n;cases h;exact ⟨_,rfl,by rw [<- eG e];exact Eq.trans (by kernel_rfl) h⟩;cases h) λk61=>ae.no)))))))
theorem cw.eqX (co:ag2) (cp:agW) (aa:Nat) (ac:Nat) (af:Int) (cy:Int) (H:Hp):EX (cn (cw.cs F co cp)) cw.pn (cw.lh F co cp) F Try.f59 [(.ptr aa ac),(.int .i64 af),(.int .i64 cy)] H=cw.twX F co cp aa ac af cy H:=by kernel_rfl
theorem cw.k:Ok Try.prog 59 (mk3 (cw.tw F)):=by
 intro args H v H' h
 unfold mk3 at h
 split at h
 ·exact okT (TB:=cw.tb) Try.func59 (bH (eH.k F) (bH (bO.k F) dP)) (cw.loops F (eH.tw F) (bO.tw F)) ((cw.eqX F (eH.tw F) (bO.tw F) _ _ _ _ H).trans h) (by kernel_rfl)
 ·cases h
def fz.twX (F:Nat) (cp:agW) (dF:ag8) (aa:Nat) (ac:Nat) (H:Hp):OA:=(Hp.new H [.int .i64 0,.int .i64 0,.sl ⟨none,0,.ex 0⟩]).bind λH3=>(cp aa ac 5 H3).bind λr4=>((r4.1).asI .i64).bind λn5=>(cp aa ac 5 r4.2).bind λr6=>((r6.1).asI .i64).bind λn7=>(dF aa ac n5 n7 r6.2).bind λr8=>((r8.1).asAgg 3).bind λl9=>(l9[0]?).bind λv10=>((v10).asI .i64).bind λn11=>(l9[1]?).bind λv12=>((v12).asI .i64).bind λn13=>(l9[2]?).bind λv14=>((v14).asSl).bind λs15=>(Hp.new r8.2 [.int .i64 0,.int .i64 0,.sl ⟨none,0,.ex 0⟩]).bind λH16=>(Hp.st H16 r8.2.length 0 (.int .i64 n11)).bind λH17=>(Hp.st H17 r8.2.length (0+1) (.int .i64 n13)).bind λH18=>(Hp.st H18 r8.2.length (0+1+1) (.sl s15)).bind λH19=>(cp aa ac 24 H19).bind λr20=>((r20.1).asI .i64).bind λn21=>(bif (n21==0) then ((Hp.ldI r20.2 .i64 r8.2.length 0).bind λn22=>(Hp.st r20.2 r8.2.length 0 (.int .i64 (wrap .i64 (n22+1)))).bind λH23=>(Hp.ldI H23 .i64 r8.2.length 0).bind λn24=>(Hp.ldI H23 .i64 r8.2.length (0+1)).bind λn25=>(Hp.ldSl H23 r8.2.length (0+2)).bind λs26=>(Hp.st H23 H.length 0 (.int .i64 n24)).bind λH27=>(Hp.st H27 H.length (0+1) (.int .i64 n25)).bind λH28=>(Hp.st H28 H.length (0+1+1) (.sl s26)).bind λH29=>(Hp.ldI H29 .i64 H.length 0).bind λn30=>(Hp.ldI H29 .i64 H.length (0+1)).bind λn31=>(Hp.ldSl H29 H.length (0+2)).bind λs32=>some ((.agg [(.int .i64 n30),(.int .i64 n31),(.sl s32)]),H29)) else ((bif (n21==1) then ((Hp.ldSl r20.2 r8.2.length 2).bind λs33=>(Hp.new r20.2 [(.int .i64 0)]).bind λH34=>(Sl.row H34 (⟨some (r20.2.length,0),1,.ex 1⟩:Sl) 1).bind λxs36=>(Hp.app H34 1 8 s33 (⟨some (r20.2.length,0),1,.ex 1⟩:Sl).n xs36).bind λa35=>(Hp.st a35.2 r8.2.length 2 (.sl a35.1)).bind λH37=>(Hp.ldI H37 .i64 r8.2.length 0).bind λn38=>(Hp.ldI H37 .i64 r8.2.length (0+1)).bind λn39=>(Hp.ldSl H37 r8.2.length (0+2)).bind λs40=>(Hp.st H37 H.length 0 (.int .i64 n38)).bind λH41=>(Hp.st H41 H.length (0+1) (.int .i64 n39)).bind λH42=>(Hp.st H42 H.length (0+1+1) (.sl s40)).bind λH43=>(Hp.ldI H43 .i64 H.length 0).bind λn44=>(Hp.ldI H43 .i64 H.length (0+1)).bind λn45=>(Hp.ldSl H43 H.length (0+2)).bind λs46=>some ((.agg [(.int .i64 n44),(.int .i64 n45),(.sl s46)]),H43)) else ((bif (n21==2) then ((Hp.ldSl r20.2 r8.2.length 2).bind λs47=>(bif (decide ((s47.n:Int)>0)) then ((Hp.ldSl r20.2 r8.2.length 2).bind λs48=>(cp aa ac (s48.n:Int) r20.2).bind λr49=>((r49.1).asI .i64).bind λn50=>(Hp.ldSl r49.2 r8.2.length 2).bind λs51=>(Hp.new r49.2 [(.int .i64 1000000000000),(.int .i64 1000000000001),(.int .i64 (-1000000000000)),(.int .i64 (-1000000000001)),(.int .i64 (-9223372036854775808))]).bind λH52=>(cp aa ac 5 H52).bind λr53=>((r53.1).asI .i64).bind λn54=>(Sl.idx (⟨some (r49.2.length,0),5,.ex 5⟩:Sl) n54 1).bind λp55=>(Hp.ldI r53.2 .i64 p55.1 p55.2).bind λn56=>(Sl.idx s51 n50 1).bind λp57=>(Hp.st r53.2 p57.1 p57.2 (.int .i64 n56)).bind λH58=>(ifW (((wW (some (AV.sl ⟨some (0,0),5,.ex 5⟩,[⟨[(.int .i64 1000000000000),(.int .i64 1000000000001),(.int .i64 (-1000000000000)),(.int .i64 (-1000000000001)),(.int .i64 (-9223372036854775808))],true,true⟩])) (.sl (⟨some (r49.2.length,0),5,.ex 5⟩:Sl)) r53.2)/\(wW (some (AV.sl ⟨some (0,0),5,.ex 5⟩,[⟨[(.int .i64 1000000000000),(.int .i64 1000000000001),(.int .i64 (-1000000000000)),(.int .i64 (-1000000000001)),(.int .i64 (-9223372036854775808))],true,true⟩])) (.sl (⟨some (r49.2.length,0),5,.ex 5⟩:Sl)) H52)/\(wW (some (AV.sl ⟨some (0,0),5,.ex 5⟩,[⟨[(.int .i64 1000000000000),(.int .i64 1000000000001),(.int .i64 (-1000000000000)),(.int .i64 (-1000000000001)),(.int .i64 (-9223372036854775808))],true,true⟩])) (.sl (⟨some (r49.2.length,0),5,.ex 5⟩:Sl)) r49.2)/\True)/\((((Hp.ldSl r53.2 r8.2.length 2).bind λs59=>iN (.sl s51) r53.2 (.sl s59) r53.2)=some ())/\(((Hp.ldSl H52 r8.2.length 2).bind λs60=>iN (.sl s51) H52 (.sl s60) H52)=some ())/\(((Hp.ldSl r49.2 r8.2.length 2).bind λs61=>iN (.sl s51) r49.2 (.sl s61) r49.2)=some ())/\True)/\True) ((Hp.ldI H58 .i64 r8.2.length 0).bind λn62=>(Hp.ldI H58 .i64 r8.2.length (0+1)).bind λn63=>(Hp.ldSl H58 r8.2.length (0+2)).bind λs64=>(Hp.st H58 H.length 0 (.int .i64 n62)).bind λH65=>(Hp.st H65 H.length (0+1) (.int .i64 n63)).bind λH66=>(Hp.st H66 H.length (0+1+1) (.sl s64)).bind λH67=>(Hp.ldI H67 .i64 H.length 0).bind λn68=>(Hp.ldI H67 .i64 H.length (0+1)).bind λn69=>(Hp.ldSl H67 H.length (0+2)).bind λs70=>some ((.agg [(.int .i64 n68),(.int .i64 n69),(.sl s70)]),H67)))) else ((Hp.ldI r20.2 .i64 r8.2.length 0).bind λn71=>(Hp.ldI r20.2 .i64 r8.2.length (0+1)).bind λn72=>(Hp.ldSl r20.2 r8.2.length (0+2)).bind λs73=>(Hp.st r20.2 H.length 0 (.int .i64 n71)).bind λH74=>(Hp.st H74 H.length (0+1) (.int .i64 n72)).bind λH75=>(Hp.st H75 H.length (0+1+1) (.sl s73)).bind λH76=>(Hp.ldI H76 .i64 H.length 0).bind λn77=>(Hp.ldI H76 .i64 H.length (0+1)).bind λn78=>(Hp.ldSl H76 H.length (0+2)).bind λs79=>some ((.agg [(.int .i64 n77),(.int .i64 n78),(.sl s79)]),H76)))) else ((bif (n21==3) then ((Hp.new r20.2 [(.int .i64 48),(.int .i64 49),(.int .i64 (-1))]).bind λH80=>(cp aa ac 3 H80).bind λr81=>((r81.1).asI .i64).bind λn82=>(Sl.idx (⟨some (r20.2.length,0),3,.ex 3⟩:Sl) n82 1).bind λp83=>(Hp.ldI r81.2 .i64 p83.1 p83.2).bind λn84=>(Hp.st r81.2 r8.2.length 0 (.int .i64 0)).bind λH85=>(Hp.st H85 r8.2.length (0+1) (.int .i64 n84)).bind λH86=>(Hp.st H86 r8.2.length (0+1+1) (.sl (⟨none,0,.ex 0⟩:Sl))).bind λH87=>(Hp.ldI H87 .i64 r8.2.length 0).bind λn88=>(Hp.ldI H87 .i64 r8.2.length (0+1)).bind λn89=>(Hp.ldSl H87 r8.2.length (0+2)).bind λs90=>(Hp.st H87 H.length 0 (.int .i64 n88)).bind λH91=>(Hp.st H91 H.length (0+1) (.int .i64 n89)).bind λH92=>(Hp.st H92 H.length (0+1+1) (.sl s90)).bind λH93=>(Hp.ldI H93 .i64 H.length 0).bind λn94=>(Hp.ldI H93 .i64 H.length (0+1)).bind λn95=>(Hp.ldSl H93 H.length (0+2)).bind λs96=>some ((.agg [(.int .i64 n94),(.int .i64 n95),(.sl s96)]),H93)) else ((Hp.ldI r20.2 .i64 r8.2.length 0).bind λn97=>(Hp.ldI r20.2 .i64 r8.2.length (0+1)).bind λn98=>(Hp.ldSl r20.2 r8.2.length (0+2)).bind λs99=>(Hp.st r20.2 H.length 0 (.int .i64 n97)).bind λH100=>(Hp.st H100 H.length (0+1) (.int .i64 n98)).bind λH101=>(Hp.st H101 H.length (0+1+1) (.sl s99)).bind λH102=>(Hp.ldI H102 .i64 H.length 0).bind λn103=>(Hp.ldI H102 .i64 H.length (0+1)).bind λn104=>(Hp.ldSl H102 H.length (0+2)).bind λs105=>some ((.agg [(.int .i64 n103),(.int .i64 n104),(.sl s105)]),H102)))))))))
def fz.tw:=fz.twX F (bO.tw F) (cw.tw F)
def fz.pn:Nat->List Nat:=eL [(10,[5,9,999,1001,1003])]
def fz.tb:Nat->List (List Nat):=eL [(10,[[],[0],[],[],[],[4],[3,4,5],[3,4,5,6],[0,1,2,3,4,5,6,7],[0,1,2,3,4,5,6,7,8]])]
def mk4 (g:ag_) (args:ag3) (H:Hp):OA:=match args with
 | [(.ptr aa ac)]=>g aa ac H
 | _=>none
theorem mk4_E (g:ag_) (aa:Nat) (ac:Nat) (H:Hp):mk4 g [(.ptr aa ac)] H=g aa ac H:=rfl
def fz.cs (F:Nat) (cp:agW) (dF:ag8):Cs:=[(58,mk1 cp),(59,mk3 dF)]
theorem fz.eqX (cp:agW) (dF:ag8) (aa:Nat) (ac:Nat) (H:Hp):EX (cn (fz.cs F cp dF)) fz.pn lh0 F Try.f60 [(.ptr aa ac)] H=fz.twX F cp dF aa ac H:=by kernel_rfl
theorem fz.k:Ok Try.prog 60 (mk4 (fz.tw F)):=by
 intro args H v H' h
 unfold mk4 at h
 split at h
 ·exact okT (TB:=fz.tb) Try.func60 (bH (bO.k F) (bH (cw.k F) dP)) ae.no ((fz.eqX F (bO.tw F) (cw.tw F) _ _ H).trans h) (by kernel_rfl)
 ·cases h
def dt.l29 (F:Nat) (co:ag2) :Nat->Int->Nat->Nat->Nat->Nat->Int->Hp->OA
 | 0,_,_,_,_,_,_,_=>none
 | hJ+1,mO,ed,kb,iH,gP,iv,H21=>(bif (decide (iv<mO)) then ((Hp.ldSl H21 iH (gP+2)).bind λs34=>(Sl.idx s34 (wrap .i64 ((wrap .i64 (iv * mO))+iv)) 1).bind λp35=>(Hp.st H21 p35.1 p35.2 (.int .i64 1)).bind λH36=>dt.l29 F co hJ mO ed kb iH gP (wrap .i64 (iv+1)) H36) else ((Hp.ldI H21 .i64 iH gP).bind λn37=>(Hp.ldI H21 .i64 iH (gP+1)).bind λn38=>(Hp.ldSl H21 iH (gP+2)).bind λs39=>(Hp.st H21 ed kb (.int .i64 n37)).bind λH40=>(Hp.st H40 ed (kb+1) (.int .i64 n38)).bind λH41=>(Hp.st H41 ed (kb+1+1) (.sl s39)).bind λH42=>(Hp.ldI H42 .i64 ed kb).bind λn43=>(Hp.ldI H42 .i64 ed (kb+1)).bind λn44=>(Hp.ldSl H42 ed (kb+2)).bind λs45=>some ((.agg [(.int .i64 n43),(.int .i64 n44),(.sl s45)]),H42)))
termination_by structural n=>n
def dt.twX (co:ag2) (aa:Int) (H:Hp):OA:=(Hp.new H [.int .i64 0,.int .i64 0,.sl ⟨none,0,.ex 0⟩]).bind λH2=>(co aa aa H2).bind λr3=>((r3.1).asAgg 3).bind λl4=>(l4[0]?).bind λv5=>((v5).asI .i64).bind λn6=>(l4[1]?).bind λv7=>((v7).asI .i64).bind λn8=>(l4[2]?).bind λv9=>((v9).asSl).bind λs10=>(Hp.new r3.2 [.int .i64 0,.int .i64 0,.sl ⟨none,0,.ex 0⟩]).bind λH11=>(Hp.st H11 r3.2.length 0 (.int .i64 n6)).bind λH12=>(Hp.st H12 r3.2.length (0+1) (.int .i64 n8)).bind λH13=>(Hp.st H13 r3.2.length (0+1+1) (.sl s10)).bind λH14=>dt.l29 F co F aa H.length 0 r3.2.length 0 0 H14
def dt.tw:=dt.twX F (eH.tw F)
def dt.lh29 (co:ag2) (ks:ag0) (n:Nat) (tm:Tm) (H:Hp):OA:=match ks,tm 0,tm 2,tm 3,tm 4 with
 | [],(.int .i64 mO),(.ptr ed kb),(.ptr iH gP),(.int .i64 iv)=>dt.l29 F co n mO ed kb iH gP iv H
 | _,_,_,_,_=>none
def dt.lh (co:ag2) (p:Nat) (ks:ag0) (n:Nat) (tm:Tm) (H:Hp):OA:=bif p.beq 29 then dt.lh29 F co ks n tm H else (none)
def mk5 (g:agY) (args:ag3) (H:Hp):OA:=match args with
 | [(.int .i64 aa)]=>g aa H
 | _=>none
theorem mk5_E (g:agY) (aa:Int) (H:Hp):mk5 g [(.int .i64 aa)] H=g aa H:=rfl
def dt.cs (F:Nat) (co:ag2):Cs:=[(63,mk2 co)]
theorem dt.loops (co:ag2):LO (cn (dt.cs F co)) cE (dt.lh F co) F Try.f119:=
 (ae.rt (ae.rt (ae.lt (ae.rt (ae.block (ae.la (λn tm H r h=>by change dt.lh29 F co [] n tm H=_ at h;unfold dt.lh29 at h;split at h;have e:eE tm [(0,_),(2,_),(3,_),(4,_)]:=⟨‹_›,‹_›,‹_›,‹_›,trivial⟩;obtain _ | k29:=n;cases h;exact ⟨_,rfl,by rw [<- eG e];exact Eq.trans (by kernel_rfl) h⟩;cases h) λk29=>ae.no))))))
theorem dt.eqX (co:ag2) (aa:Int) (H:Hp):EX (cn (dt.cs F co)) cE (dt.lh F co) F Try.f119 [(.int .i64 aa)] H=dt.twX F co aa H:=by kernel_rfl
theorem dt.k:Ok Try.prog 119 (mk5 (dt.tw F)):=by
 intro args H v H' h
 unfold mk5 at h
 split at h
 ·exact okT (TB:=cE) Try.func119 (bH (eH.k F) dP) (dt.loops F (eH.tw F)) ((dt.eqX F (eH.tw F) _ H).trans h) (by kernel_rfl)
 ·cases h
def bm.twX (F:Nat) (aa:Int) (ac:Int) (bM:Sl) (aA:Int) (cG:Int) (H:Hp):OA:=(Hp.new H [(.int .i64 aa),(.int .i64 ac),(.sl bM)]).bind λH6=>(Hp.ldSl H6 H.length 2).bind λs7=>(Hp.ldI H6 .i64 H.length 1).bind λn8=>(Sl.idx s7 (wrap .i64 ((wrap .i64 (aA * n8))+cG)) 1).bind λp9=>(Hp.ldI H6 .i64 p9.1 p9.2).bind λn10=>some ((.int .i64 n10),H6)
def bm.tw:=bm.twX F
def mk6 (g:agU) (args:ag3) (H:Hp):OA:=match args with
 | [(.agg [(.int .i64 aa),(.int .i64 ac),(.sl bM)]),(.int .i64 aA),(.int .i64 cG)]=>g aa ac bM aA cG H
 | _=>none
theorem mk6_E (g:agU) (aa:Int) (ac:Int) (bM:Sl) (aA:Int) (cG:Int) (H:Hp):mk6 g [(.agg [(.int .i64 aa),(.int .i64 ac),(.sl bM)]),(.int .i64 aA),(.int .i64 cG)] H=g aa ac bM aA cG H:=rfl
theorem bm.k:Ok Try.prog 62 (mk6 (bm.tw F)):=by
 intro args H v H' h
 unfold mk6 at h
 split at h
 ·exact ok0 Try.func62 (Eq.trans (by kernel_rfl) h) (by kernel_rfl) (by kernel_rfl)
 ·cases h
def fa.twX (F:Nat) (aa:Int) (H:Hp):OA:=some ((.int .i64 (if (wrap .i64 (0 - aa))>aa then (wrap .i64 (0 - aa)) else aa)),H)
def fa.tw:=fa.twX F
theorem fa.k:Ok Try.prog 130 (mk5 (fa.tw F)):=by
 intro args H v H' h
 unfold mk5 at h
 split at h
 ·exact ok0 Try.func130 (Eq.trans (by kernel_rfl) h) (by kernel_rfl) (by kernel_rfl)
 ·cases h
def cS.l7 (F:Nat) (aj:agU) :Nat->Int->Int->Nat->Nat->Int->Hp->OA
 | 0,_,_,_,_,_,_=>none
 | lr+1,hO,hQ,fK,dS,fD,H15=>(Hp.ldI H15 .i64 fK (dS+1)).bind λn35=>(bif (decide (fD<n35)) then ((Hp.ldI H15 .i64 fK dS).bind λn36=>(Hp.ldI H15 .i64 fK (dS+1)).bind λn37=>(Hp.ldSl H15 fK (dS+2)).bind λs38=>(aj n36 n37 s38 hO fD H15).bind λr39=>((r39.1).asI .i64).bind λn40=>(Hp.ldSl r39.2 fK (dS+2)).bind λs41=>(Hp.ldI r39.2 .i64 fK (dS+1)).bind λn42=>(Hp.ldI r39.2 .i64 fK dS).bind λn43=>(Hp.ldI r39.2 .i64 fK (dS+1)).bind λn44=>(Hp.ldSl r39.2 fK (dS+2)).bind λs45=>(aj n43 n44 s45 hQ fD r39.2).bind λr46=>((r46.1).asI .i64).bind λn47=>(if bk r39.2 r46.2 then ((Sl.idx s41 (wrap .i64 ((wrap .i64 (hO * n42))+fD)) 1).bind λp48=>(Hp.st r46.2 p48.1 p48.2 (.int .i64 n47)).bind λH49=>(Hp.ldSl H49 fK (dS+2)).bind λs50=>(Hp.ldI H49 .i64 fK (dS+1)).bind λn51=>(Sl.idx s50 (wrap .i64 ((wrap .i64 (hQ * n51))+fD)) 1).bind λp52=>(Hp.st H49 p52.1 p52.2 (.int .i64 n40)).bind λH53=>cS.l7 F aj lr hO hQ fK dS (wrap .i64 (fD+1)) H53) else none)) else (some ((.tup []),H15)))
termination_by structural n=>n
def cS.twX (aj:agU) (aa:Int) (ac:Int) (bM:Sl) (aA:Int) (cG:Int) (H:Hp):OA:=(Hp.new H [(.int .i64 aa),(.int .i64 ac),(.sl bM)]).bind λH6=>cS.l7 F aj F aA cG H.length 0 0 H6
def cS.tw:=cS.twX F (bm.tw F)
def cS.lh7 (aj:agU) (ks:ag0) (n:Nat) (tm:Tm) (H:Hp):OA:=match ks,tm 1,tm 2,tm 3,tm 6 with
 | [],(.int .i64 hO),(.int .i64 hQ),(.ptr fK dS),(.int .i64 fD)=>cS.l7 F aj n hO hQ fK dS fD H
 | _,_,_,_,_=>none
def cS.lh (aj:agU) (p:Nat) (ks:ag0) (n:Nat) (tm:Tm) (H:Hp):OA:=bif p.beq 7 then cS.lh7 F aj ks n tm H else (none)
def cS.pn:Nat->List Nat:=eL [(5,[13])]
def cS.tb:Nat->List (List Nat):=eL [(5,[[],[0],[],[],[3],[2,3,4],[],[2,3,4,5,6],[],[],[],[8,9,10],[0,1,2,3,4,5,6,7,8,9,10,11],[0,1,2,3,4,5,6,7,8,9,10,11,12]])]
def cS.cs (F:Nat) (aj:agU):Cs:=[(62,mk6 aj)]
theorem cS.loops (aj:agU):LO (cn (cS.cs F aj)) cS.pn (cS.lh F aj) F Try.f131:=
 (ae.rt (ae.rt (ae.block (ae.la (λn tm H r h=>by change cS.lh7 F aj [] n tm H=_ at h;unfold cS.lh7 at h;split at h;have e:eE tm [(1,_),(2,_),(3,_),(6,_)]:=⟨‹_›,‹_›,‹_›,‹_›,trivial⟩;obtain _ | k7:=n;cases h;exact ⟨_,rfl,by rw [<- eG e];exact Eq.trans (by kernel_rfl) h⟩;cases h) λk7=>ae.no))))
theorem cS.eqX (aj:agU) (aa:Int) (ac:Int) (bM:Sl) (aA:Int) (cG:Int) (H:Hp):EX (cn (cS.cs F aj)) cS.pn (cS.lh F aj) F Try.f131 [(.agg [(.int .i64 aa),(.int .i64 ac),(.sl bM)]),(.int .i64 aA),(.int .i64 cG)] H=cS.twX F aj aa ac bM aA cG H:=by kernel_rfl
theorem cS.k:Ok Try.prog 131 (mk6 (cS.tw F)):=by
 intro args H v H' h
 unfold mk6 at h
 split at h
 ·exact okT (TB:=cS.tb) Try.func131 (bH (bm.k F) dP) (cS.loops F (bm.tw F)) ((cS.eqX F (bm.tw F) _ _ _ _ _ H).trans h) (by kernel_rfl)
 ·cases h
def cT.l7 (F:Nat) (aj:agU) :Nat->Int->Int->Nat->Nat->Int->Hp->OA
 | 0,_,_,_,_,_,_=>none
 | lr+1,hO,hQ,fK,dS,fD,H15=>(Hp.ldI H15 .i64 fK dS).bind λn35=>(bif (decide (fD<n35)) then ((Hp.ldI H15 .i64 fK dS).bind λn36=>(Hp.ldI H15 .i64 fK (dS+1)).bind λn37=>(Hp.ldSl H15 fK (dS+2)).bind λs38=>(aj n36 n37 s38 fD hO H15).bind λr39=>((r39.1).asI .i64).bind λn40=>(Hp.ldSl r39.2 fK (dS+2)).bind λs41=>(Hp.ldI r39.2 .i64 fK (dS+1)).bind λn42=>(Hp.ldI r39.2 .i64 fK dS).bind λn43=>(Hp.ldI r39.2 .i64 fK (dS+1)).bind λn44=>(Hp.ldSl r39.2 fK (dS+2)).bind λs45=>(aj n43 n44 s45 fD hQ r39.2).bind λr46=>((r46.1).asI .i64).bind λn47=>(if bk r39.2 r46.2 then ((Sl.idx s41 (wrap .i64 ((wrap .i64 (fD * n42))+hO)) 1).bind λp48=>(Hp.st r46.2 p48.1 p48.2 (.int .i64 n47)).bind λH49=>(Hp.ldSl H49 fK (dS+2)).bind λs50=>(Hp.ldI H49 .i64 fK (dS+1)).bind λn51=>(Sl.idx s50 (wrap .i64 ((wrap .i64 (fD * n51))+hQ)) 1).bind λp52=>(Hp.st H49 p52.1 p52.2 (.int .i64 n40)).bind λH53=>cT.l7 F aj lr hO hQ fK dS (wrap .i64 (fD+1)) H53) else none)) else (some ((.tup []),H15)))
termination_by structural n=>n
def cT.twX (aj:agU) (aa:Int) (ac:Int) (bM:Sl) (aA:Int) (cG:Int) (H:Hp):OA:=(Hp.new H [(.int .i64 aa),(.int .i64 ac),(.sl bM)]).bind λH6=>cT.l7 F aj F aA cG H.length 0 0 H6
def cT.tw:=cT.twX F (bm.tw F)
def cT.lh7 (aj:agU) (ks:ag0) (n:Nat) (tm:Tm) (H:Hp):OA:=match ks,tm 1,tm 2,tm 3,tm 6 with
 | [],(.int .i64 hO),(.int .i64 hQ),(.ptr fK dS),(.int .i64 fD)=>cT.l7 F aj n hO hQ fK dS fD H
 | _,_,_,_,_=>none
def cT.lh (aj:agU) (p:Nat) (ks:ag0) (n:Nat) (tm:Tm) (H:Hp):OA:=bif p.beq 7 then cT.lh7 F aj ks n tm H else (none)
def cT.pn:Nat->List Nat:=eL [(5,[13])]
def cT.tb:Nat->List (List Nat):=eL [(5,[[],[0],[],[],[3],[2,3,4],[],[2,3,4,5,6],[],[],[],[8,9,10],[0,1,2,3,4,5,6,7,8,9,10,11],[0,1,2,3,4,5,6,7,8,9,10,11,12]])]
def cT.cs (F:Nat) (aj:agU):Cs:=[(62,mk6 aj)]
theorem cT.loops (aj:agU):LO (cn (cT.cs F aj)) cT.pn (cT.lh F aj) F Try.f201:=
 (ae.rt (ae.rt (ae.block (ae.la (λn tm H r h=>by change cT.lh7 F aj [] n tm H=_ at h;unfold cT.lh7 at h;split at h;have e:eE tm [(1,_),(2,_),(3,_),(6,_)]:=⟨‹_›,‹_›,‹_›,‹_›,trivial⟩;obtain _ | k7:=n;cases h;exact ⟨_,rfl,by rw [<- eG e];exact Eq.trans (by kernel_rfl) h⟩;cases h) λk7=>ae.no))))
theorem cT.eqX (aj:agU) (aa:Int) (ac:Int) (bM:Sl) (aA:Int) (cG:Int) (H:Hp):EX (cn (cT.cs F aj)) cT.pn (cT.lh F aj) F Try.f201 [(.agg [(.int .i64 aa),(.int .i64 ac),(.sl bM)]),(.int .i64 aA),(.int .i64 cG)] H=cT.twX F aj aa ac bM aA cG H:=by kernel_rfl
theorem cT.k:Ok Try.prog 201 (mk6 (cT.tw F)):=by
 intro args H v H' h
 unfold mk6 at h
 split at h
 ·exact okT (TB:=cT.tb) Try.func201 (bH (bm.k F) dP) (cT.loops F (bm.tw F)) ((cT.eqX F (bm.tw F) _ _ _ _ _ H).trans h) (by kernel_rfl)
 ·cases h
def az.l65515 (F:Nat) (aj:agU) (dj:agY) (dW:agU) (dX:agU) :Nat->Nat->Nat->Int->Int->Hp->OA
 | 0,_,_,_,_,_=>none
 | Wc+1,mi,mj,kN,kc,H187=>(Hp.ldI H187 .i64 mi ((mj+3)+1)).bind λn207=>(bif (decide (kc<n207)) then ((Hp.ldSl H187 mi ((mj+3)+2)).bind λs208=>(Hp.ldI H187 .i64 mi ((mj+3)+1)).bind λn209=>(Hp.ldI H187 .i64 mi (mj+3)).bind λn210=>(Hp.ldI H187 .i64 mi ((mj+3)+1)).bind λn211=>(Hp.ldSl H187 mi ((mj+3)+2)).bind λs212=>(aj n210 n211 s212 kN kc H187).bind λr213=>((r213.1).asI .i64).bind λn214=>(if bk H187 r213.2 then ((Sl.idx s208 (wrap .i64 ((wrap .i64 (kN * n209))+kc)) 1).bind λp215=>(Hp.st r213.2 p215.1 p215.2 (.int .i64 (wrap .i64 (0 - n214)))).bind λH216=>(Hp.ldSl H216 mi ((mj+6)+2)).bind λs217=>(Hp.ldI H216 .i64 mi ((mj+6)+1)).bind λn218=>(Hp.ldI H216 .i64 mi (mj+6)).bind λn219=>(Hp.ldI H216 .i64 mi ((mj+6)+1)).bind λn220=>(Hp.ldSl H216 mi ((mj+6)+2)).bind λs221=>(aj n219 n220 s221 kc kN H216).bind λr222=>((r222.1).asI .i64).bind λn223=>(if bk H216 r222.2 then ((Sl.idx s217 (wrap .i64 ((wrap .i64 (kc * n218))+kN)) 1).bind λp224=>(Hp.st r222.2 p224.1 p224.2 (.int .i64 (wrap .i64 (0 - n223)))).bind λH225=>az.l65515 F aj dj dW dX Wc mi mj kN (wrap .i64 (kc+1)) H225) else none)) else none)) else (some ((.bool true),H187)))
termination_by structural n=>n
def az.j5 (aj:agU) (dj:agY) (dW:agU) (dX:agU) (Wd:Nat) (We:Nat) (tI:Int) (H173:Hp):OA:=az.l65515 F aj dj dW dX F Wd We tI 0 H173
def az.l65513 (F:Nat) (aj:agU) (dj:agY) (dW:agU) (dX:agU) :Nat->Nat->Nat->Int->Int->Hp->OA
 | 0,_,_,_,_,_=>none
 | Wf+1,oU,oV,lu,lw,H150=>(Hp.ldI H150 .i64 oU (oV+1)).bind λn226=>(bif (decide (lw<n226)) then ((Hp.ldSl H150 oU (oV+2)).bind λs227=>(Hp.ldI H150 .i64 oU (oV+1)).bind λn228=>(Hp.ldI H150 .i64 oU oV).bind λn229=>(Hp.ldI H150 .i64 oU (oV+1)).bind λn230=>(Hp.ldSl H150 oU (oV+2)).bind λs231=>(aj n229 n230 s231 lu lw H150).bind λr232=>((r232.1).asI .i64).bind λn233=>(if bk H150 r232.2 then ((Sl.idx s227 (wrap .i64 ((wrap .i64 (lu * n228))+lw)) 1).bind λp234=>(Hp.st r232.2 p234.1 p234.2 (.int .i64 (wrap .i64 (0 - n233)))).bind λH235=>az.l65513 F aj dj dW dX Wf oU oV lu (wrap .i64 (lw+1)) H235) else none)) else (az.j5 F aj dj dW dX oU oV lu H150))
termination_by structural n=>n
def az.j6 (aj:agU) (dj:agY) (dW:agU) (dX:agU) (jr:Nat) (js:Nat) (jt:Int) (nn:Int) (oW:Int) (H109:Hp):OA:=(bif (decide (nn<0)) then (some ((.bool false),H109)) else ((Hp.ldI H109 .i64 jr js).bind λn110=>(Hp.ldI H109 .i64 jr (js+1)).bind λn111=>(Hp.ldSl H109 jr (js+2)).bind λs112=>(dW n110 n111 s112 nn jt H109).bind λr113=>(Hp.ldI r113.2 .i64 jr (js+3)).bind λn114=>(Hp.ldI r113.2 .i64 jr ((js+3)+1)).bind λn115=>(Hp.ldSl r113.2 jr ((js+3)+2)).bind λs116=>(dW n114 n115 s116 nn jt r113.2).bind λr117=>(Hp.ldI r117.2 .i64 jr (js+6)).bind λn118=>(Hp.ldI r117.2 .i64 jr ((js+6)+1)).bind λn119=>(Hp.ldSl r117.2 jr ((js+6)+2)).bind λs120=>(dX n118 n119 s120 nn jt r117.2).bind λr121=>(Hp.ldI r121.2 .i64 jr js).bind λn122=>(Hp.ldI r121.2 .i64 jr (js+1)).bind λn123=>(Hp.ldSl r121.2 jr (js+2)).bind λs124=>(dX n122 n123 s124 oW jt r121.2).bind λr125=>(Hp.ldI r125.2 .i64 jr (js+9)).bind λn126=>(Hp.ldI r125.2 .i64 jr ((js+9)+1)).bind λn127=>(Hp.ldSl r125.2 jr ((js+9)+2)).bind λs128=>(dX n126 n127 s128 oW jt r125.2).bind λr129=>(Hp.ldI r129.2 .i64 jr (js+12)).bind λn130=>(Hp.ldI r129.2 .i64 jr ((js+12)+1)).bind λn131=>(Hp.ldSl r129.2 jr ((js+12)+2)).bind λs132=>(dW n130 n131 s132 oW jt r129.2).bind λr133=>(Hp.ldI r133.2 .i64 jr js).bind λn134=>(Hp.ldI r133.2 .i64 jr (js+1)).bind λn135=>(Hp.ldSl r133.2 jr (js+2)).bind λs136=>(aj n134 n135 s136 jt jt r133.2).bind λr137=>((r137.1).asI .i64).bind λn138=>(bif (decide (n138<0)) then (az.l65513 F aj dj dW dX F jr js jt 0 r137.2) else (some ((.bool true),r137.2)))))
def az.j8 (F:Nat) (aj:agU) (dj:agY) (dW:agU) (dX:agU) (C29_:aho) (Wg:Nat) (Wh:Nat) (tJ:Int) (tK:Int) (tL:Int) (tM:Int) (H296:Hp):OA:=C29_ Wg Wh tJ tK tL (wrap .i64 (tM+1)) H296
def az.j9 (aj:agU) (dj:agY) (dW:agU) (dX:agU) (C29_:aho) (Wi:Nat) (Wj:Nat) (tN:Int) (tO:Int) (tP:Int) (tQ:Int) (H285:Hp):OA:=az.j8 F aj dj dW dX C29_ Wi Wj tN tO tP tQ H285
def az.j10 (F:Nat) (aj:agU) (dj:agY) (dW:agU) (dX:agU) (C469_:ahP) (Wk:Nat) (Wl:Nat) (tR:Int) (tS:Int) (tT:Int) (tU:Int) (tV:Int) (H324:Hp):OA:=C469_ Wk Wl tR tS tT tU (wrap .i64 (tV+1)) H324
def az.l469 (F:Nat) (aj:agU) (dj:agY) (dW:agU) (dX:agU) (C29_:aho):Nat->Nat->Nat->Int->Int->Int->Int->Int->Hp->OA
 | 0,_,_,_,_,_,_,_,_=>none
 | pt+1,mn,mo,kO,kP,lx,iX,iY,H246=>(Hp.ldI H246 .i64 mn (mo+1)).bind λn297=>(bif (decide (iY<n297)) then ((Hp.ldI H246 .i64 mn mo).bind λn298=>(Hp.ldI H246 .i64 mn (mo+1)).bind λn299=>(Hp.ldSl H246 mn (mo+2)).bind λs300=>(aj n298 n299 s300 iX iY H246).bind λr301=>((r301.1).asI .i64).bind λn302=>(dj n302 r301.2).bind λr303=>((r303.1).asI .i64).bind λn304=>(bif (decide (n304>0)) then ((bif (decide (kP<0)) then (az.l469 F aj dj dW dX C29_ pt mn mo kO iX iY iX (wrap .i64 (iY+1)) r303.2) else ((Hp.ldI r303.2 .i64 mn mo).bind λn305=>(Hp.ldI r303.2 .i64 mn (mo+1)).bind λn306=>(Hp.ldSl r303.2 mn (mo+2)).bind λs307=>(aj n305 n306 s307 kP lx r303.2).bind λr308=>((r308.1).asI .i64).bind λn309=>(dj n309 r308.2).bind λr310=>((r310.1).asI .i64).bind λn311=>(bif (decide (n304<n311)) then (az.j10 F aj dj dW dX (az.l469 F aj dj dW dX C29_ pt) mn mo kO iX iY iX iY r310.2) else (az.j10 F aj dj dW dX (az.l469 F aj dj dW dX C29_ pt) mn mo kO kP lx iX iY r310.2))))) else (az.l469 F aj dj dW dX C29_ pt mn mo kO kP lx iX (wrap .i64 (iY+1)) r303.2))) else (az.j9 F aj dj dW dX C29_ mn mo kO kP lx iX H246))
termination_by structural n=>n
def az.l29 (F:Nat) (aj:agU) (dj:agY) (dW:agU) (dX:agU) :Nat->Nat->Nat->Int->Int->Int->Int->Hp->OA
 | 0,_,_,_,_,_,_,_=>none
 | hJ+1,fb,kd,eo,fL,nB,nC,H11=>(Hp.ldI H11 .i64 fb kd).bind λn236=>(bif (decide (nC<n236)) then (az.l469 F aj dj dW dX (az.l29 F aj dj dW dX hJ) F fb kd eo fL nB nC eo H11) else (az.j6 F aj dj dW dX fb kd eo fL nB H11))
termination_by structural n=>n
def az.twX (aj:agU) (dj:agY) (dW:agU) (dX:agU) (aa:Nat) (ac:Nat) (af:Int) (H:Hp):OA:=az.l29 F aj dj dW dX F aa ac af (-1) (-1) af H
def az.tw:=az.twX F (bm.tw F) (fa.tw F) (cS.tw F) (cT.tw F)
def az.lh29 (aj:agU) (dj:agY) (dW:agU) (dX:agU) (ks:ag0) (n:Nat) (tm:Tm) (H:Hp):OA:=match ks,tm 0,tm 1,tm 5,tm 6,tm 7 with
 | [],(.ptr fb kd),(.int .i64 eo),(.int .i64 fL),(.int .i64 nB),(.int .i64 nC)=>az.l29 F aj dj dW dX n fb kd eo fL nB nC H
 | _,_,_,_,_,_=>none
def az.lh65513 (aj:agU) (dj:agY) (dW:agU) (dX:agU) (ks:ag0) (n:Nat) (tm:Tm) (H:Hp):OA:=match ks,tm 0,tm 1,tm 10 with
 | [],(.ptr oU oV),(.int .i64 lu),(.int .i64 lw)=>az.l65513 F aj dj dW dX n oU oV lu lw H
 | _,_,_,_=>none
def az.lh65515 (aj:agU) (dj:agY) (dW:agU) (dX:agU) (ks:ag0) (n:Nat) (tm:Tm) (H:Hp):OA:=match ks,tm 0,tm 1,tm 11 with
 | [],(.ptr mi mj),(.int .i64 kN),(.int .i64 kc)=>az.l65515 F aj dj dW dX n mi mj kN kc H
 | _,_,_,_=>none
def az.lh469 (aj:agU) (dj:agY) (dW:agU) (dX:agU) (ks:ag0) (n:Nat) (tm:Tm) (H:Hp):OA:=match ks,tm 0,tm 1,tm 5,tm 6,tm 7,tm 8 with
 | [hJ],(.ptr mn mo),(.int .i64 kO),(.int .i64 kP),(.int .i64 lx),(.int .i64 iX),(.int .i64 iY)=>az.l469 F aj dj dW dX (az.l29 F aj dj dW dX hJ) n mn mo kO kP lx iX iY H
 | _,_,_,_,_,_,_=>none
def az.lh (aj:agU) (dj:agY) (dW:agU) (dX:agU) (p:Nat) (ks:ag0) (n:Nat) (tm:Tm) (H:Hp):OA:=bif p.beq 469 then az.lh469 F aj dj dW dX ks n tm H else (bif p.beq 65515 then az.lh65515 F aj dj dW dX ks n tm H else (bif p.beq 65513 then az.lh65513 F aj dj dW dX ks n tm H else (bif p.beq 29 then az.lh29 F aj dj dW dX ks n tm H else (none))))
def az.pn:Nat->List Nat:=eL [(23,[23]),(27,[23]),(28,[23])]
def az.tb:Nat->List (List Nat):=eL [(23,[[],[0],[0,1],[0,1,2],[0,1,2,3],[],[],[6],[6,7],[6,7,8],[6,7,8,9],[5,6,7,8,9,10],[],[5,6,7,8,9,10,11,12],[],[14],[14,15],[14,15,16],[],[],[14,15,16,17,18,19],[14,15,16,17,18,19,20],[0,1,2,3,4,5,6,7,8,9,10,11,12,13,14,15,16,17,18,19,20,21],[0,1,2,3,4,5,6,7,8,9,10,11,12,13,14,15,16,17,18,19,20,21,22]]),(27,[[],[0],[0,1],[0,1,2],[0,1,2,3],[],[],[6],[6,7],[6,7,8],[6,7,8,9],[5,6,7,8,9,10],[],[5,6,7,8,9,10,11,12],[],[14],[14,15],[14,15,16],[],[],[14,15,16,17,18,19],[14,15,16,17,18,19,20],[0,1,2,3,4,5,6,7,8,9,10,11,12,13,14,15,16,17,18,19,20,21],[0,1,2,3,4,5,6,7,8,9,10,11,12,13,14,15,16,17,18,19,20,21,22]]),(28,[[],[0],[0,1],[0,1,2],[0,1,2,3],[],[],[6],[6,7],[6,7,8],[6,7,8,9],[5,6,7,8,9,10],[],[5,6,7,8,9,10,11,12],[],[14],[14,15],[14,15,16],[],[],[14,15,16,17,18,19],[14,15,16,17,18,19,20],[0,1,2,3,4,5,6,7,8,9,10,11,12,13,14,15,16,17,18,19,20,21],[0,1,2,3,4,5,6,7,8,9,10,11,12,13,14,15,16,17,18,19,20,21,22]])]
def az.cs (F:Nat) (aj:agU) (dj:agY) (dW:agU) (dX:agU):Cs:=[(62,mk6 aj),(130,mk5 dj),(131,mk6 dW),(201,mk6 dX)]
theorem az.loops (aj:agU) (dj:agY) (dW:agU) (dX:agU):LO (cn (az.cs F aj dj dW dX)) az.pn (az.lh F aj dj dW dX) F Try.f166:=
 (ae.rt (ae.rt (ae.seq (ae.rt (ae.block (ae.la (λn tm H r h=>by change az.lh29 F aj dj dW dX [] n tm H=_ at h;unfold az.lh29 at h;split at h;have e:eE tm [(0,_),(1,_),(5,_),(6,_),(7,_)]:=⟨‹_›,‹_›,‹_›,‹_›,‹_›,trivial⟩;obtain _ | k29:=n;cases h;exact ⟨_,rfl,by rw [<- eG e];exact Eq.trans (by kernel_rfl) h⟩;cases h) λk29=>(ae.rt (ae.lt (ae.block (ae.rt (ae.block (ae.la (λn tm H r h=>by change az.lh469 F aj dj dW dX [k29] n tm H=_ at h;unfold az.lh469 at h;split at h;have e:eE tm [(0,_),(1,_),(5,_),(6,_),(7,_),(8,_)]:=⟨‹_›,‹_›,‹_›,‹_›,‹_›,‹_›,trivial⟩;cases (show [k29]=_ from ‹_›);obtain _ | k469:=n;cases h;exact ⟨_,rfl,by rw [<- eG e];exact Eq.trans (by kernel_rfl) h⟩;cases h) λk469=>ae.no))))))))) (ae.rt (ae.rt (ae.rt (ae.rt (ae.rt (ae.rt (ae.rt (ae.lt (ae.rt (ae.cond (ae.seq (ae.rt (ae.block (ae.la (λn tm H r h=>by change az.lh65513 F aj dj dW dX [] n tm H=_ at h;unfold az.lh65513 at h;split at h;have e:eE tm [(0,_),(1,_),(10,_)]:=⟨‹_›,‹_›,‹_›,trivial⟩;obtain _ | k65513:=n;cases h;exact ⟨_,rfl,by rw [<- eG e];exact Eq.trans (by kernel_rfl) h⟩;cases h) λk65513=>ae.no))) (ae.rt (ae.block (ae.la (λn tm H r h=>by change az.lh65515 F aj dj dW dX [] n tm H=_ at h;unfold az.lh65515 at h;split at h;have e:eE tm [(0,_),(1,_),(11,_)]:=⟨‹_›,‹_›,‹_›,trivial⟩;obtain _ | k65515:=n;cases h;exact ⟨_,rfl,by rw [<- eG e];exact Eq.trans (by kernel_rfl) h⟩;cases h) λk65515=>ae.no)))) ae.no)))))))))))))
theorem az.eqX (aj:agU) (dj:agY) (dW:agU) (dX:agU) (aa:Nat) (ac:Nat) (af:Int) (H:Hp):EX (cn (az.cs F aj dj dW dX)) az.pn (az.lh F aj dj dW dX) F Try.f166 [(.ptr aa ac),(.int .i64 af)] H=az.twX F aj dj dW dX aa ac af H:=by kernel_rfl
theorem az.k:Ok Try.prog 166 (mk1 (az.tw F)):=by
 intro args H v H' h
 unfold mk1 at h
 split at h
 ·exact okT (TB:=az.tb) Try.func166 (bH (bm.k F) (bH (fa.k F) (bH (cS.k F) (bH (cT.k F) dP)))) (az.loops F (bm.tw F) (fa.tw F) (cS.tw F) (cT.tw F)) ((az.eqX F (bm.tw F) (fa.tw F) (cS.tw F) (cT.tw F) _ _ _ H).trans h) (by kernel_rfl)
 ·cases h
def hU.twX (F:Nat) (aa:Int) (aQ:Int) (H:Hp):OA:=(if aQ=0 then none else ((if aQ=0 then none else ((bif (decide ((Int.tmod aa aQ)<0)) then (some ((.int .i64 (wrap .i64 ((wrap .i64 (Int.tdiv aa aQ)) - 1))),H)) else (some ((.int .i64 (wrap .i64 (Int.tdiv aa aQ))),H)))))))
def hU.tw:=hU.twX F
theorem hU.k:Ok Try.prog 168 (mk2 (hU.tw F)):=by
 intro args H v H' h
 unfold mk2 at h
 split at h
 ·exact ok0 Try.func168 (Eq.trans (by kernel_rfl) h) (by kernel_rfl) (by kernel_rfl)
 ·cases h
def gZ.twX (F:Nat) (dj:agY) (aa:Int) (aQ:Int) (eM:Int) (H:Hp):OA:=(bif (aa != 0) then ((dj aQ H).bind λr4=>((r4.1).asI .i64).bind λn5=>(dj aa r4.2).bind λr6=>((r6.1).asI .i64).bind λn7=>(if n7=0 then none else ((bif (decide (n5>(wrap .i64 (Int.tdiv eM n7)))) then (some ((.tup [(.int .i64 0),(.bool false)]),r6.2)) else (some ((.tup [(.int .i64 (wrap .i64 (aa * aQ))),(.bool true)]),r6.2)))))) else (some ((.tup [(.int .i64 (wrap .i64 (aa * aQ))),(.bool true)]),H)))
def gZ.tw:=gZ.twX F (fa.tw F)
def mk7 (g:ag6) (args:ag3) (H:Hp):OA:=match args with
 | [(.int .i64 aa),(.int .i64 aQ),(.int .i64 eM)]=>g aa aQ eM H
 | _=>none
theorem mk7_E (g:ag6) (aa:Int) (aQ:Int) (eM:Int) (H:Hp):mk7 g [(.int .i64 aa),(.int .i64 aQ),(.int .i64 eM)] H=g aa aQ eM H:=rfl
def gZ.cs (F:Nat) (dj:agY):Cs:=[(130,mk5 dj)]
theorem gZ.eqX (dj:agY) (aa:Int) (aQ:Int) (eM:Int) (H:Hp):EX (cn (gZ.cs F dj)) cE lh0 F Try.f136 [(.int .i64 aa),(.int .i64 aQ),(.int .i64 eM)] H=gZ.twX F dj aa aQ eM H:=by kernel_rfl
theorem gZ.k:Ok Try.prog 136 (mk7 (gZ.tw F)):=by
 intro args H v H' h
 unfold mk7 at h
 split at h
 ·exact okT (TB:=cE) Try.func136 (bH (fa.k F) dP) ae.no ((gZ.eqX F (fa.tw F) _ _ _ H).trans h) (by kernel_rfl)
 ·cases h
def ga.twX (F:Nat) (tW:ag6) (aa:Int) (aQ:Int) (eM:Int) (H:Hp):OA:=(tW aQ eM 2000000000000 H).bind λr4=>((r4.1).asTup 2).bind λl5=>(l5[0]?).bind λv6=>((v6).asI .i64).bind λn7=>(l5[1]?).bind λv8=>((v8).asB).bind λb9=>(bif (!b9) then (some ((.int .i64 3000000000000),r4.2)) else (some ((.int .i64 (wrap .i64 (aa - n7))),r4.2)))
def ga.tw:=ga.twX F (gZ.tw F)
def ga.cs (F:Nat) (tW:ag6):Cs:=[(136,mk7 tW)]
theorem ga.eqX (tW:ag6) (aa:Int) (aQ:Int) (eM:Int) (H:Hp):EX (cn (ga.cs F tW)) cE lh0 F Try.f216 [(.int .i64 aa),(.int .i64 aQ),(.int .i64 eM)] H=ga.twX F tW aa aQ eM H:=by kernel_rfl
theorem ga.k:Ok Try.prog 216 (mk7 (ga.tw F)):=by
 intro args H v H' h
 unfold mk7 at h
 split at h
 ·exact okT (TB:=cE) Try.func216 (bH (gZ.k F) dP) ae.no ((ga.eqX F (gZ.tw F) _ _ _ H).trans h) (by kernel_rfl)
 ·cases h
def fS.twX (F:Nat) (dj:agY) (aa:Nat) (ac:Nat) (af:Int) (aA:Int) (cu:Sl) (ef:Int) (eg:Int) (dY:Int) (H:Hp):OA:=(Hp.new H [(.int .i64 af),(.int .i64 aA),(.sl cu)]).bind λH9=>(dj dY H9).bind λr10=>((r10.1).asI .i64).bind λn11=>(bif (decide (n11>1000000000000)) then ((Hp.st r10.2 aa (ac+15) (.bool true)).bind λH12=>some ((.tup []),H12)) else ((Hp.ldSl r10.2 H.length 2).bind λs13=>(Hp.ldI r10.2 .i64 H.length 1).bind λn14=>(Sl.idx s13 (wrap .i64 ((wrap .i64 (ef * n14))+eg)) 1).bind λp15=>(Hp.st r10.2 p15.1 p15.2 (.int .i64 dY)).bind λH16=>some ((.tup []),H16)))
def fS.tw:=fS.twX F (fa.tw F)
def mk8 (g:ag7) (args:ag3) (H:Hp):OA:=match args with
 | [(.ptr aa ac),(.agg [(.int .i64 af),(.int .i64 aA),(.sl cu)]),(.int .i64 ef),(.int .i64 eg),(.int .i64 dY)]=>g aa ac af aA cu ef eg dY H
 | _=>none
theorem mk8_E (g:ag7) (aa:Nat) (ac:Nat) (af:Int) (aA:Int) (cu:Sl) (ef:Int) (eg:Int) (dY:Int) (H:Hp):mk8 g [(.ptr aa ac),(.agg [(.int .i64 af),(.int .i64 aA),(.sl cu)]),(.int .i64 ef),(.int .i64 eg),(.int .i64 dY)] H=g aa ac af aA cu ef eg dY H:=rfl
def fS.cs (F:Nat) (dj:agY):Cs:=[(130,mk5 dj)]
theorem fS.eqX (dj:agY) (aa:Nat) (ac:Nat) (af:Int) (aA:Int) (cu:Sl) (ef:Int) (eg:Int) (dY:Int) (H:Hp):EX (cn (fS.cs F dj)) cE lh0 F Try.f215 [(.ptr aa ac),(.agg [(.int .i64 af),(.int .i64 aA),(.sl cu)]),(.int .i64 ef),(.int .i64 eg),(.int .i64 dY)] H=fS.twX F dj aa ac af aA cu ef eg dY H:=by kernel_rfl
theorem fS.k:Ok Try.prog 215 (mk8 (fS.tw F)):=by
 intro args H v H' h
 unfold mk8 at h
 split at h
 ·exact okT (TB:=cE) Try.func215 (bH (fa.k F) dP) ae.no ((fS.eqX F (fa.tw F) _ _ _ _ _ _ _ _ H).trans h) (by kernel_rfl)
 ·cases h
def dd.l7 (F:Nat) (aj:agU) (fM:ag6) (fN:ag7) :Nat->Nat->Nat->Int->Int->Int->Nat->Nat->Int->Hp->OA
 | 0,_,_,_,_,_,_,_,_,_=>none
 | lr+1,nD,gL,h_,gh,iZ,fV,ee,fW,H21=>(Hp.ldI H21 .i64 fV (ee+1)).bind λn40=>(bif (decide (fW<n40)) then ((Hp.ldB H21 nD (gL+15)).bind λb41=>(bif (!b41) then ((Hp.ldI H21 .i64 fV ee).bind λn42=>(Hp.ldI H21 .i64 fV (ee+1)).bind λn43=>(Hp.ldSl H21 fV (ee+2)).bind λs44=>(Hp.ldI H21 .i64 fV ee).bind λn45=>(Hp.ldI H21 .i64 fV (ee+1)).bind λn46=>(Hp.ldSl H21 fV (ee+2)).bind λs47=>(aj n45 n46 s47 h_ fW H21).bind λr48=>((r48.1).asI .i64).bind λn49=>(if bk H21 r48.2 then ((Hp.ldI r48.2 .i64 fV ee).bind λn50=>(Hp.ldI r48.2 .i64 fV (ee+1)).bind λn51=>(Hp.ldSl r48.2 fV (ee+2)).bind λs52=>(aj n50 n51 s52 gh fW r48.2).bind λr53=>((r53.1).asI .i64).bind λn54=>(if bk r48.2 r53.2 then ((fM n49 iZ n54 r53.2).bind λr55=>((r55.1).asI .i64).bind λn56=>(if bk r53.2 r55.2 then ((fN nD gL n42 n43 s44 h_ fW n56 r55.2).bind λr57=>dd.l7 F aj fM fN lr nD gL h_ gh iZ fV ee (wrap .i64 (fW+1)) r57.2) else none)) else none)) else none)) else (some ((.tup []),H21)))) else (some ((.tup []),H21)))
termination_by structural n=>n
def dd.twX (aj:agU) (fM:ag6) (fN:ag7) (aa:Nat) (ac:Nat) (af:Int) (aA:Int) (cu:Sl) (ef:Int) (eg:Int) (dY:Int) (H:Hp):OA:=(Hp.new H [(.int .i64 af),(.int .i64 aA),(.sl cu)]).bind λH9=>dd.l7 F aj fM fN F aa ac ef eg dY H.length 0 0 H9
def dd.tw:=dd.twX F (bm.tw F) (ga.tw F) (fS.tw F)
def dd.lh7 (aj:agU) (fM:ag6) (fN:ag7) (ks:ag0) (n:Nat) (tm:Tm) (H:Hp):OA:=match ks,tm 0,tm 2,tm 3,tm 4,tm 6,tm 10 with
 | [],(.ptr nD gL),(.int .i64 h_),(.int .i64 gh),(.int .i64 iZ),(.ptr fV ee),(.int .i64 fW)=>dd.l7 F aj fM fN n nD gL h_ gh iZ fV ee fW H
 | _,_,_,_,_,_,_=>none
def dd.lh (aj:agU) (fM:ag6) (fN:ag7) (p:Nat) (ks:ag0) (n:Nat) (tm:Tm) (H:Hp):OA:=bif p.beq 7 then dd.lh7 F aj fM fN ks n tm H else (none)
def dd.pn:Nat->List Nat:=eL [(4,[14])]
def dd.tb:Nat->List (List Nat):=eL [(4,[[],[],[],[],[],[],[],[4,5,6],[],[],[],[],[4,5,6,7,9,10,11],[4,5,6,7,8,9,10,11,12],[0,1,2,3,4,5,6,7,8,9,10,11,12,13]])]
def dd.cs (F:Nat) (aj:agU) (fM:ag6) (fN:ag7):Cs:=[(62,mk6 aj),(216,mk7 fM),(215,mk8 fN)]
theorem dd.loops (aj:agU) (fM:ag6) (fN:ag7):LO (cn (dd.cs F aj fM fN)) dd.pn (dd.lh F aj fM fN) F Try.f202:=
 (ae.rt (ae.rt (ae.block (ae.la (λn tm H r h=>by change dd.lh7 F aj fM fN [] n tm H=_ at h;unfold dd.lh7 at h;split at h;have e:eE tm [(0,_),(2,_),(3,_),(4,_),(6,_),(10,_)]:=⟨‹_›,‹_›,‹_›,‹_›,‹_›,‹_›,trivial⟩;obtain _ | k7:=n;cases h;exact ⟨_,rfl,by rw [<- eG e];exact Eq.trans (by kernel_rfl) h⟩;cases h) λk7=>ae.no))))
theorem dd.eqX (aj:agU) (fM:ag6) (fN:ag7) (aa:Nat) (ac:Nat) (af:Int) (aA:Int) (cu:Sl) (ef:Int) (eg:Int) (dY:Int) (H:Hp):EX (cn (dd.cs F aj fM fN)) dd.pn (dd.lh F aj fM fN) F Try.f202 [(.ptr aa ac),(.agg [(.int .i64 af),(.int .i64 aA),(.sl cu)]),(.int .i64 ef),(.int .i64 eg),(.int .i64 dY)] H=dd.twX F aj fM fN aa ac af aA cu ef eg dY H:=by kernel_rfl
theorem dd.k:Ok Try.prog 202 (mk8 (dd.tw F)):=by
 intro args H v H' h
 unfold mk8 at h
 split at h
 ·exact okT (TB:=dd.tb) Try.func202 (bH (bm.k F) (bH (ga.k F) (bH (fS.k F) dP))) (dd.loops F (bm.tw F) (ga.tw F) (fS.tw F)) ((dd.eqX F (bm.tw F) (ga.tw F) (fS.tw F) _ _ _ _ _ _ _ _ H).trans h) (by kernel_rfl)
 ·cases h
def de.l7 (F:Nat) (aj:agU) (fM:ag6) (fN:ag7) :Nat->Nat->Nat->Int->Int->Int->Nat->Nat->Int->Hp->OA
 | 0,_,_,_,_,_,_,_,_,_=>none
 | lr+1,nD,gL,h_,gh,iZ,fV,ee,fW,H21=>(Hp.ldI H21 .i64 fV ee).bind λn40=>(bif (decide (fW<n40)) then ((Hp.ldB H21 nD (gL+15)).bind λb41=>(bif (!b41) then ((Hp.ldI H21 .i64 fV ee).bind λn42=>(Hp.ldI H21 .i64 fV (ee+1)).bind λn43=>(Hp.ldSl H21 fV (ee+2)).bind λs44=>(Hp.ldI H21 .i64 fV ee).bind λn45=>(Hp.ldI H21 .i64 fV (ee+1)).bind λn46=>(Hp.ldSl H21 fV (ee+2)).bind λs47=>(aj n45 n46 s47 fW h_ H21).bind λr48=>((r48.1).asI .i64).bind λn49=>(if bk H21 r48.2 then ((Hp.ldI r48.2 .i64 fV ee).bind λn50=>(Hp.ldI r48.2 .i64 fV (ee+1)).bind λn51=>(Hp.ldSl r48.2 fV (ee+2)).bind λs52=>(aj n50 n51 s52 fW gh r48.2).bind λr53=>((r53.1).asI .i64).bind λn54=>(if bk r48.2 r53.2 then ((fM n49 iZ n54 r53.2).bind λr55=>((r55.1).asI .i64).bind λn56=>(if bk r53.2 r55.2 then ((fN nD gL n42 n43 s44 fW h_ n56 r55.2).bind λr57=>de.l7 F aj fM fN lr nD gL h_ gh iZ fV ee (wrap .i64 (fW+1)) r57.2) else none)) else none)) else none)) else (some ((.tup []),H21)))) else (some ((.tup []),H21)))
termination_by structural n=>n
def de.twX (aj:agU) (fM:ag6) (fN:ag7) (aa:Nat) (ac:Nat) (af:Int) (aA:Int) (cu:Sl) (ef:Int) (eg:Int) (dY:Int) (H:Hp):OA:=(Hp.new H [(.int .i64 af),(.int .i64 aA),(.sl cu)]).bind λH9=>de.l7 F aj fM fN F aa ac ef eg dY H.length 0 0 H9
def de.tw:=de.twX F (bm.tw F) (ga.tw F) (fS.tw F)
def de.lh7 (aj:agU) (fM:ag6) (fN:ag7) (ks:ag0) (n:Nat) (tm:Tm) (H:Hp):OA:=match ks,tm 0,tm 2,tm 3,tm 4,tm 6,tm 10 with
 | [],(.ptr nD gL),(.int .i64 h_),(.int .i64 gh),(.int .i64 iZ),(.ptr fV ee),(.int .i64 fW)=>de.l7 F aj fM fN n nD gL h_ gh iZ fV ee fW H
 | _,_,_,_,_,_,_=>none
def de.lh (aj:agU) (fM:ag6) (fN:ag7) (p:Nat) (ks:ag0) (n:Nat) (tm:Tm) (H:Hp):OA:=bif p.beq 7 then de.lh7 F aj fM fN ks n tm H else (none)
def de.pn:Nat->List Nat:=eL [(4,[14])]
def de.tb:Nat->List (List Nat):=eL [(4,[[],[],[],[],[],[],[],[4,5,6],[],[],[],[],[4,5,6,7,9,10,11],[4,5,6,7,8,9,10,11,12],[0,1,2,3,4,5,6,7,8,9,10,11,12,13]])]
def de.cs (F:Nat) (aj:agU) (fM:ag6) (fN:ag7):Cs:=[(62,mk6 aj),(216,mk7 fM),(215,mk8 fN)]
theorem de.loops (aj:agU) (fM:ag6) (fN:ag7):LO (cn (de.cs F aj fM fN)) de.pn (de.lh F aj fM fN) F Try.f203:=
 (ae.rt (ae.rt (ae.block (ae.la (λn tm H r h=>by change de.lh7 F aj fM fN [] n tm H=_ at h;unfold de.lh7 at h;split at h;have e:eE tm [(0,_),(2,_),(3,_),(4,_),(6,_),(10,_)]:=⟨‹_›,‹_›,‹_›,‹_›,‹_›,‹_›,trivial⟩;obtain _ | k7:=n;cases h;exact ⟨_,rfl,by rw [<- eG e];exact Eq.trans (by kernel_rfl) h⟩;cases h) λk7=>ae.no))))
theorem de.eqX (aj:agU) (fM:ag6) (fN:ag7) (aa:Nat) (ac:Nat) (af:Int) (aA:Int) (cu:Sl) (ef:Int) (eg:Int) (dY:Int) (H:Hp):EX (cn (de.cs F aj fM fN)) de.pn (de.lh F aj fM fN) F Try.f203 [(.ptr aa ac),(.agg [(.int .i64 af),(.int .i64 aA),(.sl cu)]),(.int .i64 ef),(.int .i64 eg),(.int .i64 dY)] H=de.twX F aj fM fN aa ac af aA cu ef eg dY H:=by kernel_rfl
theorem de.k:Ok Try.prog 203 (mk8 (de.tw F)):=by
 intro args H v H' h
 unfold mk8 at h
 split at h
 ·exact okT (TB:=de.tb) Try.func203 (bH (bm.k F) (bH (ga.k F) (bH (fS.k F) dP))) (de.loops F (bm.tw F) (ga.tw F) (fS.tw F)) ((de.eqX F (bm.tw F) (ga.tw F) (fS.tw F) _ _ _ _ _ _ _ _ H).trans h) (by kernel_rfl)
 ·cases h
def fX.twX (F:Nat) (mp:ag7) (mq:ag7) (aa:Nat) (ac:Nat) (af:Int) (cy:Int) (dD:Int) (H:Hp):OA:=(bif (dD != 0) then ((Hp.ldI H .i64 aa ac).bind λn6=>(Hp.ldI H .i64 aa (ac+1)).bind λn7=>(Hp.ldSl H aa (ac+2)).bind λs8=>(mp aa ac n6 n7 s8 af cy dD H).bind λr9=>(Hp.ldI r9.2 .i64 aa (ac+3)).bind λn10=>(Hp.ldI r9.2 .i64 aa ((ac+3)+1)).bind λn11=>(Hp.ldSl r9.2 aa ((ac+3)+2)).bind λs12=>(mp aa ac n10 n11 s12 af cy dD r9.2).bind λr13=>(Hp.ldI r13.2 .i64 aa (ac+6)).bind λn14=>(Hp.ldI r13.2 .i64 aa ((ac+6)+1)).bind λn15=>(Hp.ldSl r13.2 aa ((ac+6)+2)).bind λs16=>(mq aa ac n14 n15 s16 cy af (wrap .i64 (0 - dD)) r13.2).bind λr17=>some ((.tup []),r17.2)) else (some ((.tup []),H)))
def fX.tw:=fX.twX F (dd.tw F) (de.tw F)
def mk9 (g:ag5) (args:ag3) (H:Hp):OA:=match args with
 | [(.ptr aa ac),(.int .i64 af),(.int .i64 cy),(.int .i64 dD)]=>g aa ac af cy dD H
 | _=>none
theorem mk9_E (g:ag5) (aa:Nat) (ac:Nat) (af:Int) (cy:Int) (dD:Int) (H:Hp):mk9 g [(.ptr aa ac),(.int .i64 af),(.int .i64 cy),(.int .i64 dD)] H=g aa ac af cy dD H:=rfl
def fX.cs (F:Nat) (mp:ag7) (mq:ag7):Cs:=[(202,mk8 mp),(203,mk8 mq)]
theorem fX.eqX (mp:ag7) (mq:ag7) (aa:Nat) (ac:Nat) (af:Int) (cy:Int) (dD:Int) (H:Hp):EX (cn (fX.cs F mp mq)) cE lh0 F Try.f167 [(.ptr aa ac),(.int .i64 af),(.int .i64 cy),(.int .i64 dD)] H=fX.twX F mp mq aa ac af cy dD H:=by kernel_rfl
theorem fX.k:Ok Try.prog 167 (mk9 (fX.tw F)):=by
 intro args H v H' h
 unfold mk9 at h
 split at h
 ·exact okT (TB:=cE) Try.func167 (bH (dd.k F) (bH (de.k F) dP)) ae.no ((fX.eqX F (dd.tw F) (de.tw F) _ _ _ _ _ H).trans h) (by kernel_rfl)
 ·cases h
def gi.twX (F:Nat) (mq:ag7) (mp:ag7) (aa:Nat) (ac:Nat) (af:Int) (cy:Int) (dD:Int) (H:Hp):OA:=(bif (dD != 0) then ((Hp.ldI H .i64 aa ac).bind λn6=>(Hp.ldI H .i64 aa (ac+1)).bind λn7=>(Hp.ldSl H aa (ac+2)).bind λs8=>(mq aa ac n6 n7 s8 af cy dD H).bind λr9=>(Hp.ldI r9.2 .i64 aa (ac+9)).bind λn10=>(Hp.ldI r9.2 .i64 aa ((ac+9)+1)).bind λn11=>(Hp.ldSl r9.2 aa ((ac+9)+2)).bind λs12=>(mq aa ac n10 n11 s12 af cy dD r9.2).bind λr13=>(Hp.ldI r13.2 .i64 aa (ac+12)).bind λn14=>(Hp.ldI r13.2 .i64 aa ((ac+12)+1)).bind λn15=>(Hp.ldSl r13.2 aa ((ac+12)+2)).bind λs16=>(mp aa ac n14 n15 s16 cy af (wrap .i64 (0 - dD)) r13.2).bind λr17=>some ((.tup []),r17.2)) else (some ((.tup []),H)))
def gi.tw:=gi.twX F (de.tw F) (dd.tw F)
def gi.cs (F:Nat) (mq:ag7) (mp:ag7):Cs:=[(203,mk8 mq),(202,mk8 mp)]
theorem gi.eqX (mq:ag7) (mp:ag7) (aa:Nat) (ac:Nat) (af:Int) (cy:Int) (dD:Int) (H:Hp):EX (cn (gi.cs F mq mp)) cE lh0 F Try.f169 [(.ptr aa ac),(.int .i64 af),(.int .i64 cy),(.int .i64 dD)] H=gi.twX F mq mp aa ac af cy dD H:=by kernel_rfl
theorem gi.k:Ok Try.prog 169 (mk9 (gi.tw F)):=by
 intro args H v H' h
 unfold mk9 at h
 split at h
 ·exact okT (TB:=cE) Try.func169 (bH (de.k F) (bH (dd.k F) dP)) ae.no ((gi.eqX F (de.tw F) (dd.tw F) _ _ _ _ _ H).trans h) (by kernel_rfl)
 ·cases h
def cq.l29 (F:Nat) (aj:agU) :Nat->Nat->Nat->Int->Int->Hp->OA
 | 0,_,_,_,_,_=>none
 | hJ+1,rx,ry,nE,mP,H30=>(Hp.ldI H30 .i64 rx (ry+1)).bind λn37=>(bif (decide (mP<n37)) then ((Hp.ldI H30 .i64 rx ry).bind λn38=>(Hp.ldI H30 .i64 rx (ry+1)).bind λn39=>(Hp.ldSl H30 rx (ry+2)).bind λs40=>(aj n38 n39 s40 nE mP H30).bind λr41=>((r41.1).asI .i64).bind λn42=>(bif (n42 != 0) then (some ((.bool false),r41.2)) else (cq.l29 F aj hJ rx ry nE (wrap .i64 (mP+1)) r41.2))) else (some ((.bool true),H30)))
termination_by structural n=>n
def cq.j1 (aj:agU) (Wm:Nat) (Wn:Nat) (qa:Int) (H22:Hp):OA:=cq.l29 F aj F Wm Wn qa (wrap .i64 (qa+1)) H22
def cq.l13 (F:Nat) (aj:agU) :Nat->Nat->Nat->Int->Int->Hp->OA
 | 0,_,_,_,_,_=>none
 | jB+1,fb,kd,eo,fL,H9=>(Hp.ldI H9 .i64 fb kd).bind λn43=>(bif (decide (fL<n43)) then ((Hp.ldI H9 .i64 fb kd).bind λn44=>(Hp.ldI H9 .i64 fb (kd+1)).bind λn45=>(Hp.ldSl H9 fb (kd+2)).bind λs46=>(aj n44 n45 s46 fL eo H9).bind λr47=>((r47.1).asI .i64).bind λn48=>(bif (n48 != 0) then (some ((.bool false),r47.2)) else (cq.l13 F aj jB fb kd eo (wrap .i64 (fL+1)) r47.2))) else (cq.j1 F aj fb kd eo H9))
termination_by structural n=>n
def cq.twX (aj:agU) (aa:Nat) (ac:Nat) (af:Int) (H:Hp):OA:=cq.l13 F aj F aa ac af (wrap .i64 (af+1)) H
def cq.tw:=cq.twX F (bm.tw F)
def cq.lh13 (aj:agU) (ks:ag0) (n:Nat) (tm:Tm) (H:Hp):OA:=match ks,tm 0,tm 1,tm 5 with
 | [],(.ptr fb kd),(.int .i64 eo),(.int .i64 fL)=>cq.l13 F aj n fb kd eo fL H
 | _,_,_,_=>none
def cq.lh29 (aj:agU) (ks:ag0) (n:Nat) (tm:Tm) (H:Hp):OA:=match ks,tm 0,tm 1,tm 6 with
 | [],(.ptr rx ry),(.int .i64 nE),(.int .i64 mP)=>cq.l29 F aj n rx ry nE mP H
 | _,_,_,_=>none
def cq.lh (aj:agU) (p:Nat) (ks:ag0) (n:Nat) (tm:Tm) (H:Hp):OA:=bif p.beq 29 then cq.lh29 F aj ks n tm H else (bif p.beq 13 then cq.lh13 F aj ks n tm H else (none))
def cq.cs (F:Nat) (aj:agU):Cs:=[(62,mk6 aj)]
theorem cq.loops (aj:agU):LO (cn (cq.cs F aj)) cE (cq.lh F aj) F Try.f170:=
 (ae.rt (ae.seq (ae.rt (ae.block (ae.la (λn tm H r h=>by change cq.lh13 F aj [] n tm H=_ at h;unfold cq.lh13 at h;split at h;have e:eE tm [(0,_),(1,_),(5,_)]:=⟨‹_›,‹_›,‹_›,trivial⟩;obtain _ | k13:=n;cases h;exact ⟨_,rfl,by rw [<- eG e];exact Eq.trans (by kernel_rfl) h⟩;cases h) λk13=>ae.no))) (ae.lt (ae.rt (ae.block (ae.la (λn tm H r h=>by change cq.lh29 F aj [] n tm H=_ at h;unfold cq.lh29 at h;split at h;have e:eE tm [(0,_),(1,_),(6,_)]:=⟨‹_›,‹_›,‹_›,trivial⟩;obtain _ | k29:=n;cases h;exact ⟨_,rfl,by rw [<- eG e];exact Eq.trans (by kernel_rfl) h⟩;cases h) λk29=>ae.no))))))
theorem cq.eqX (aj:agU) (aa:Nat) (ac:Nat) (af:Int) (H:Hp):EX (cn (cq.cs F aj)) cE (cq.lh F aj) F Try.f170 [(.ptr aa ac),(.int .i64 af)] H=cq.twX F aj aa ac af H:=by kernel_rfl
theorem cq.k:Ok Try.prog 170 (mk1 (cq.tw F)):=by
 intro args H v H' h
 unfold mk1 at h
 split at h
 ·exact okT (TB:=cE) Try.func170 (bH (bm.k F) dP) (cq.loops F (bm.tw F)) ((cq.eqX F (bm.tw F) _ _ _ H).trans h) (by kernel_rfl)
 ·cases h
def bJ.j3 (F:Nat) (aj:agU) (C13_:ag8) (Wo:Nat) (Wp:Nat) (tX:Int) (tY:Int) (H96:Hp):OA:=C13_ Wo Wp tX (wrap .i64 (tY+1)) H96
def bJ.j4 (aj:agU) (C13_:ag8) (Wq:Nat) (Wr:Nat) (tZ:Int) (t_:Int) (H87:Hp):OA:=bJ.j3 F aj C13_ Wq Wr tZ t_ H87
def bJ.l213 (F:Nat) (aj:agU) (C13_:ag8):Nat->Nat->Nat->Int->Int->Int->Hp->OA
 | 0,_,_,_,_,_,_=>none
 | Ws+1,nF,nG,ly,lz,mQ,H67=>(Hp.ldI H67 .i64 nF (nG+1)).bind λn97=>(bif (decide (mQ<n97)) then ((Hp.ldI H67 .i64 nF nG).bind λn98=>(Hp.ldI H67 .i64 nF (nG+1)).bind λn99=>(Hp.ldSl H67 nF (nG+2)).bind λs100=>(aj n98 n99 s100 lz mQ H67).bind λr101=>((r101.1).asI .i64).bind λn102=>(if bk H67 r101.2 then ((Hp.ldI r101.2 .i64 nF nG).bind λn103=>(Hp.ldI r101.2 .i64 nF (nG+1)).bind λn104=>(Hp.ldSl r101.2 nF (nG+2)).bind λs105=>(aj n103 n104 s105 ly ly r101.2).bind λr106=>((r106.1).asI .i64).bind λn107=>(if n107=0 then none else ((bif ((Int.tmod n102 n107) != 0) then (some ((.int .i64 lz),r106.2)) else (bJ.l213 F aj C13_ Ws nF nG ly lz (wrap .i64 (mQ+1)) r106.2))))) else none)) else (bJ.j4 F aj C13_ nF nG ly lz H67))
termination_by structural n=>n
def bJ.l13 (F:Nat) (aj:agU) :Nat->Nat->Nat->Int->Int->Hp->OA
 | 0,_,_,_,_,_=>none
 | jB+1,fb,kd,eo,fL,H9=>(Hp.ldI H9 .i64 fb kd).bind λn59=>(bif (decide (fL<n59)) then (bJ.l213 F aj (bJ.l13 F aj jB) F fb kd eo fL (wrap .i64 (eo+1)) H9) else (some ((.int .i64 (-1)),H9)))
termination_by structural n=>n
def bJ.twX (aj:agU) (aa:Nat) (ac:Nat) (af:Int) (H:Hp):OA:=bJ.l13 F aj F aa ac af (wrap .i64 (af+1)) H
def bJ.tw:=bJ.twX F (bm.tw F)
def bJ.lh13 (aj:agU) (ks:ag0) (n:Nat) (tm:Tm) (H:Hp):OA:=match ks,tm 0,tm 1,tm 5 with
 | [],(.ptr fb kd),(.int .i64 eo),(.int .i64 fL)=>bJ.l13 F aj n fb kd eo fL H
 | _,_,_,_=>none
def bJ.lh213 (aj:agU) (ks:ag0) (n:Nat) (tm:Tm) (H:Hp):OA:=match ks,tm 0,tm 1,tm 5,tm 6 with
 | [jB],(.ptr nF nG),(.int .i64 ly),(.int .i64 lz),(.int .i64 mQ)=>bJ.l213 F aj (bJ.l13 F aj jB) n nF nG ly lz mQ H
 | _,_,_,_,_=>none
def bJ.lh (aj:agU) (p:Nat) (ks:ag0) (n:Nat) (tm:Tm) (H:Hp):OA:=bif p.beq 213 then bJ.lh213 F aj ks n tm H else (bif p.beq 13 then bJ.lh13 F aj ks n tm H else (none))
def bJ.pn:Nat->List Nat:=eL [(7,[13])]
def bJ.tb:Nat->List (List Nat):=eL [(7,[[],[0],[0,1],[0,1,2],[],[],[0,1,2,3,4,5],[],[7],[7,8],[7,8,9],[],[],[0,1,2,3,4,5,6,7,8,9,10,11,12],[0,1,2,3,4,5,6,7,8,9,10,11,12,13],[0,1,2,3,4,5,6,7,8,9,10,11,12,13,14]])]
def bJ.cs (F:Nat) (aj:agU):Cs:=[(62,mk6 aj)]
theorem bJ.loops (aj:agU):LO (cn (bJ.cs F aj)) bJ.pn (bJ.lh F aj) F Try.f171:=
 (ae.rt (ae.lt (ae.rt (ae.block (ae.la (λn tm H r h=>by change bJ.lh13 F aj [] n tm H=_ at h;unfold bJ.lh13 at h;split at h;have e:eE tm [(0,_),(1,_),(5,_)]:=⟨‹_›,‹_›,‹_›,trivial⟩;obtain _ | k13:=n;cases h;exact ⟨_,rfl,by rw [<- eG e];exact Eq.trans (by kernel_rfl) h⟩;cases h) λk13=>(ae.rt (ae.lt (ae.block (ae.rt (ae.block (ae.la (λn tm H r h=>by change bJ.lh213 F aj [k13] n tm H=_ at h;unfold bJ.lh213 at h;split at h;have e:eE tm [(0,_),(1,_),(5,_),(6,_)]:=⟨‹_›,‹_›,‹_›,‹_›,trivial⟩;cases (show [k13]=_ from ‹_›);obtain _ | k213:=n;cases h;exact ⟨_,rfl,by rw [<- eG e];exact Eq.trans (by kernel_rfl) h⟩;cases h) λk213=>ae.no)))))))))))
theorem bJ.eqX (aj:agU) (aa:Nat) (ac:Nat) (af:Int) (H:Hp):EX (cn (bJ.cs F aj)) bJ.pn (bJ.lh F aj) F Try.f171 [(.ptr aa ac),(.int .i64 af)] H=bJ.twX F aj aa ac af H:=by kernel_rfl
theorem bJ.k:Ok Try.prog 171 (mk1 (bJ.tw F)):=by
 intro args H v H' h
 unfold mk1 at h
 split at h
 ·exact okT (TB:=bJ.tb) Try.func171 (bH (bm.k F) dP) (bJ.loops F (bm.tw F)) ((bJ.eqX F (bm.tw F) _ _ _ H).trans h) (by kernel_rfl)
 ·cases h
def bl.j1 (F:Nat) (gu:agW) (aj:agU) (gn:ag2) (gp:ag5) (gv:ag5) (gw:agW) (gy:agW) (ua:Nat) (ub:Nat) (oX:Int) (H73:Hp):OA:=(Hp.ldB H73 ua (ub+15)).bind λb74=>(bif b74 then (some ((.tup [(.bool false),(.bool false)]),H73)) else ((gw ua ub oX H73).bind λr75=>((r75.1).asB).bind λb76=>(bif (!b76) then (some ((.tup [(.bool false),(.bool false)]),r75.2)) else ((gy ua ub oX r75.2).bind λr77=>((r77.1).asI .i64).bind λn78=>(bif (decide (n78<0)) then (some ((.tup [(.bool true),(.bool false)]),r77.2)) else ((gp ua ub oX n78 (-1) r77.2).bind λr79=>some ((.tup [(.bool false),(.bool false)]),r79.2)))))))
def bl.l61 (F:Nat) (gu:agW) (aj:agU) (gn:ag2) (gp:ag5) (gv:ag5) (gw:agW) (gy:agW) :Nat->Nat->Nat->Int->Int->Hp->OA
 | 0,_,_,_,_,_=>none
 | nz+1,mr,ms,jC,lA,H47=>(Hp.ldI H47 .i64 mr (ms+1)).bind λn80=>(bif (decide (lA<n80)) then ((Hp.ldB H47 mr (ms+15)).bind λb81=>(bif (!b81) then ((Hp.ldI H47 .i64 mr ms).bind λn82=>(Hp.ldI H47 .i64 mr (ms+1)).bind λn83=>(Hp.ldSl H47 mr (ms+2)).bind λs84=>(aj n82 n83 s84 jC lA H47).bind λr85=>((r85.1).asI .i64).bind λn86=>(if bk H47 r85.2 then ((Hp.ldI r85.2 .i64 mr ms).bind λn87=>(Hp.ldI r85.2 .i64 mr (ms+1)).bind λn88=>(Hp.ldSl r85.2 mr (ms+2)).bind λs89=>(aj n87 n88 s89 jC jC r85.2).bind λr90=>((r90.1).asI .i64).bind λn91=>(gn n86 n91 r90.2).bind λr92=>((r92.1).asI .i64).bind λn93=>(gv mr ms lA jC n93 r92.2).bind λr94=>bl.l61 F gu aj gn gp gv gw gy nz mr ms jC (wrap .i64 (lA+1)) r94.2) else none)) else (bl.j1 F gu aj gn gp gv gw gy mr ms jC H47))) else (bl.j1 F gu aj gn gp gv gw gy mr ms jC H47))
termination_by structural n=>n
def bl.j2 (gu:agW) (aj:agU) (gn:ag2) (gp:ag5) (gv:ag5) (gw:agW) (gy:agW) (Wt:Nat) (Wu:Nat) (kM:Int) (H37:Hp):OA:=bl.l61 F gu aj gn gp gv gw gy F Wt Wu kM (wrap .i64 (kM+1)) H37
def bl.l29 (F:Nat) (gu:agW) (aj:agU) (gn:ag2) (gp:ag5) (gv:ag5) (gw:agW) (gy:agW) :Nat->Nat->Nat->Int->Int->Hp->OA
 | 0,_,_,_,_,_=>none
 | hJ+1,ke,mu,jD,lC,H13=>(Hp.ldI H13 .i64 ke mu).bind λn95=>(bif (decide (lC<n95)) then ((Hp.ldB H13 ke (mu+15)).bind λb96=>(bif (!b96) then ((Hp.ldI H13 .i64 ke mu).bind λn97=>(Hp.ldI H13 .i64 ke (mu+1)).bind λn98=>(Hp.ldSl H13 ke (mu+2)).bind λs99=>(aj n97 n98 s99 lC jD H13).bind λr100=>((r100.1).asI .i64).bind λn101=>(if bk H13 r100.2 then ((Hp.ldI r100.2 .i64 ke mu).bind λn102=>(Hp.ldI r100.2 .i64 ke (mu+1)).bind λn103=>(Hp.ldSl r100.2 ke (mu+2)).bind λs104=>(aj n102 n103 s104 jD jD r100.2).bind λr105=>((r105.1).asI .i64).bind λn106=>(gn n101 n106 r105.2).bind λr107=>((r107.1).asI .i64).bind λn108=>(gp ke mu lC jD n108 r107.2).bind λr109=>bl.l29 F gu aj gn gp gv gw gy hJ ke mu jD (wrap .i64 (lC+1)) r109.2) else none)) else (bl.j2 F gu aj gn gp gv gw gy ke mu jD H13))) else (bl.j2 F gu aj gn gp gv gw gy ke mu jD H13))
termination_by structural n=>n
def bl.twX (gu:agW) (aj:agU) (gn:ag2) (gp:ag5) (gv:ag5) (gw:agW) (gy:agW) (aa:Nat) (ac:Nat) (af:Int) (H:Hp):OA:=(gu aa ac af H).bind λr4=>((r4.1).asB).bind λb5=>(bif (!b5) then (some ((.tup [(.bool true),(.bool true)]),r4.2)) else (bl.l29 F gu aj gn gp gv gw gy F aa ac af (wrap .i64 (af+1)) r4.2))
def bl.tw:=bl.twX F (az.tw F) (bm.tw F) (hU.tw F) (fX.tw F) (gi.tw F) (cq.tw F) (bJ.tw F)
def bl.lh29 (gu:agW) (aj:agU) (gn:ag2) (gp:ag5) (gv:ag5) (gw:agW) (gy:agW) (ks:ag0) (n:Nat) (tm:Tm) (H:Hp):OA:=match ks,tm 0,tm 1,tm 6 with
 | [],(.ptr ke mu),(.int .i64 jD),(.int .i64 lC)=>bl.l29 F gu aj gn gp gv gw gy n ke mu jD lC H
 | _,_,_,_=>none
def bl.lh61 (gu:agW) (aj:agU) (gn:ag2) (gp:ag5) (gv:ag5) (gw:agW) (gy:agW) (ks:ag0) (n:Nat) (tm:Tm) (H:Hp):OA:=match ks,tm 0,tm 1,tm 7 with
 | [],(.ptr mr ms),(.int .i64 jC),(.int .i64 lA)=>bl.l61 F gu aj gn gp gv gw gy n mr ms jC lA H
 | _,_,_,_=>none
def bl.lh (gu:agW) (aj:agU) (gn:ag2) (gp:ag5) (gv:ag5) (gw:agW) (gy:agW) (p:Nat) (ks:ag0) (n:Nat) (tm:Tm) (H:Hp):OA:=bif p.beq 61 then bl.lh61 F gu aj gn gp gv gw gy ks n tm H else (bif p.beq 29 then bl.lh29 F gu aj gn gp gv gw gy ks n tm H else (none))
def bl.pn:Nat->List Nat:=eL [(6,[16,17,18]),(10,[16,17,18])]
def bl.tb:Nat->List (List Nat):=eL [(6,[[],[],[],[],[3],[3,4],[3,4,5],[],[],[3,4,5,6,7,8],[],[10],[10,11],[10,11,12],[],[],[3,4,5,6,7,8,9,10,11,12,13,14,15],[3,4,5,6,7,8,9,10,11,12,13,14,15,16],[0,1,2,3,4,5,6,7,8,9,10,11,12,13,14,15,16,17]]),(10,[[],[],[],[],[3],[3,4],[3,4,5],[],[],[3,4,5,6,7,8],[],[10],[10,11],[10,11,12],[],[],[3,4,5,6,7,8,9,10,11,12,13,14,15],[3,4,5,6,7,8,9,10,11,12,13,14,15,16],[0,1,2,3,4,5,6,7,8,9,10,11,12,13,14,15,16,17]])]
def bl.cs (F:Nat) (gu:agW) (aj:agU) (gn:ag2) (gp:ag5) (gv:ag5) (gw:agW) (gy:agW):Cs:=[(166,mk1 gu),(62,mk6 aj),(168,mk2 gn),(167,mk9 gp),(169,mk9 gv),(170,mk1 gw),(171,mk1 gy)]
theorem bl.loops (gu:agW) (aj:agU) (gn:ag2) (gp:ag5) (gv:ag5) (gw:agW) (gy:agW):LO (cn (bl.cs F gu aj gn gp gv gw gy)) bl.pn (bl.lh F gu aj gn gp gv gw gy) F Try.f120:=
 (ae.rt (ae.rt (ae.seq (ae.rt (ae.block (ae.la (λn tm H r h=>by change bl.lh29 F gu aj gn gp gv gw gy [] n tm H=_ at h;unfold bl.lh29 at h;split at h;have e:eE tm [(0,_),(1,_),(6,_)]:=⟨‹_›,‹_›,‹_›,trivial⟩;obtain _ | k29:=n;cases h;exact ⟨_,rfl,by rw [<- eG e];exact Eq.trans (by kernel_rfl) h⟩;cases h) λk29=>ae.no))) (ae.lt (ae.rt (ae.block (ae.la (λn tm H r h=>by change bl.lh61 F gu aj gn gp gv gw gy [] n tm H=_ at h;unfold bl.lh61 at h;split at h;have e:eE tm [(0,_),(1,_),(7,_)]:=⟨‹_›,‹_›,‹_›,trivial⟩;obtain _ | k61:=n;cases h;exact ⟨_,rfl,by rw [<- eG e];exact Eq.trans (by kernel_rfl) h⟩;cases h) λk61=>ae.no)))))))
theorem bl.eqX (gu:agW) (aj:agU) (gn:ag2) (gp:ag5) (gv:ag5) (gw:agW) (gy:agW) (aa:Nat) (ac:Nat) (af:Int) (H:Hp):EX (cn (bl.cs F gu aj gn gp gv gw gy)) bl.pn (bl.lh F gu aj gn gp gv gw gy) F Try.f120 [(.ptr aa ac),(.int .i64 af)] H=bl.twX F gu aj gn gp gv gw gy aa ac af H:=by kernel_rfl
theorem bl.k:Ok Try.prog 120 (mk1 (bl.tw F)):=by
 intro args H v H' h
 unfold mk1 at h
 split at h
 ·exact okT (TB:=bl.tb) Try.func120 (bH (az.k F) (bH (bm.k F) (bH (hU.k F) (bH (fX.k F) (bH (gi.k F) (bH (cq.k F) (bH (bJ.k F) dP))))))) (bl.loops F (az.tw F) (bm.tw F) (hU.tw F) (fX.tw F) (gi.tw F) (cq.tw F) (bJ.tw F)) ((bl.eqX F (az.tw F) (bm.tw F) (hU.tw F) (fX.tw F) (gi.tw F) (cq.tw F) (bJ.tw F) _ _ _ H).trans h) (by kernel_rfl)
 ·cases h
def bf.j3 (F:Nat) (gd:agY) (gz:agW) (C29_:ahk) (yU:Nat) (Wv:Nat) (yV:Nat) (Ww:Nat) (uc:Int) (H161:Hp):OA:=C29_ yU Wv yV Ww (wrap .i64 (uc+1)) H161
def bf.j4 (gd:agY) (gz:agW) (C29_:ahk) (yW:Nat) (Wx:Nat) (rz:Nat) (yX:Nat) (qb:Int) (ud:Bool) (H146:Hp):OA:=(bif ud then (some ((.ptr rz yX),H146)) else ((Hp.ldB H146 rz (yX+15)).bind λb147=>(bif b147 then (some ((.ptr rz yX),H146)) else (bf.j3 F gd gz C29_ yW Wx rz yX qb H146))))
def bf.l938 (F:Nat) (gd:agY) (gz:agW) (C29_:ahk):Nat->Nat->Nat->Nat->Nat->Int->Bool->Bool->Hp->OA
 | 0,_,_,_,_,_,_,_,_=>none
 | Wy+1,pu,xm,nH,rC,lD,pv,nI,H126=>(bif (!pv) then ((Hp.ldB H126 nH (rC+15)).bind λb162=>(bif (!b162) then ((gz nH rC lD H126).bind λr163=>((r163.1).asTup 2).bind λl164=>(l164[0]?).bind λv165=>((v165).asB).bind λb166=>(l164[1]?).bind λv167=>((v167).asB).bind λb168=>bf.l938 F gd gz C29_ Wy pu xm nH rC lD b166 b168 r163.2) else (bf.j4 F gd gz C29_ pu xm nH rC lD nI H126))) else (bf.j4 F gd gz C29_ pu xm nH rC lD nI H126))
termination_by structural n=>n
def bf.l29 (F:Nat) (gd:agY) (gz:agW) :Nat->Nat->Nat->Nat->Nat->Int->Hp->OA
 | 0,_,_,_,_,_,_=>none
 | hJ+1,pw,xn,qc,yY,nJ,H56=>(Hp.ldI H56 .i64 pw xn).bind λn113=>(Hp.ldI H56 .i64 pw (xn+1)).bind λn114=>(bif (decide (nJ<(if n114<n113 then n114 else n113))) then (bf.l938 F gd gz (bf.l29 F gd gz hJ) F pw xn qc yY nJ false false H56) else (some ((.ptr qc yY),H56)))
termination_by structural n=>n
def bf.twX (gd:agY) (gz:agW) (aa:Int) (ac:Int) (bM:Sl) (H:Hp):OA:=(Hp.new H [(.int .i64 aa),(.int .i64 ac),(.sl bM)]).bind λH4=>(Hp.ldI H4 .i64 H.length 0).bind λn5=>(Hp.ldI H4 .i64 H.length 1).bind λn6=>(Hp.new H4 []).bind λH7=>(Hp.ldSl H7 H.length 2).bind λs8=>(Sl.row H7 s8 1).bind λxs10=>(Hp.app H7 1 8 (⟨some (H4.length,0),0,.ex 0⟩:Sl) s8.n xs10).bind λa9=>(if bk H7 a9.2 then ((Hp.ldI a9.2 .i64 H.length 0).bind λn11=>(gd n11 a9.2).bind λr12=>((r12.1).asAgg 3).bind λl13=>(l13[0]?).bind λv14=>((v14).asI .i64).bind λn15=>(l13[1]?).bind λv16=>((v16).asI .i64).bind λn17=>(l13[2]?).bind λv18=>((v18).asSl).bind λs19=>(if bk a9.2 r12.2 then ((Hp.ldI r12.2 .i64 H.length 0).bind λn20=>(gd n20 r12.2).bind λr21=>((r21.1).asAgg 3).bind λl22=>(l22[0]?).bind λv23=>((v23).asI .i64).bind λn24=>(l22[1]?).bind λv25=>((v25).asI .i64).bind λn26=>(l22[2]?).bind λv27=>((v27).asSl).bind λs28=>(if bk r12.2 r21.2 then ((Hp.ldI r21.2 .i64 H.length 1).bind λn29=>(gd n29 r21.2).bind λr30=>((r30.1).asAgg 3).bind λl31=>(l31[0]?).bind λv32=>((v32).asI .i64).bind λn33=>(l31[1]?).bind λv34=>((v34).asI .i64).bind λn35=>(l31[2]?).bind λv36=>((v36).asSl).bind λs37=>(if bk r21.2 r30.2 then ((Hp.ldI r30.2 .i64 H.length 1).bind λn38=>(gd n38 r30.2).bind λr39=>((r39.1).asAgg 3).bind λl40=>(l40[0]?).bind λv41=>((v41).asI .i64).bind λn42=>(l40[1]?).bind λv43=>((v43).asI .i64).bind λn44=>(l40[2]?).bind λv45=>((v45).asSl).bind λs46=>(if bk r30.2 r39.2 then ((Hp.new r39.2 [(.int .i64 n5),(.int .i64 n6),(.sl a9.1),(.int .i64 n15),(.int .i64 n17),(.sl s19),(.int .i64 n24),(.int .i64 n26),(.sl s28),(.int .i64 n33),(.int .i64 n35),(.sl s37),(.int .i64 n42),(.int .i64 n44),(.sl s46),(.bool false)]).bind λH47=>bf.l29 F gd gz F H.length 0 r39.2.length 0 0 H47) else none)) else none)) else none)) else none)) else none)
def bf.tw:=bf.twX F (dt.tw F) (bl.tw F)
def bf.lh29 (gd:agY) (gz:agW) (ks:ag0) (n:Nat) (tm:Tm) (H:Hp):OA:=match ks,tm 1,tm 2,tm 3,tm 4 with
 | [],(.ptr pw xn),.nilp,(.ptr qc yY),(.int .i64 nJ)=>bf.l29 F gd gz n pw xn qc yY nJ H
 | _,_,_,_,_=>none
def bf.lh938 (gd:agY) (gz:agW) (ks:ag0) (n:Nat) (tm:Tm) (H:Hp):OA:=match ks,tm 1,tm 2,tm 3,tm 4,tm 5,tm 6 with
 | [hJ],(.ptr pu xm),.nilp,(.ptr nH rC),(.int .i64 lD),(.bool pv),(.bool nI)=>bf.l938 F gd gz (bf.l29 F gd gz hJ) n pu xm nH rC lD pv nI H
 | _,_,_,_,_,_,_=>none
def bf.lh (gd:agY) (gz:agW) (p:Nat) (ks:ag0) (n:Nat) (tm:Tm) (H:Hp):OA:=bif p.beq 938 then bf.lh938 F gd gz ks n tm H else (bif p.beq 29 then bf.lh29 F gd gz ks n tm H else (none))
def bf.tb:Nat->List (List Nat):=eL [(1,[[],[0],[],[2],[],[],[5],[4,5,6],[0,1,2,3,4,5,6,7],[],[9],[4,5,6,7,9,10],[],[12],[4,5,6,7,9,10,11,12,13],[],[15],[4,5,6,7,9,10,11,12,13,14,15,16],[],[18],[4,5,6,7,9,10,11,12,13,14,15,16,17,18,19],[0,1,2,3,4,5,6,7,8,9,10,11,12,13,14,15,16,17,18,19,20],[0,1,2,3,4,5,6,7,8,9,10,11,12,13,14,15,16,17,18,19,20,21],[0,1,2,3,4,5,6,7,8,9,10,11,12,13,14,15,16,17,18,19,20,21,22]])]
def mk10 (g:ag4) (args:ag3) (H:Hp):OA:=match args with
 | [(.agg [(.int .i64 aa),(.int .i64 ac),(.sl bM)])]=>g aa ac bM H
 | _=>none
theorem mk10_E (g:ag4) (aa:Int) (ac:Int) (bM:Sl) (H:Hp):mk10 g [(.agg [(.int .i64 aa),(.int .i64 ac),(.sl bM)])] H=g aa ac bM H:=rfl
def bf.cs (F:Nat) (gd:agY) (gz:agW):Cs:=[(119,mk5 gd),(120,mk1 gz)]
theorem bf.loops (gd:agY) (gz:agW):LO (cn (bf.cs F gd gz)) cE (bf.lh F gd gz) F Try.f61:=
 (ae.rt (ae.rt (ae.lt (ae.rt (ae.block (ae.la (λn tm H r h=>by change bf.lh29 F gd gz [] n tm H=_ at h;unfold bf.lh29 at h;split at h;have e:eE tm [(1,_),(2,_),(3,_),(4,_)]:=⟨‹_›,‹_›,‹_›,‹_›,trivial⟩;obtain _ | k29:=n;cases h;exact ⟨_,rfl,by rw [<- eG e];exact Eq.trans (by kernel_rfl) h⟩;cases h) λk29=>(ae.rt (ae.lt (ae.block (ae.rt (ae.lt (ae.block (ae.la (λn tm H r h=>by change bf.lh938 F gd gz [k29] n tm H=_ at h;unfold bf.lh938 at h;split at h;have e:eE tm [(1,_),(2,_),(3,_),(4,_),(5,_),(6,_)]:=⟨‹_›,‹_›,‹_›,‹_›,‹_›,‹_›,trivial⟩;cases (show [k29]=_ from ‹_›);obtain _ | k938:=n;cases h;exact ⟨_,rfl,by rw [<- eG e];exact Eq.trans (by kernel_rfl) h⟩;cases h) λk938=>ae.no)))))))))))))
theorem bf.eqX (gd:agY) (gz:agW) (aa:Int) (ac:Int) (bM:Sl) (H:Hp):EX (cn (bf.cs F gd gz)) cE (bf.lh F gd gz) F Try.f61 [(.agg [(.int .i64 aa),(.int .i64 ac),(.sl bM)])] H=bf.twX F gd gz aa ac bM H:=by kernel_rfl
theorem bf.k:Ok Try.prog 61 (mk10 (bf.tw F)):=by
 intro args H v H' h
 unfold mk10 at h
 split at h
 ·exact okT (TB:=bf.tb) Try.func61 (bH (dt.k F) (bH (bl.k F) dP)) (bf.loops F (dt.tw F) (bl.tw F)) ((bf.eqX F (dt.tw F) (bl.tw F) _ _ _ H).trans h) (by kernel_rfl)
 ·cases h
def aB.j7 (F:Nat) (dZ:agZ) (cp:agW) (dF:ag8) (d_:ag_) (ec:ag4) (aj:agU) (co:ag2) (pz:Nat) (ue:Nat) (pA:Nat) (uf:Nat) (np:Nat) (pB:Nat) (ug:Nat) (DV:Nat) (H446:Hp):OA:=(Hp.ldI H446 .i64 ug DV).bind λn447=>(Hp.ldI H446 .i64 ug (DV+1)).bind λn448=>(Hp.ldSl H446 ug (DV+2)).bind λs449=>(Hp.ldI H446 .i64 np pB).bind λn450=>(Hp.ldI H446 .i64 np (pB+1)).bind λn451=>(Hp.ldSl H446 np (pB+2)).bind λs452=>(Hp.st H446 pz ue (.int .i64 n447)).bind λH453=>(Hp.st H453 pz (ue+1) (.int .i64 n448)).bind λH454=>(Hp.st H454 pz (ue+1+1) (.sl s449)).bind λH455=>(Hp.st H455 pA uf (.int .i64 n450)).bind λH456=>(Hp.st H456 pA (uf+1) (.int .i64 n451)).bind λH457=>(Hp.st H457 pA (uf+1+1) (.sl s452)).bind λH458=>(ifW (((((Hp.ldI H455 .i64 np pB).bind λn459=>(Hp.ldI H455 .i64 np (pB+1)).bind λn460=>(Hp.ldSl H455 np (pB+2)).bind λs461=>iN (.agg [(.int .i64 n450),(.int .i64 n451),(.sl s452)]) H455 (.agg [(.int .i64 n459),(.int .i64 n460),(.sl s461)]) H455)=some ())/\(((Hp.ldI H446 .i64 np pB).bind λn462=>(Hp.ldI H446 .i64 np (pB+1)).bind λn463=>(Hp.ldSl H446 np (pB+2)).bind λs464=>iN (.agg [(.int .i64 n450),(.int .i64 n451),(.sl s452)]) H446 (.agg [(.int .i64 n462),(.int .i64 n463),(.sl s464)]) H446)=some ())/\True)/\True) ((Hp.ldI H458 .i64 pz ue).bind λn465=>(Hp.ldI H458 .i64 pz (ue+1)).bind λn466=>(Hp.ldSl H458 pz (ue+2)).bind λs467=>(Hp.ldI H458 .i64 pA uf).bind λn468=>(Hp.ldI H458 .i64 pA (uf+1)).bind λn469=>(Hp.ldSl H458 pA (uf+2)).bind λs470=>some ((.tup [(.agg [(.int .i64 n465),(.int .i64 n466),(.sl s467)]),(.agg [(.int .i64 n468),(.int .i64 n469),(.sl s470)])]),H458)))
def aB.j10 (F:Nat) (dZ:agZ) (cp:agW) (dF:ag8) (d_:ag_) (ec:ag4) (aj:agU) (co:ag2) (C8189_:ahh) (yZ:Nat) (Wz:Nat) (y_:Nat) (WA:Nat) (za:Nat) (WB:Nat) (uh:Int) (zb:Nat) (WC:Nat) (zd:Nat) (WD:Nat) (ui:Int) (uj:Int) (ze:Nat) (WE:Nat) (uk:Int) (H651:Hp):OA:=C8189_ yZ Wz y_ WA za WB uh zb WC zd WD ui uj ze WE (wrap .i64 (uk+1)) H651
def aB.j11 (dZ:agZ) (cp:agW) (dF:ag8) (d_:ag_) (ec:ag4) (aj:agU) (co:ag2) (C8189_:ahh) (zf:Nat) (WG:Nat) (zg:Nat) (WH:Nat) (zh:Nat) (WI:Nat) (ul:Int) (zi:Nat) (WJ:Nat) (zj:Nat) (WK:Nat) (um:Int) (un:Int) (zk:Nat) (WL:Nat) (uo:Int) (H628:Hp):OA:=aB.j10 F dZ cp dF d_ ec aj co C8189_ zf WG zg WH zh WI ul zi WJ zj WK um un zk WL uo H628
def aB.j12 (F:Nat) (dZ:agZ) (cp:agW) (dF:ag8) (d_:ag_) (ec:ag4) (aj:agU) (co:ag2) (C131029_:ahp) (zm:Nat) (WM:Nat) (zn:Nat) (WN:Nat) (zo:Nat) (WO:Nat) (uq:Int) (zp:Nat) (WP:Nat) (zq:Nat) (WQ:Nat) (ur:Int) (ut:Int) (zt:Nat) (WR:Nat) (uu:Int) (uv:Int) (H747:Hp):OA:=C131029_ zm WM zn WN zo WO uq zp WP zq WQ ur ut zt WR uu (wrap .i64 (uv+1)) H747
def aB.j13 (dZ:agZ) (cp:agW) (dF:ag8) (d_:ag_) (ec:ag4) (aj:agU) (co:ag2) (C131029_:ahp) (zu:Nat) (WS:Nat) (zw:Nat) (WT:Nat) (zx:Nat) (WU:Nat) (uw:Int) (zy:Nat) (WV:Nat) (zA:Nat) (WW:Nat) (ux:Int) (uy:Int) (zB:Nat) (WX:Nat) (uz:Int) (uA:Int) (H721:Hp):OA:=aB.j12 F dZ cp dF d_ ec aj co C131029_ zu WS zw WT zx WU uw zy WV zA WW ux uy zB WX uz uA H721
def aB.l4192939 (F:Nat) (dZ:agZ) (cp:agW) (dF:ag8) (d_:ag_) (ec:ag4) (aj:agU) (co:ag2) (C8189_:ahh) (C131029_:ahp):Nat->Nat->Nat->Nat->Nat->Nat->Nat->Int->Nat->Nat->Nat->Nat->Int->Int->Nat->Nat->Int->Int->Int->Int->Hp->OA
 | 0,_,_,_,_,_,_,_,_,_,_,_,_,_,_,_,_,_,_,_,_=>none
 | WY+1,qd,zC,qe,zD,qf,zE,mR,qg,zF,nK,rD,nL,lE,mv,oY,lF,mS,nM,kQ,H678=>(bif (decide (kQ<mR)) then ((Hp.ldSl H678 mv (oY+2)).bind λs748=>(Hp.ldSl H678 mv (oY+2)).bind λs749=>(Sl.idx s749 (wrap .i64 ((wrap .i64 (kQ * lE))+lF)) 1).bind λp750=>(Hp.ldI H678 .i64 p750.1 p750.2).bind λn751=>(Hp.ldI H678 .i64 nK (rD+9)).bind λn752=>(Hp.ldI H678 .i64 nK ((rD+9)+1)).bind λn753=>(Hp.ldSl H678 nK ((rD+9)+2)).bind λs754=>(aj n752 n753 s754 kQ mS H678).bind λr755=>((r755.1).asI .i64).bind λn756=>(Sl.idx s748 (wrap .i64 ((wrap .i64 (kQ * lE))+lF)) 1).bind λp757=>(Hp.st r755.2 p757.1 p757.2 (.int .i64 (wrap .i64 (n751+(wrap .i64 (nM * n756)))))).bind λH758=>(ifW (((((Hp.ldI r755.2 .i64 p750.1 p750.2).bind λn759=>iN (.int .i64 n751) r755.2 (.int .i64 n759) r755.2)=some ())/\(((Hp.ldI H678 .i64 p750.1 p750.2).bind λn760=>iN (.int .i64 n751) H678 (.int .i64 n760) H678)=some ())/\True)/\((((Hp.ldSl r755.2 mv (oY+2)).bind λs761=>iN (.sl s749) r755.2 (.sl s761) r755.2)=some ())/\(((Hp.ldSl H678 mv (oY+2)).bind λs762=>iN (.sl s749) H678 (.sl s762) H678)=some ())/\True)/\((((Hp.ldSl r755.2 mv (oY+2)).bind λs763=>iN (.sl s748) r755.2 (.sl s763) r755.2)=some ())/\(((Hp.ldSl H678 mv (oY+2)).bind λs764=>iN (.sl s748) H678 (.sl s764) H678)=some ())/\True)/\True) (aB.l4192939 F dZ cp dF d_ ec aj co C8189_ C131029_ WY qd zC qe zD qf zE mR qg zF nK rD nL lE mv oY lF mS nM (wrap .i64 (kQ+1)) H758))) else (aB.j13 F dZ cp dF d_ ec aj co C131029_ qd zC qe zD qf zE mR qg zF nK rD nL lE mv oY lF mS H678))
termination_by structural n=>n
def aB.l131029 (F:Nat) (dZ:agZ) (cp:agW) (dF:ag8) (d_:ag_) (ec:ag4) (aj:agU) (co:ag2) (C8189_:ahh):Nat->Nat->Nat->Nat->Nat->Nat->Nat->Int->Nat->Nat->Nat->Nat->Int->Int->Nat->Nat->Int->Int->Hp->OA
 | 0,_,_,_,_,_,_,_,_,_,_,_,_,_,_,_,_,_,_=>none
 | DW+1,qh,zG,qi,zH,pE,xo,mT,qj,zI,qk,zJ,nN,nO,ql,zK,nP,nQ,H492=>(bif (decide (nQ<mT)) then ((cp pE xo 7 H492).bind λr652=>((r652.1).asI .i64).bind λn653=>aB.l4192939 F dZ cp dF d_ ec aj co C8189_ (aB.l131029 F dZ cp dF d_ ec aj co C8189_ DW) F qh zG qi zH pE xo mT qj zI qk zJ nN nO ql zK nP nQ (wrap .i64 (n653 - 3)) 0 r652.2) else (aB.j11 F dZ cp dF d_ ec aj co C8189_ qh zG qi zH pE xo mT qj zI qk zJ nN nO ql zK nP H492))
termination_by structural n=>n
def aB.l8189 (F:Nat) (dZ:agZ) (cp:agW) (dF:ag8) (d_:ag_) (ec:ag4) (aj:agU) (co:ag2) :Nat->Nat->Nat->Nat->Nat->Nat->Nat->Int->Nat->Nat->Nat->Nat->Int->Int->Nat->Nat->Int->Hp->OA
 | 0,_,_,_,_,_,_,_,_,_,_,_,_,_,_,_,_,_=>none
 | uB+1,qm,zL,qn,zM,rE,DX,pF,qo,zN,rF,DY,nR,nS,qp,zO,nT,H131=>(bif (decide (nT<nS)) then (aB.l131029 F dZ cp dF d_ ec aj co (aB.l8189 F dZ cp dF d_ ec aj co uB) F qm zL qn zM rE DX pF qo zN rF DY nR nS qp zO nT nR H131) else (aB.j7 F dZ cp dF d_ ec aj co qm zL qn zM qo zN qp zO H131))
termination_by structural n=>n
def aB.j14 (dZ:agZ) (cp:agW) (dF:ag8) (d_:ag_) (ec:ag4) (aj:agU) (co:ag2) (zP:Nat) (WZ:Nat) (zQ:Nat) (W_:Nat) (xp:Nat) (LZ:Nat) (qq:Int) (zR:Nat) (Xa:Nat) (zS:Nat) (Xb:Nat) (uC:Int) (H97:Hp):OA:=(cp xp LZ 4 H97).bind λr98=>((r98.1).asI .i64).bind λn99=>(co qq n99 r98.2).bind λr100=>((r100.1).asAgg 3).bind λl101=>(l101[0]?).bind λv102=>((v102).asI .i64).bind λn103=>(l101[1]?).bind λv104=>((v104).asI .i64).bind λn105=>(l101[2]?).bind λv106=>((v106).asSl).bind λs107=>(Hp.new r100.2 [.int .i64 0,.int .i64 0,.sl ⟨none,0,.ex 0⟩]).bind λH108=>(Hp.st H108 r100.2.length 0 (.int .i64 n103)).bind λH109=>(Hp.st H109 r100.2.length (0+1) (.int .i64 n105)).bind λH110=>(Hp.st H110 r100.2.length (0+1+1) (.sl s107)).bind λH111=>aB.l8189 F dZ cp dF d_ ec aj co F zP WZ zQ W_ xp LZ qq zR Xa zS Xb uC n99 r100.2.length 0 0 H111
def aB.l510 (F:Nat) (dZ:agZ) (cp:agW) (dF:ag8) (d_:ag_) (ec:ag4) (aj:agU) (co:ag2) :Nat->Nat->Nat->Nat->Nat->Nat->Nat->Int->Nat->Nat->Nat->Nat->Int->Hp->OA
 | 0,_,_,_,_,_,_,_,_,_,_,_,_,_=>none
 | Xc+1,mU,xq,mw,xr,kf,xt,kR,oZ,kS,nq,qs,kg,H75=>(Hp.ldI H75 .i64 oZ kS).bind λn765=>(bif (decide (kg<(if kR<n765 then kR else n765))) then ((Hp.ldI H75 .i64 nq qs).bind λn766=>(Hp.ldI H75 .i64 nq (qs+1)).bind λn767=>(Hp.ldSl H75 nq (qs+2)).bind λs768=>(aj n766 n767 s768 kg kg H75).bind λr769=>((r769.1).asI .i64).bind λn770=>(bif (n770 != 0) then (aB.l510 F dZ cp dF d_ ec aj co Xc mU xq mw xr kf xt kR oZ kS nq qs (wrap .i64 (kg+1)) r769.2) else (aB.j14 F dZ cp dF d_ ec aj co mU xq mw xr kf xt kR oZ kS nq qs kg r769.2))) else (aB.j14 F dZ cp dF d_ ec aj co mU xq mw xr kf xt kR oZ kS nq qs kg H75))
termination_by structural n=>n
def aB.twX (dZ:agZ) (cp:agW) (dF:ag8) (d_:ag_) (ec:ag4) (aj:agU) (co:ag2) (aa:Sl) (H:Hp):OA:=(Hp.new H [.int .i64 0,.int .i64 0,.sl ⟨none,0,.ex 0⟩]).bind λH2=>(Hp.new H2 [.int .i64 0,.int .i64 0,.sl ⟨none,0,.ex 0⟩]).bind λH3=>(dZ aa H3).bind λr4=>((r4.1).asP).bind λp5=>(cp p5.1 p5.2 4 r4.2).bind λr6=>((r6.1).asI .i64).bind λn7=>(cp p5.1 p5.2 4 r6.2).bind λr8=>((r8.1).asI .i64).bind λn9=>(dF p5.1 p5.2 n9 (wrap .i64 (1+n7)) r8.2).bind λr10=>((r10.1).asAgg 3).bind λl11=>(l11[0]?).bind λv12=>((v12).asI .i64).bind λn13=>(l11[1]?).bind λv14=>((v14).asI .i64).bind λn15=>(l11[2]?).bind λv16=>((v16).asSl).bind λs17=>(Hp.new r10.2 [.int .i64 0,.int .i64 0,.sl ⟨none,0,.ex 0⟩]).bind λH18=>(Hp.st H18 r10.2.length 0 (.int .i64 n13)).bind λH19=>(Hp.st H19 r10.2.length (0+1) (.int .i64 n15)).bind λH20=>(Hp.st H20 r10.2.length (0+1+1) (.sl s17)).bind λH21=>(cp p5.1 p5.2 10 H21).bind λr22=>((r22.1).asI .i64).bind λn23=>(bif (n23==0) then ((d_ p5.1 p5.2 r22.2).bind λr24=>((r24.1).asAgg 3).bind λl25=>(l25[0]?).bind λv26=>((v26).asI .i64).bind λn27=>(l25[1]?).bind λv28=>((v28).asI .i64).bind λn29=>(l25[2]?).bind λv30=>((v30).asSl).bind λs31=>(Hp.ldI r24.2 .i64 r10.2.length 0).bind λn32=>(Hp.ldI r24.2 .i64 r10.2.length (0+1)).bind λn33=>(Hp.ldSl r24.2 r10.2.length (0+2)).bind λs34=>(Hp.st r24.2 H.length 0 (.int .i64 n27)).bind λH35=>(Hp.st H35 H.length (0+1) (.int .i64 n29)).bind λH36=>(Hp.st H36 H.length (0+1+1) (.sl s31)).bind λH37=>(Hp.st H37 H2.length 0 (.int .i64 n32)).bind λH38=>(Hp.st H38 H2.length (0+1) (.int .i64 n33)).bind λH39=>(Hp.st H39 H2.length (0+1+1) (.sl s34)).bind λH40=>(ifW (((((Hp.ldI H37 .i64 r10.2.length 0).bind λn41=>(Hp.ldI H37 .i64 r10.2.length (0+1)).bind λn42=>(Hp.ldSl H37 r10.2.length (0+2)).bind λs43=>iN (.agg [(.int .i64 n32),(.int .i64 n33),(.sl s34)]) H37 (.agg [(.int .i64 n41),(.int .i64 n42),(.sl s43)]) H37)=some ())/\(((Hp.ldI r24.2 .i64 r10.2.length 0).bind λn44=>(Hp.ldI r24.2 .i64 r10.2.length (0+1)).bind λn45=>(Hp.ldSl r24.2 r10.2.length (0+2)).bind λs46=>iN (.agg [(.int .i64 n32),(.int .i64 n33),(.sl s34)]) r24.2 (.agg [(.int .i64 n44),(.int .i64 n45),(.sl s46)]) r24.2)=some ())/\(((Hp.ldI r22.2 .i64 r10.2.length 0).bind λn47=>(Hp.ldI r22.2 .i64 r10.2.length (0+1)).bind λn48=>(Hp.ldSl r22.2 r10.2.length (0+2)).bind λs49=>iN (.agg [(.int .i64 n32),(.int .i64 n33),(.sl s34)]) r22.2 (.agg [(.int .i64 n47),(.int .i64 n48),(.sl s49)]) r22.2)=some ())/\True)/\True) ((Hp.ldI H40 .i64 H.length 0).bind λn50=>(Hp.ldI H40 .i64 H.length (0+1)).bind λn51=>(Hp.ldSl H40 H.length (0+2)).bind λs52=>(Hp.ldI H40 .i64 H2.length 0).bind λn53=>(Hp.ldI H40 .i64 H2.length (0+1)).bind λn54=>(Hp.ldSl H40 H2.length (0+2)).bind λs55=>some ((.tup [(.agg [(.int .i64 n50),(.int .i64 n51),(.sl s52)]),(.agg [(.int .i64 n53),(.int .i64 n54),(.sl s55)])]),H40)))) else ((Hp.ldI r22.2 .i64 r10.2.length 0).bind λn56=>(Hp.ldI r22.2 .i64 r10.2.length (0+1)).bind λn57=>(Hp.ldSl r22.2 r10.2.length (0+2)).bind λs58=>(ec n56 n57 s58 r22.2).bind λr59=>((r59.1).asP).bind λp60=>aB.l510 F dZ cp dF d_ ec aj co F H.length 0 H2.length 0 p5.1 p5.2 (wrap .i64 (1+n7)) r10.2.length 0 p60.1 p60.2 0 r59.2))
def aB.tw:=aB.twX F (dy.tw F) (bO.tw F) (cw.tw F) (fz.tw F) (bf.tw F) (bm.tw F) (eH.tw F)
def aB.lh510 (dZ:agZ) (cp:agW) (dF:ag8) (d_:ag_) (ec:ag4) (aj:agU) (co:ag2) (ks:ag0) (n:Nat) (tm:Tm) (H:Hp):OA:=match ks,tm 2,tm 3,tm 4,tm 5,tm 6,tm 7,tm 8 with
 | [],(.ptr mU xq),(.ptr mw xr),(.ptr kf xt),(.int .i64 kR),(.ptr oZ kS),(.ptr nq qs),(.int .i64 kg)=>aB.l510 F dZ cp dF d_ ec aj co n mU xq mw xr kf xt kR oZ kS nq qs kg H
 | _,_,_,_,_,_,_,_=>none
def aB.lh8189 (dZ:agZ) (cp:agW) (dF:ag8) (d_:ag_) (ec:ag4) (aj:agU) (co:ag2) (ks:ag0) (n:Nat) (tm:Tm) (H:Hp):OA:=match ks,tm 2,tm 3,tm 4,tm 5,tm 6,tm 7,tm 8,tm 9,tm 10,tm 11 with
 | [],(.ptr qm zL),(.ptr qn zM),(.ptr rE DX),(.int .i64 pF),(.ptr qo zN),(.ptr rF DY),(.int .i64 nR),(.int .i64 nS),(.ptr qp zO),(.int .i64 nT)=>aB.l8189 F dZ cp dF d_ ec aj co n qm zL qn zM rE DX pF qo zN rF DY nR nS qp zO nT H
 | _,_,_,_,_,_,_,_,_,_,_=>none
def aB.lh131029 (dZ:agZ) (cp:agW) (dF:ag8) (d_:ag_) (ec:ag4) (aj:agU) (co:ag2) (ks:ag0) (n:Nat) (tm:Tm) (H:Hp):OA:=match ks,tm 2,tm 3,tm 4,tm 5,tm 6,tm 7,tm 8,tm 9,tm 10,tm 11,tm 12 with
 | [uB],(.ptr qh zG),(.ptr qi zH),(.ptr pE xo),(.int .i64 mT),(.ptr qj zI),(.ptr qk zJ),(.int .i64 nN),(.int .i64 nO),(.ptr ql zK),(.int .i64 nP),(.int .i64 nQ)=>aB.l131029 F dZ cp dF d_ ec aj co (aB.l8189 F dZ cp dF d_ ec aj co uB) n qh zG qi zH pE xo mT qj zI qk zJ nN nO ql zK nP nQ H
 | _,_,_,_,_,_,_,_,_,_,_,_=>none
def aB.lh4192939 (dZ:agZ) (cp:agW) (dF:ag8) (d_:ag_) (ec:ag4) (aj:agU) (co:ag2) (ks:ag0) (n:Nat) (tm:Tm) (H:Hp):OA:=match ks,tm 2,tm 3,tm 4,tm 5,tm 6,tm 7,tm 8,tm 9,tm 10,tm 11,tm 12,tm 13,tm 14 with
 | [DW,uB],(.ptr qd zC),(.ptr qe zD),(.ptr qf zE),(.int .i64 mR),(.ptr qg zF),(.ptr nK rD),(.int .i64 nL),(.int .i64 lE),(.ptr mv oY),(.int .i64 lF),(.int .i64 mS),(.int .i64 nM),(.int .i64 kQ)=>aB.l4192939 F dZ cp dF d_ ec aj co (aB.l8189 F dZ cp dF d_ ec aj co uB) (aB.l131029 F dZ cp dF d_ ec aj co (aB.l8189 F dZ cp dF d_ ec aj co uB) DW) n qd zC qe zD qf zE mR qg zF nK rD nL lE mv oY lF mS nM kQ H
 | _,_,_,_,_,_,_,_,_,_,_,_,_,_=>none
def aB.lh (dZ:agZ) (cp:agW) (dF:ag8) (d_:ag_) (ec:ag4) (aj:agU) (co:ag2) (p:Nat) (ks:ag0) (n:Nat) (tm:Tm) (H:Hp):OA:=bif p.beq 4192939 then aB.lh4192939 F dZ cp dF d_ ec aj co ks n tm H else (bif p.beq 131029 then aB.lh131029 F dZ cp dF d_ ec aj co ks n tm H else (bif p.beq 8189 then aB.lh8189 F dZ cp dF d_ ec aj co ks n tm H else (bif p.beq 510 then aB.lh510 F dZ cp dF d_ ec aj co ks n tm H else (none))))
def aB.pn:Nat->List Nat:=eL [(5,[1,3,4,999,1002]),(22,[23,27,999,1001,1008,1015]),(23,[2,3,999,1001])]
def aB.tb:Nat->List (List Nat):=eL [(5,[[],[0],[],[0,1],[0,1,2,3]]),(22,[[],[0],[],[],[2,3],[],[2,3,4,5],[],[7],[],[],[9,10],[],[9,10,11,12],[7,8,9,10,11,12,13],[7,8,9,10,11,12,13,14],[],[],[17],[17,18],[17,18,19],[],[],[17,18,19,20,21,22],[16,17,18,19,20,21,22,23],[7,8,9,10,11,12,13,14,15,16,17,18,19,20,21,22,23,24],[0,1,2,3,4,5,6,7,8,9,10,11,12,13,14,15,16,17,18,19,20,21,22,23,24,25],[0,1,2,3,4,5,6,7,8,9,10,11,12,13,14,15,16,17,18,19,20,21,22,23,24,25,26]]),(23,[[],[],[0],[0,1,2]])]
def aB.cs (F:Nat) (dZ:agZ) (cp:agW) (dF:ag8) (d_:ag_) (ec:ag4) (aj:agU) (co:ag2):Cs:=[(57,mk0 dZ),(58,mk1 cp),(59,mk3 dF),(60,mk4 d_),(61,mk10 ec),(62,mk6 aj),(63,mk2 co)]
theorem aB.loops (dZ:agZ) (cp:agW) (dF:ag8) (d_:ag_) (ec:ag4) (aj:agU) (co:ag2):LO (cn (aB.cs F dZ cp dF d_ ec aj co)) aB.pn (aB.lh F dZ cp dF d_ ec aj co) F Try.f13:=
 (ae.rt (ae.rt (ae.rt (ae.rt (ae.rt (ae.rt (ae.rt (ae.seq (ae.block (ae.la (λn tm H r h=>by change aB.lh510 F dZ cp dF d_ ec aj co [] n tm H=_ at h;unfold aB.lh510 at h;split at h;have e:eE tm [(2,_),(3,_),(4,_),(5,_),(6,_),(7,_),(8,_)]:=⟨‹_›,‹_›,‹_›,‹_›,‹_›,‹_›,‹_›,trivial⟩;obtain _ | k510:=n;cases h;exact ⟨_,rfl,by rw [<- eG e];exact Eq.trans (by kernel_rfl) h⟩;cases h) λk510=>ae.no)) (ae.rt (ae.rt (ae.lt (ae.rt (ae.block (ae.la (λn tm H r h=>by change aB.lh8189 F dZ cp dF d_ ec aj co [] n tm H=_ at h;unfold aB.lh8189 at h;split at h;have e:eE tm [(2,_),(3,_),(4,_),(5,_),(6,_),(7,_),(8,_),(9,_),(10,_),(11,_)]:=⟨‹_›,‹_›,‹_›,‹_›,‹_›,‹_›,‹_›,‹_›,‹_›,‹_›,trivial⟩;obtain _ | k8189:=n;cases h;exact ⟨_,rfl,by rw [<- eG e];exact Eq.trans (by kernel_rfl) h⟩;cases h) λk8189=>(ae.rt (ae.lt (ae.block (ae.rt (ae.block (ae.la (λn tm H r h=>by change aB.lh131029 F dZ cp dF d_ ec aj co [k8189] n tm H=_ at h;unfold aB.lh131029 at h;split at h;have e:eE tm [(2,_),(3,_),(4,_),(5,_),(6,_),(7,_),(8,_),(9,_),(10,_),(11,_),(12,_)]:=⟨‹_›,‹_›,‹_›,‹_›,‹_›,‹_›,‹_›,‹_›,‹_›,‹_›,‹_›,trivial⟩;cases (show [k8189]=_ from ‹_›);obtain _ | k131029:=n;cases h;exact ⟨_,rfl,by rw [<- eG e];exact Eq.trans (by kernel_rfl) h⟩;cases h) λk131029=>(ae.rt (ae.lt (ae.block (ae.rt (ae.rt (ae.block (ae.la (λn tm H r h=>by change aB.lh4192939 F dZ cp dF d_ ec aj co [k131029,k8189] n tm H=_ at h;unfold aB.lh4192939 at h;split at h;have e:eE tm [(2,_),(3,_),(4,_),(5,_),(6,_),(7,_),(8,_),(9,_),(10,_),(11,_),(12,_),(13,_),(14,_)]:=⟨‹_›,‹_›,‹_›,‹_›,‹_›,‹_›,‹_›,‹_›,‹_›,‹_›,‹_›,‹_›,‹_›,trivial⟩;cases (show [k131029,k8189]=_ from ‹_›);obtain _ | k4192939:=n;cases h;exact ⟨_,rfl,by rw [<- eG e];exact Eq.trans (by kernel_rfl) h⟩;cases h) λk4192939=>ae.no)))))))))))))))))))))))))))
theorem aB.eqX (dZ:agZ) (cp:agW) (dF:ag8) (d_:ag_) (ec:ag4) (aj:agU) (co:ag2) (aa:Sl) (H:Hp):EX (cn (aB.cs F dZ cp dF d_ ec aj co)) aB.pn (aB.lh F dZ cp dF d_ ec aj co) F Try.f13 [(.sl aa)] H=aB.twX F dZ cp dF d_ ec aj co aa H:=by kernel_rfl
theorem aB.k:Ok Try.prog 13 (mk0 (aB.tw F)):=by
 intro args H v H' h
 unfold mk0 at h
 split at h
 ·exact okT (TB:=aB.tb) Try.func13 (bH (dy.k F) (bH (bO.k F) (bH (cw.k F) (bH (fz.k F) (bH (bf.k F) (bH (bm.k F) (bH (eH.k F) dP))))))) (aB.loops F (dy.tw F) (bO.tw F) (cw.tw F) (fz.tw F) (bf.tw F) (bm.tw F) (eH.tw F)) ((aB.eqX F (dy.tw F) (bO.tw F) (cw.tw F) (fz.tw F) (bf.tw F) (bm.tw F) (eH.tw F) _ H).trans h) (by kernel_rfl)
 ·cases h
def g_.twX (F:Nat) (aa:Int) (aQ:Int) (eM:Int) (H:Hp):OA:=(bif (decide (aQ<=aa)) then (some ((.bool (decide (aa<=eM))),H)) else (some ((.bool false),H)))
def g_.tw:=g_.twX F
theorem g_.k:Ok Try.prog 125 (mk7 (g_.tw F)):=by
 intro args H v H' h
 unfold mk7 at h
 split at h
 ·exact ok0 Try.func125 (Eq.trans (by kernel_rfl) h) (by kernel_rfl) (by kernel_rfl)
 ·cases h
def fY.twX (F:Nat) (aa:Sl) (H:Hp):OA:=some ((.int .i64 (aa.n:Int)),H)
def fY.tw:=fY.twX F
theorem fY.k:Ok Try.prog 68 (mk0 (fY.tw F)):=by
 intro args H v H' h
 unfold mk0 at h
 split at h
 ·exact ok0 Try.func68 (Eq.trans (by kernel_rfl) h) (by kernel_rfl) (by kernel_rfl)
 ·cases h
def iw.twX (F:Nat) (mz:ag6) (aa:Int) (H:Hp):OA:=(mz aa (-1000000000000) 1000000000000 H).bind λr2=>((r2.1).asB).bind λb3=>some ((.bool (!b3)),r2.2)
def iw.tw:=iw.twX F (g_.tw F)
def iw.cs (F:Nat) (mz:ag6):Cs:=[(125,mk7 mz)]
theorem iw.eqX (mz:ag6) (aa:Int) (H:Hp):EX (cn (iw.cs F mz)) cE lh0 F Try.f127 [(.int .i64 aa)] H=iw.twX F mz aa H:=by kernel_rfl
theorem iw.k:Ok Try.prog 127 (mk5 (iw.tw F)):=by
 intro args H v H' h
 unfold mk5 at h
 split at h
 ·exact okT (TB:=cE) Try.func127 (bH (g_.k F) dP) ae.no ((iw.eqX F (g_.tw F) _ H).trans h) (by kernel_rfl)
 ·cases h
def dT.l13 (F:Nat) (kC:agY) :Nat->Sl->Int->Int->Hp->OA
 | 0,_,_,_,_=>none
 | jB+1,ki,eN,dG,H6=>(bif (decide (dG<eN)) then ((Sl.idx ki dG 1).bind λp11=>(Hp.ldI H6 .i64 p11.1 p11.2).bind λn12=>(kC n12 H6).bind λr13=>((r13.1).asB).bind λb14=>(bif b14 then (some ((.int .i64 dG),r13.2)) else (dT.l13 F kC jB ki eN (wrap .i64 (dG+1)) r13.2))) else (some ((.int .i64 (-1)),H6)))
def dT.twX (kC:agY) (aa:Sl) (H:Hp):OA:=dT.l13 F kC F aa (aa.n:Int) 0 H
def dT.tw:=dT.twX F (iw.tw F)
def dT.lh13 (kC:agY) (ks:ag0) (n:Nat) (tm:Tm) (H:Hp):OA:=match ks,tm 0,tm 1,tm 7,tm 8 with
 | [],(.sl ki),(.fn 127 []),(.int .i64 eN),(.int .i64 dG)=>dT.l13 F kC n ki eN dG H
 | _,_,_,_,_=>none
def dT.lh (kC:agY) (p:Nat) (ks:ag0) (n:Nat) (tm:Tm) (H:Hp):OA:=bif p.beq 13 then dT.lh13 F kC ks n tm H else (none)
def mk11 (g:agZ) (args:ag3) (H:Hp):OA:=match args with
 | [(.sl aa),(.fn 127 [])]=>g aa H
 | _=>none
theorem mk11_E (g:agZ) (aa:Sl) (H:Hp):mk11 g [(.sl aa),(.fn 127 [])] H=g aa H:=rfl
def dT.cs (F:Nat) (kC:agY):Cs:=[(127,mk5 kC)]
theorem dT.loops (kC:agY):LO (cn (dT.cs F kC)) cE (dT.lh F kC) F Try.f122:=
 (ae.rt (ae.lt (ae.rt (ae.block (ae.la (λn tm H r h=>by change dT.lh13 F kC [] n tm H=_ at h;unfold dT.lh13 at h;split at h;have e:eE tm [(0,_),(1,_),(7,_),(8,_)]:=⟨‹_›,‹_›,‹_›,‹_›,trivial⟩;obtain _ | k13:=n;cases h;exact ⟨_,rfl,by rw [<- eG e];exact Eq.trans (by kernel_rfl) h⟩;cases h) λk13=>ae.no)))))
theorem dT.eqX (kC:agY) (aa:Sl) (H:Hp):EX (cn (dT.cs F kC)) cE (dT.lh F kC) F Try.f122 [(.sl aa),(.fn 127 [])] H=dT.twX F kC aa H:=by kernel_rfl
theorem dT.k:Ok Try.prog 122 (mk11 (dT.tw F)):=by
 intro args H v H' h
 unfold mk11 at h
 split at h
 ·exact okT (TB:=cE) Try.func122 (bH (iw.k F) dP) (dT.loops F (iw.tw F)) ((dT.eqX F (iw.tw F) _ H).trans h) (by kernel_rfl)
 ·cases h
def iI.twX (F:Nat) (uD:agZ) (aa:Sl) (H:Hp):OA:=(uD aa H).bind λr2=>((r2.1).asI .i64).bind λn3=>some ((.bool (decide (n3>=0))),r2.2)
def iI.tw:=iI.twX F (dT.tw F)
def iI.cs (F:Nat) (uD:agZ):Cs:=[(122,mk11 uD)]
theorem iI.eqX (uD:agZ) (aa:Sl) (H:Hp):EX (cn (iI.cs F uD)) cE lh0 F Try.f65 [(.sl aa),(.fn 127 [])] H=iI.twX F uD aa H:=by kernel_rfl
theorem iI.k:Ok Try.prog 65 (mk11 (iI.tw F)):=by
 intro args H v H' h
 unfold mk11 at h
 split at h
 ·exact okT (TB:=cE) Try.func65 (bH (dT.k F) dP) ae.no ((iI.eqX F (dT.tw F) _ H).trans h) (by kernel_rfl)
 ·cases h
def eF.twX (F:Nat) (mz:ag6) (jE:agZ) (uE:agZ) (aa:Int) (ac:Int) (bM:Sl) (H:Hp):OA:=(Hp.new H [(.int .i64 aa),(.int .i64 ac),(.sl bM)]).bind λH4=>(Hp.ldI H4 .i64 H.length 0).bind λn5=>(mz n5 0 48 H4).bind λr6=>((r6.1).asB).bind λb7=>(bif b7 then ((Hp.ldI r6.2 .i64 H.length 1).bind λn8=>(mz n8 0 48 r6.2).bind λr9=>((r9.1).asB).bind λb10=>(bif b10 then ((Hp.ldSl r9.2 H.length 2).bind λs11=>(jE s11 r9.2).bind λr12=>((r12.1).asI .i64).bind λn13=>(if bk r9.2 r12.2 then ((Hp.ldI r12.2 .i64 H.length 0).bind λn14=>(Hp.ldI r12.2 .i64 H.length 1).bind λn15=>(bif (n13==(wrap .i64 (n14 * n15))) then ((Hp.ldSl r12.2 H.length 2).bind λs16=>(uE s16 r12.2).bind λr17=>((r17.1).asB).bind λb18=>some ((.bool (!b18)),r17.2)) else (some ((.bool false),r12.2)))) else none)) else (some ((.bool false),r9.2)))) else (some ((.bool false),r6.2)))
def eF.tw:=eF.twX F (g_.tw F) (fY.tw F) (iI.tw F)
def eF.pn:Nat->List Nat:=eL [(1,[2,6,22])]
def eF.tb:Nat->List (List Nat):=eL [(1,[[],[0],[0,1],[0,1,2],[0,1,2,3],[0,1,2,3,4],[0,1,2,3,4,5],[0,1,2,3,4,5,6],[0,1,2,3,4,5,6,7],[0,1,2,3,4,5,6,7,8],[0,1,2,3,4,5,6,7,8,9],[0,1,2,3,4,5,6,7,8,9,10],[0,1,2,3,4,5,6,7,8],[0,1,2,3,4,5,6,7,8,12],[0,1,2,3,4,5,6,7,8],[0,1,2,3,4,5,6,7,8,14],[0,1,2,3,4,5,6,7,8,12,13,14,15],[0,1,2,3,4,5,6,7,8,9,10,11,12,13,14,15,16],[0,1,2,3,4,5,6,7,8,9,10,11,12,13,14,15,16,17],[0,1,2,3,4,5,6,7,8,9,10,11,12,13,14,15,16,17,18],[0,1,2,3,4,5,6,7,8,9,10,11,12,13,14,15,16,17,18,19],[0,1,2,3,4,5,6,7,8,9,10,11,12,13,14,15,16,17,18,19,20],[0,1,2,3,4,5,6,7,8,9,10,11,12,13,14,15,16,17,18,19,20,21],[0,1,2,3,4,5,6,7,8,9,10,11,12,13,14,15,16,17,18,19,20,21,22],[0,1,2,3,4,5,6,7,8,9,10,11,12,13,14,15,16,17,18,19,20,21,22,23],[0,1,2,3,4,5,6,7,8,9,10,11,12,13,14,15,16,17,18,19,20,21,22,23,24]])]
def eF.cs (F:Nat) (mz:ag6) (jE:agZ) (uE:agZ):Cs:=[(125,mk7 mz),(68,mk0 jE),(65,mk11 uE)]
theorem eF.eqX (mz:ag6) (jE:agZ) (uE:agZ) (aa:Int) (ac:Int) (bM:Sl) (H:Hp):EX (cn (eF.cs F mz jE uE)) eF.pn lh0 F Try.f76 [(.agg [(.int .i64 aa),(.int .i64 ac),(.sl bM)])] H=eF.twX F mz jE uE aa ac bM H:=by kernel_rfl
theorem eF.k:Ok Try.prog 76 (mk10 (eF.tw F)):=by
 intro args H v H' h
 unfold mk10 at h
 split at h
 ·exact okT (TB:=eF.tb) Try.func76 (bH (g_.k F) (bH (fY.k F) (bH (iI.k F) dP))) ae.no ((eF.eqX F (g_.tw F) (fY.tw F) (iI.tw F) _ _ _ H).trans h) (by kernel_rfl)
 ·cases h
def fH.twX (F:Nat) (aa:Int) (aQ:Int) (H:Hp):OA:=(Hp.new H [.int .i64 0,.int .i64 0,.sl ⟨none,0,.ex 0⟩]).bind λH3=>(Hp.mk H3 [.int .i64 0] 8 (wrap .i64 (aa * aQ)) (wrap .i64 (aa * aQ))).bind λm4=>(Hp.st m4.2 H.length 0 (.int .i64 aa)).bind λH5=>(Hp.st H5 H.length (0+1) (.int .i64 aQ)).bind λH6=>(Hp.st H6 H.length (0+1+1) (.sl m4.1)).bind λH7=>(Hp.ldI H7 .i64 H.length 0).bind λn8=>(Hp.ldI H7 .i64 H.length (0+1)).bind λn9=>(Hp.ldSl H7 H.length (0+2)).bind λs10=>some ((.agg [(.int .i64 n8),(.int .i64 n9),(.sl s10)]),H7)
def fH.tw:=fH.twX F
theorem fH.k:Ok Try.prog 74 (mk2 (fH.tw F)):=by
 intro args H v H' h
 unfold mk2 at h
 split at h
 ·exact ok0 Try.func74 (Eq.trans (by kernel_rfl) h) (by kernel_rfl) (by kernel_rfl)
 ·cases h
def bR.twX (F:Nat) (aa:Int) (ac:Int) (bM:Sl) (aA:Int) (cG:Int) (H:Hp):OA:=(Hp.new H [(.int .i64 aa),(.int .i64 ac),(.sl bM)]).bind λH6=>(Hp.ldSl H6 H.length 2).bind λs7=>(Hp.ldI H6 .i64 H.length 1).bind λn8=>(Sl.idx s7 (wrap .i64 ((wrap .i64 (aA * n8))+cG)) 1).bind λp9=>some ((.ptr p9.1 p9.2),H6)
def bR.tw:=bR.twX F
theorem bR.k:Ok Try.prog 75 (mk6 (bR.tw F)):=by
 intro args H v H' h
 unfold mk6 at h
 split at h
 ·exact ok0 Try.func75 (Eq.trans (by kernel_rfl) h) (by kernel_rfl) (by kernel_rfl)
 ·cases h
def es.twX (F:Nat) (aa:Int) (H:Hp):OA:=(bif (decide (aa<0)) then (some ((.int .i64 (wrap .i64 (0 - aa))),H)) else (some ((.int .i64 aa),H)))
def es.tw:=es.twX F
theorem es.k:Ok Try.prog 97 (mk5 (es.tw F)):=by
 intro args H v H' h
 unfold mk5 at h
 split at h
 ·exact ok0 Try.func97 (Eq.trans (by kernel_rfl) h) (by kernel_rfl) (by kernel_rfl)
 ·cases h
def fE.twX (F:Nat) (df:agY) (aa:Int) (aQ:Int) (eM:Int) (H:Hp):OA:=(bif (aa != 0) then ((df aQ H).bind λr4=>((r4.1).asI .i64).bind λn5=>(df aa r4.2).bind λr6=>((r6.1).asI .i64).bind λn7=>(if n7=0 then none else ((bif (decide (n5>(wrap .i64 (Int.tdiv eM n7)))) then (some ((.tup [(.int .i64 0),(.bool false)]),r6.2)) else (some ((.tup [(.int .i64 (wrap .i64 (aa * aQ))),(.bool true)]),r6.2)))))) else (some ((.tup [(.int .i64 (wrap .i64 (aa * aQ))),(.bool true)]),H)))
def fE.tw:=fE.twX F (es.tw F)
def fE.cs (F:Nat) (df:agY):Cs:=[(97,mk5 df)]
theorem fE.eqX (df:agY) (aa:Int) (aQ:Int) (eM:Int) (H:Hp):EX (cn (fE.cs F df)) cE lh0 F Try.f172 [(.int .i64 aa),(.int .i64 aQ),(.int .i64 eM)] H=fE.twX F df aa aQ eM H:=by kernel_rfl
theorem fE.k:Ok Try.prog 172 (mk7 (fE.tw F)):=by
 intro args H v H' h
 unfold mk7 at h
 split at h
 ·exact okT (TB:=cE) Try.func172 (bH (es.k F) dP) ae.no ((fE.eqX F (es.tw F) _ _ _ H).trans h) (by kernel_rfl)
 ·cases h
def dz.l29 (F:Nat) (ah:agU) (iJ:ag6) (df:agY) :Nat->Int->Int->Nat->Nat->Nat->Nat->Int->Int->Int->Int->Hp->OA
 | 0,_,_,_,_,_,_,_,_,_,_,_=>none
 | hJ+1,nU,gP,iv,uF,o_,uG,nV,nW,nX,lG,H30=>(bif (decide (lG<nX)) then ((Hp.ldI H30 .i64 iv uF).bind λn51=>(Hp.ldI H30 .i64 iv (uF+1)).bind λn52=>(Hp.ldSl H30 iv (uF+2)).bind λs53=>(ah n51 n52 s53 nU lG H30).bind λr54=>((r54.1).asP).bind λp55=>(if bk H30 r54.2 then ((Hp.ldI r54.2 .i64 p55.1 p55.2).bind λn56=>(Hp.ldI r54.2 .i64 o_ uG).bind λn57=>(Hp.ldI r54.2 .i64 o_ (uG+1)).bind λn58=>(Hp.ldSl r54.2 o_ (uG+2)).bind λs59=>(ah n57 n58 s59 lG gP r54.2).bind λr60=>((r60.1).asP).bind λp61=>(if bk r54.2 r60.2 then ((Hp.ldI r60.2 .i64 p61.1 p61.2).bind λn62=>(iJ n56 n62 1000000000000 r60.2).bind λr63=>((r63.1).asTup 2).bind λl64=>(l64[0]?).bind λv65=>((v65).asI .i64).bind λn66=>(l64[1]?).bind λv67=>((v67).asB).bind λb68=>(df n66 r63.2).bind λr69=>((r69.1).asI .i64).bind λn70=>(bif (!b68) then (some ((.tup [(.int .i64 0),(.bool false)]),r69.2)) else ((bif (decide ((wrap .i64 (nW+n70))>1000000000000)) then (some ((.tup [(.int .i64 0),(.bool false)]),r69.2)) else (dz.l29 F ah iJ df hJ nU gP iv uF o_ uG (wrap .i64 (nV+n66)) (wrap .i64 (nW+n70)) nX (wrap .i64 (lG+1)) r69.2))))) else none)) else none)) else (some ((.tup [(.int .i64 nV),(.bool true)]),H30)))
termination_by structural n=>n
def dz.twX (ah:agU) (iJ:ag6) (df:agY) (aa:Int) (ac:Int) (bM:Sl) (aA:Int) (cu:Int) (iO:Sl) (mC:Int) (mD:Int) (H:Hp):OA:=(Hp.new H [(.int .i64 aa),(.int .i64 ac),(.sl bM)]).bind λH9=>(Hp.new H9 [(.int .i64 aA),(.int .i64 cu),(.sl iO)]).bind λH10=>(Hp.ldI H10 .i64 H.length 1).bind λn11=>dz.l29 F ah iJ df F mC mD H.length 0 H9.length 0 0 0 n11 0 H10
def dz.tw:=dz.twX F (bR.tw F) (fE.tw F) (es.tw F)
def dz.lh29 (ah:agU) (iJ:ag6) (df:agY) (ks:ag0) (n:Nat) (tm:Tm) (H:Hp):OA:=match ks,tm 2,tm 3,tm 4,tm 5,tm 10,tm 11,tm 16,tm 17 with
 | [],(.int .i64 nU),(.int .i64 gP),(.ptr iv uF),(.ptr o_ uG),(.int .i64 nV),(.int .i64 nW),(.int .i64 nX),(.int .i64 lG)=>dz.l29 F ah iJ df n nU gP iv uF o_ uG nV nW nX lG H
 | _,_,_,_,_,_,_,_,_=>none
def dz.lh (ah:agU) (iJ:ag6) (df:agY) (p:Nat) (ks:ag0) (n:Nat) (tm:Tm) (H:Hp):OA:=bif p.beq 29 then dz.lh29 F ah iJ df ks n tm H else (none)
def dz.pn:Nat->List Nat:=eL [(5,[12])]
def dz.tb:Nat->List (List Nat):=eL [(5,[[],[],[],[0,1,2],[0,1,2,3],[0,1,2,3,4],[],[],[],[0,1,2,3,6,7,8],[0,1,2,3,6,7,8,9],[0,1,2,3,6,7,8,9,10],[0,1,2,3,4,5,6,7,8,9,10,11],[0,1,2,3,4,5,6,7,8,9,10,11,12],[0,1,2,3,4,5,6,7,8,9,10,11,12,13],[0,1,2,3,4,5,6,7,8,9,10,11,12,13],[0,1,2,3,4,5,6,7,8,9,10,11,12,13,14],[0,1,2,3,4,5,6,7,8,9,10,11,12,13,14,15,16]])]
def mk12 (g:ahd) (args:ag3) (H:Hp):OA:=match args with
 | [(.agg [(.int .i64 aa),(.int .i64 ac),(.sl bM)]),(.agg [(.int .i64 aA),(.int .i64 cu),(.sl iO)]),(.int .i64 mC),(.int .i64 mD)]=>g aa ac bM aA cu iO mC mD H
 | _=>none
theorem mk12_E (g:ahd) (aa:Int) (ac:Int) (bM:Sl) (aA:Int) (cu:Int) (iO:Sl) (mC:Int) (mD:Int) (H:Hp):mk12 g [(.agg [(.int .i64 aa),(.int .i64 ac),(.sl bM)]),(.agg [(.int .i64 aA),(.int .i64 cu),(.sl iO)]),(.int .i64 mC),(.int .i64 mD)] H=g aa ac bM aA cu iO mC mD H:=rfl
def dz.cs (F:Nat) (ah:agU) (iJ:ag6) (df:agY):Cs:=[(75,mk6 ah),(172,mk7 iJ),(97,mk5 df)]
theorem dz.loops (ah:agU) (iJ:ag6) (df:agY):LO (cn (dz.cs F ah iJ df)) dz.pn (dz.lh F ah iJ df) F Try.f121:=
 (ae.rt (ae.rt (ae.lt (ae.rt (ae.block (ae.la (λn tm H r h=>by change dz.lh29 F ah iJ df [] n tm H=_ at h;unfold dz.lh29 at h;split at h;have e:eE tm [(2,_),(3,_),(4,_),(5,_),(10,_),(11,_),(16,_),(17,_)]:=⟨‹_›,‹_›,‹_›,‹_›,‹_›,‹_›,‹_›,‹_›,trivial⟩;obtain _ | k29:=n;cases h;exact ⟨_,rfl,by rw [<- eG e];exact Eq.trans (by kernel_rfl) h⟩;cases h) λk29=>ae.no))))))
theorem dz.eqX (ah:agU) (iJ:ag6) (df:agY) (aa:Int) (ac:Int) (bM:Sl) (aA:Int) (cu:Int) (iO:Sl) (mC:Int) (mD:Int) (H:Hp):EX (cn (dz.cs F ah iJ df)) dz.pn (dz.lh F ah iJ df) F Try.f121 [(.agg [(.int .i64 aa),(.int .i64 ac),(.sl bM)]),(.agg [(.int .i64 aA),(.int .i64 cu),(.sl iO)]),(.int .i64 mC),(.int .i64 mD)] H=dz.twX F ah iJ df aa ac bM aA cu iO mC mD H:=by kernel_rfl
theorem dz.k:Ok Try.prog 121 (mk12 (dz.tw F)):=by
 intro args H v H' h
 unfold mk12 at h
 split at h
 ·exact okT (TB:=dz.tb) Try.func121 (bH (bR.k F) (bH (fE.k F) (bH (es.k F) dP))) (dz.loops F (bR.tw F) (fE.tw F) (es.tw F)) ((dz.eqX F (bR.tw F) (fE.tw F) (es.tw F) _ _ _ _ _ _ _ _ H).trans h) (by kernel_rfl)
 ·cases h
def bI.j3 (F:Nat) (fI:ag4) (eJ:ag2) (gM:ahd) (ah:agU) (C61_:ahq) (zT:Nat) (Xd:Nat) (zU:Nat) (Xe:Nat) (zV:Nat) (Xf:Nat) (zW:Nat) (Xg:Nat) (uH:Int) (uI:Int) (H305:Hp):OA:=C61_ zT Xd zU Xe zV Xf zW Xg uH (wrap .i64 (uI+1)) H305
def bI.j4 (fI:ag4) (eJ:ag2) (gM:ahd) (ah:agU) (C61_:ahq) (zX:Nat) (Xh:Nat) (zY:Nat) (Xi:Nat) (zZ:Nat) (Xj:Nat) (z_:Nat) (Xk:Nat) (uJ:Int) (uK:Int) (H280:Hp):OA:=bI.j3 F fI eJ gM ah C61_ zX Xh zY Xi zZ Xj z_ Xk uJ uK H280
def bI.l3931 (F:Nat) (fI:ag4) (eJ:ag2) (gM:ahd) (ah:agU) (C61_:ahq):Nat->Nat->Nat->Nat->Nat->Nat->Nat->Nat->Nat->Int->Int->Int->Int->Int->Hp->OA
 | 0,_,_,_,_,_,_,_,_,_,_,_,_,_,_=>none
 | Xl+1,nY,rG,nZ,rH,mE,pc,n_,rI,oa,ob,mV,oc,lH,H231=>(bif (decide (lH<oc)) then ((Hp.ldI H231 .i64 nY rG).bind λn306=>(Hp.ldI H231 .i64 nY (rG+1)).bind λn307=>(Hp.ldSl H231 nY (rG+2)).bind λs308=>(Hp.ldI H231 .i64 nZ rH).bind λn309=>(Hp.ldI H231 .i64 nZ (rH+1)).bind λn310=>(Hp.ldSl H231 nZ (rH+2)).bind λs311=>(gM n306 n307 s308 n309 n310 s311 mV lH H231).bind λr312=>((r312.1).asTup 2).bind λl313=>(l313[0]?).bind λv314=>((v314).asI .i64).bind λn315=>(l313[1]?).bind λv316=>((v316).asB).bind λb317=>(bif (!b317) then ((Hp.st r312.2 mE pc (.int .i64 0)).bind λH318=>(Hp.st H318 mE (pc+1) (.int .i64 0)).bind λH319=>(Hp.st H319 mE (pc+1+1) (.sl (⟨none,0,.ex 0⟩:Sl))).bind λH320=>(Hp.ldI H320 .i64 mE pc).bind λn321=>(Hp.ldI H320 .i64 mE (pc+1)).bind λn322=>(Hp.ldSl H320 mE (pc+2)).bind λs323=>some ((.tup [(.agg [(.int .i64 n321),(.int .i64 n322),(.sl s323)]),(.int .i64 3)]),H320)) else ((Hp.ldI r312.2 .i64 n_ rI).bind λn324=>(Hp.ldI r312.2 .i64 n_ (rI+1)).bind λn325=>(Hp.ldSl r312.2 n_ (rI+2)).bind λs326=>(ah n324 n325 s326 mV lH r312.2).bind λr327=>((r327.1).asP).bind λp328=>(Hp.st r327.2 p328.1 p328.2 (.int .i64 n315)).bind λH329=>bI.l3931 F fI eJ gM ah C61_ Xl nY rG nZ rH mE pc n_ rI oa ob mV oc (wrap .i64 (lH+1)) H329))) else (bI.j4 F fI eJ gM ah C61_ nY rG nZ rH mE pc n_ rI oa ob H231))
termination_by structural n=>n
def bI.l61 (F:Nat) (fI:ag4) (eJ:ag2) (gM:ahd) (ah:agU) :Nat->Nat->Nat->Nat->Nat->Nat->Nat->Nat->Nat->Int->Int->Hp->OA
 | 0,_,_,_,_,_,_,_,_,_,_,_=>none
 | nz+1,rJ,mU,qt,mw,mW,kf,kS,uL,od,mX,H74=>(bif (decide (mX<od)) then ((Hp.ldI H74 .i64 qt (mw+1)).bind λn207=>bI.l3931 F fI eJ gM ah (bI.l61 F fI eJ gM ah nz) F rJ mU qt mw mW kf kS uL od mX mX n207 0 H74) else ((Hp.ldI H74 .i64 kS uL).bind λn330=>(Hp.ldI H74 .i64 kS (uL+1)).bind λn331=>(Hp.ldSl H74 kS (uL+2)).bind λs332=>(Hp.st H74 mW kf (.int .i64 n330)).bind λH333=>(Hp.st H333 mW (kf+1) (.int .i64 n331)).bind λH334=>(Hp.st H334 mW (kf+1+1) (.sl s332)).bind λH335=>(Hp.ldI H335 .i64 mW kf).bind λn336=>(Hp.ldI H335 .i64 mW (kf+1)).bind λn337=>(Hp.ldSl H335 mW (kf+2)).bind λs338=>some ((.tup [(.agg [(.int .i64 n336),(.int .i64 n337),(.sl s338)]),(.int .i64 0)]),H335)))
termination_by structural n=>n
def bI.twX (fI:ag4) (eJ:ag2) (gM:ahd) (ah:agU) (aa:Int) (ac:Int) (bM:Sl) (aA:Int) (cu:Int) (iO:Sl) (H:Hp):OA:=(Hp.new H [(.int .i64 aa),(.int .i64 ac),(.sl bM)]).bind λH7=>(Hp.new H7 [(.int .i64 aA),(.int .i64 cu),(.sl iO)]).bind λH8=>(Hp.new H8 [.int .i64 0,.int .i64 0,.sl ⟨none,0,.ex 0⟩]).bind λH9=>(Hp.ldI H9 .i64 H.length 0).bind λn10=>(Hp.ldI H9 .i64 H.length (0+1)).bind λn11=>(Hp.ldSl H9 H.length (0+2)).bind λs12=>(fI n10 n11 s12 H9).bind λr13=>((r13.1).asB).bind λb14=>(bif (!b14) then ((Hp.st r13.2 H8.length 0 (.int .i64 0)).bind λH15=>(Hp.st H15 H8.length (0+1) (.int .i64 0)).bind λH16=>(Hp.st H16 H8.length (0+1+1) (.sl (⟨none,0,.ex 0⟩:Sl))).bind λH17=>(Hp.ldI H17 .i64 H8.length 0).bind λn18=>(Hp.ldI H17 .i64 H8.length (0+1)).bind λn19=>(Hp.ldSl H17 H8.length (0+2)).bind λs20=>some ((.tup [(.agg [(.int .i64 n18),(.int .i64 n19),(.sl s20)]),(.int .i64 1)]),H17)) else ((Hp.ldI r13.2 .i64 H7.length 0).bind λn21=>(Hp.ldI r13.2 .i64 H7.length (0+1)).bind λn22=>(Hp.ldSl r13.2 H7.length (0+2)).bind λs23=>(fI n21 n22 s23 r13.2).bind λr24=>((r24.1).asB).bind λb25=>(bif (!b25) then ((Hp.st r24.2 H8.length 0 (.int .i64 0)).bind λH26=>(Hp.st H26 H8.length (0+1) (.int .i64 0)).bind λH27=>(Hp.st H27 H8.length (0+1+1) (.sl (⟨none,0,.ex 0⟩:Sl))).bind λH28=>(Hp.ldI H28 .i64 H8.length 0).bind λn29=>(Hp.ldI H28 .i64 H8.length (0+1)).bind λn30=>(Hp.ldSl H28 H8.length (0+2)).bind λs31=>some ((.tup [(.agg [(.int .i64 n29),(.int .i64 n30),(.sl s31)]),(.int .i64 1)]),H28)) else ((Hp.ldI r24.2 .i64 H.length 1).bind λn32=>(Hp.ldI r24.2 .i64 H7.length 0).bind λn33=>(bif (n32 != n33) then ((Hp.st r24.2 H8.length 0 (.int .i64 0)).bind λH34=>(Hp.st H34 H8.length (0+1) (.int .i64 0)).bind λH35=>(Hp.st H35 H8.length (0+1+1) (.sl (⟨none,0,.ex 0⟩:Sl))).bind λH36=>(Hp.ldI H36 .i64 H8.length 0).bind λn37=>(Hp.ldI H36 .i64 H8.length (0+1)).bind λn38=>(Hp.ldSl H36 H8.length (0+2)).bind λs39=>some ((.tup [(.agg [(.int .i64 n37),(.int .i64 n38),(.sl s39)]),(.int .i64 2)]),H36)) else ((Hp.ldI r24.2 .i64 H.length 0).bind λn40=>(Hp.ldI r24.2 .i64 H7.length 1).bind λn41=>(eJ n40 n41 r24.2).bind λr42=>((r42.1).asAgg 3).bind λl43=>(l43[0]?).bind λv44=>((v44).asI .i64).bind λn45=>(l43[1]?).bind λv46=>((v46).asI .i64).bind λn47=>(l43[2]?).bind λv48=>((v48).asSl).bind λs49=>(Hp.new r42.2 [.int .i64 0,.int .i64 0,.sl ⟨none,0,.ex 0⟩]).bind λH50=>(Hp.st H50 r42.2.length 0 (.int .i64 n45)).bind λH51=>(Hp.st H51 r42.2.length (0+1) (.int .i64 n47)).bind λH52=>(Hp.st H52 r42.2.length (0+1+1) (.sl s49)).bind λH53=>(Hp.ldI H53 .i64 H.length 0).bind λn54=>bI.l61 F fI eJ gM ah F H.length 0 H7.length 0 H8.length 0 r42.2.length 0 n54 0 H53))))))
def bI.tw:=bI.twX F (eF.tw F) (fH.tw F) (dz.tw F) (bR.tw F)
def bI.lh61 (fI:ag4) (eJ:ag2) (gM:ahd) (ah:agU) (ks:ag0) (n:Nat) (tm:Tm) (H:Hp):OA:=match ks,tm 2,tm 3,tm 4,tm 6,tm 34,tm 35 with
 | [],(.ptr rJ mU),(.ptr qt mw),(.ptr mW kf),(.ptr kS uL),(.int .i64 od),(.int .i64 mX)=>bI.l61 F fI eJ gM ah n rJ mU qt mw mW kf kS uL od mX H
 | _,_,_,_,_,_,_=>none
def bI.lh3931 (fI:ag4) (eJ:ag2) (gM:ahd) (ah:agU) (ks:ag0) (n:Nat) (tm:Tm) (H:Hp):OA:=match ks,tm 2,tm 3,tm 4,tm 6,tm 7,tm 34,tm 35,tm 39,tm 40 with
 | [nz],(.ptr nY rG),(.ptr nZ rH),(.ptr mE pc),(.ptr n_ rI),(.int .i64 mV),(.int .i64 oa),(.int .i64 ob),(.int .i64 oc),(.int .i64 lH)=>bI.l3931 F fI eJ gM ah (bI.l61 F fI eJ gM ah nz) n nY rG nZ rH mE pc n_ rI oa ob mV oc lH H
 | _,_,_,_,_,_,_,_,_,_=>none
def bI.lh (fI:ag4) (eJ:ag2) (gM:ahd) (ah:agU) (p:Nat) (ks:ag0) (n:Nat) (tm:Tm) (H:Hp):OA:=bif p.beq 3931 then bI.lh3931 F fI eJ gM ah ks n tm H else (bif p.beq 61 then bI.lh61 F fI eJ gM ah ks n tm H else (none))
def mk13 (g:ahl) (args:ag3) (H:Hp):OA:=match args with
 | [(.agg [(.int .i64 aa),(.int .i64 ac),(.sl bM)]),(.agg [(.int .i64 aA),(.int .i64 cu),(.sl iO)])]=>g aa ac bM aA cu iO H
 | _=>none
theorem mk13_E (g:ahl) (aa:Int) (ac:Int) (bM:Sl) (aA:Int) (cu:Int) (iO:Sl) (H:Hp):mk13 g [(.agg [(.int .i64 aa),(.int .i64 ac),(.sl bM)]),(.agg [(.int .i64 aA),(.int .i64 cu),(.sl iO)])] H=g aa ac bM aA cu iO H:=rfl
def bI.cs (F:Nat) (fI:ag4) (eJ:ag2) (gM:ahd) (ah:agU):Cs:=[(76,mk10 fI),(74,mk2 eJ),(121,mk12 gM),(75,mk6 ah)]
theorem bI.loops (fI:ag4) (eJ:ag2) (gM:ahd) (ah:agU):LO (cn (bI.cs F fI eJ gM ah)) cE (bI.lh F fI eJ gM ah) F Try.f64:=
 (ae.rt (ae.rt (ae.rt (ae.lt (ae.rt (ae.block (ae.la (λn tm H r h=>by change bI.lh61 F fI eJ gM ah [] n tm H=_ at h;unfold bI.lh61 at h;split at h;have e:eE tm [(2,_),(3,_),(4,_),(6,_),(34,_),(35,_)]:=⟨‹_›,‹_›,‹_›,‹_›,‹_›,‹_›,trivial⟩;obtain _ | k61:=n;cases h;exact ⟨_,rfl,by rw [<- eG e];exact Eq.trans (by kernel_rfl) h⟩;cases h) λk61=>(ae.rt (ae.rt (ae.lt (ae.block (ae.rt (ae.rt (ae.block (ae.la (λn tm H r h=>by change bI.lh3931 F fI eJ gM ah [k61] n tm H=_ at h;unfold bI.lh3931 at h;split at h;have e:eE tm [(2,_),(3,_),(4,_),(6,_),(7,_),(34,_),(35,_),(39,_),(40,_)]:=⟨‹_›,‹_›,‹_›,‹_›,‹_›,‹_›,‹_›,‹_›,‹_›,trivial⟩;cases (show [k61]=_ from ‹_›);obtain _ | k3931:=n;cases h;exact ⟨_,rfl,by rw [<- eG e];exact Eq.trans (by kernel_rfl) h⟩;cases h) λk3931=>ae.no)))))))))))))))
theorem bI.eqX (fI:ag4) (eJ:ag2) (gM:ahd) (ah:agU) (aa:Int) (ac:Int) (bM:Sl) (aA:Int) (cu:Int) (iO:Sl) (H:Hp):EX (cn (bI.cs F fI eJ gM ah)) cE (bI.lh F fI eJ gM ah) F Try.f64 [(.agg [(.int .i64 aa),(.int .i64 ac),(.sl bM)]),(.agg [(.int .i64 aA),(.int .i64 cu),(.sl iO)])] H=bI.twX F fI eJ gM ah aa ac bM aA cu iO H:=by kernel_rfl
theorem bI.k:Ok Try.prog 64 (mk13 (bI.tw F)):=by
 intro args H v H' h
 unfold mk13 at h
 split at h
 ·exact okT (TB:=cE) Try.func64 (bH (eF.k F) (bH (fH.k F) (bH (dz.k F) (bH (bR.k F) dP)))) (bI.loops F (eF.tw F) (fH.tw F) (dz.tw F) (bR.tw F)) ((bI.eqX F (eF.tw F) (fH.tw F) (dz.tw F) (bR.tw F) _ _ _ _ _ _ H).trans h) (by kernel_rfl)
 ·cases h
def jF.twX (F:Nat) (aa:Int) (H:Hp):OA:=some ((.bool (aa != 0)),H)
def jF.tw:=jF.twX F
theorem jF.k:Ok Try.prog 66 (mk5 (jF.tw F)):=by
 intro args H v H' h
 unfold mk5 at h
 split at h
 ·exact ok0 Try.func66 (Eq.trans (by kernel_rfl) h) (by kernel_rfl) (by kernel_rfl)
 ·cases h
def dU.l13 (F:Nat) (kD:agY) :Nat->Sl->Int->Int->Hp->OA
 | 0,_,_,_,_=>none
 | jB+1,ki,eN,dG,H6=>(bif (decide (dG<eN)) then ((Sl.idx ki dG 1).bind λp11=>(Hp.ldI H6 .i64 p11.1 p11.2).bind λn12=>(kD n12 H6).bind λr13=>((r13.1).asB).bind λb14=>(bif b14 then (some ((.int .i64 dG),r13.2)) else (dU.l13 F kD jB ki eN (wrap .i64 (dG+1)) r13.2))) else (some ((.int .i64 (-1)),H6)))
def dU.twX (kD:agY) (aa:Sl) (H:Hp):OA:=dU.l13 F kD F aa (aa.n:Int) 0 H
def dU.tw:=dU.twX F (jF.tw F)
def dU.lh13 (kD:agY) (ks:ag0) (n:Nat) (tm:Tm) (H:Hp):OA:=match ks,tm 0,tm 1,tm 7,tm 8 with
 | [],(.sl ki),(.fn 66 []),(.int .i64 eN),(.int .i64 dG)=>dU.l13 F kD n ki eN dG H
 | _,_,_,_,_=>none
def dU.lh (kD:agY) (p:Nat) (ks:ag0) (n:Nat) (tm:Tm) (H:Hp):OA:=bif p.beq 13 then dU.lh13 F kD ks n tm H else (none)
def mk14 (g:agZ) (args:ag3) (H:Hp):OA:=match args with
 | [(.sl aa),(.fn 66 [])]=>g aa H
 | _=>none
theorem mk14_E (g:agZ) (aa:Sl) (H:Hp):mk14 g [(.sl aa),(.fn 66 [])] H=g aa H:=rfl
def dU.cs (F:Nat) (kD:agY):Cs:=[(66,mk5 kD)]
theorem dU.loops (kD:agY):LO (cn (dU.cs F kD)) cE (dU.lh F kD) F Try.f122:=
 (ae.rt (ae.lt (ae.rt (ae.block (ae.la (λn tm H r h=>by change dU.lh13 F kD [] n tm H=_ at h;unfold dU.lh13 at h;split at h;have e:eE tm [(0,_),(1,_),(7,_),(8,_)]:=⟨‹_›,‹_›,‹_›,‹_›,trivial⟩;obtain _ | k13:=n;cases h;exact ⟨_,rfl,by rw [<- eG e];exact Eq.trans (by kernel_rfl) h⟩;cases h) λk13=>ae.no)))))
theorem dU.eqX (kD:agY) (aa:Sl) (H:Hp):EX (cn (dU.cs F kD)) cE (dU.lh F kD) F Try.f122 [(.sl aa),(.fn 66 [])] H=dU.twX F kD aa H:=by kernel_rfl
theorem dU.k:Ok Try.prog 122 (mk14 (dU.tw F)):=by
 intro args H v H' h
 unfold mk14 at h
 split at h
 ·exact okT (TB:=cE) Try.func122 (bH (jF.k F) dP) (dU.loops F (jF.tw F)) ((dU.eqX F (jF.tw F) _ H).trans h) (by kernel_rfl)
 ·cases h
def iK.twX (F:Nat) (uM:agZ) (aa:Sl) (H:Hp):OA:=(uM aa H).bind λr2=>((r2.1).asI .i64).bind λn3=>some ((.bool (decide (n3>=0))),r2.2)
def iK.tw:=iK.twX F (dU.tw F)
def iK.cs (F:Nat) (uM:agZ):Cs:=[(122,mk14 uM)]
theorem iK.eqX (uM:agZ) (aa:Sl) (H:Hp):EX (cn (iK.cs F uM)) cE lh0 F Try.f65 [(.sl aa),(.fn 66 [])] H=iK.twX F uM aa H:=by kernel_rfl
theorem iK.k:Ok Try.prog 65 (mk14 (iK.tw F)):=by
 intro args H v H' h
 unfold mk14 at h
 split at h
 ·exact okT (TB:=cE) Try.func65 (bH (dU.k F) dP) ae.no ((iK.eqX F (dU.tw F) _ H).trans h) (by kernel_rfl)
 ·cases h
def dC.l29 (F:Nat) (eJ:ag2) (ah:agU) :Nat->Nat->Nat->Nat->Nat->Int->Int->Hp->OA
 | 0,_,_,_,_,_,_,_=>none
 | hJ+1,ed,kb,iH,gP,oe,lJ,H22=>(bif (decide (lJ<oe)) then ((Hp.ldI H22 .i64 iH gP).bind λn38=>(Hp.ldI H22 .i64 iH (gP+1)).bind λn39=>(Hp.ldSl H22 iH (gP+2)).bind λs40=>(ah n38 n39 s40 lJ lJ H22).bind λr41=>((r41.1).asP).bind λp42=>(Hp.st r41.2 p42.1 p42.2 (.int .i64 1)).bind λH43=>dC.l29 F eJ ah hJ ed kb iH gP oe (wrap .i64 (lJ+1)) H43) else ((Hp.ldI H22 .i64 iH gP).bind λn44=>(Hp.ldI H22 .i64 iH (gP+1)).bind λn45=>(Hp.ldSl H22 iH (gP+2)).bind λs46=>(Hp.st H22 ed kb (.int .i64 n44)).bind λH47=>(Hp.st H47 ed (kb+1) (.int .i64 n45)).bind λH48=>(Hp.st H48 ed (kb+1+1) (.sl s46)).bind λH49=>(Hp.ldI H49 .i64 ed kb).bind λn50=>(Hp.ldI H49 .i64 ed (kb+1)).bind λn51=>(Hp.ldSl H49 ed (kb+2)).bind λs52=>some ((.agg [(.int .i64 n50),(.int .i64 n51),(.sl s52)]),H49)))
termination_by structural n=>n
def dC.twX (eJ:ag2) (ah:agU) (aa:Int) (H:Hp):OA:=(Hp.new H [.int .i64 0,.int .i64 0,.sl ⟨none,0,.ex 0⟩]).bind λH2=>(eJ aa aa H2).bind λr3=>((r3.1).asAgg 3).bind λl4=>(l4[0]?).bind λv5=>((v5).asI .i64).bind λn6=>(l4[1]?).bind λv7=>((v7).asI .i64).bind λn8=>(l4[2]?).bind λv9=>((v9).asSl).bind λs10=>(Hp.new r3.2 [.int .i64 0,.int .i64 0,.sl ⟨none,0,.ex 0⟩]).bind λH11=>(Hp.st H11 r3.2.length 0 (.int .i64 n6)).bind λH12=>(Hp.st H12 r3.2.length (0+1) (.int .i64 n8)).bind λH13=>(Hp.st H13 r3.2.length (0+1+1) (.sl s10)).bind λH14=>dC.l29 F eJ ah F H.length 0 r3.2.length 0 aa 0 H14
def dC.tw:=dC.twX F (fH.tw F) (bR.tw F)
def dC.lh29 (eJ:ag2) (ah:agU) (ks:ag0) (n:Nat) (tm:Tm) (H:Hp):OA:=match ks,tm 2,tm 3,tm 8,tm 9 with
 | [],(.ptr ed kb),(.ptr iH gP),(.int .i64 oe),(.int .i64 lJ)=>dC.l29 F eJ ah n ed kb iH gP oe lJ H
 | _,_,_,_,_=>none
def dC.lh (eJ:ag2) (ah:agU) (p:Nat) (ks:ag0) (n:Nat) (tm:Tm) (H:Hp):OA:=bif p.beq 29 then dC.lh29 F eJ ah ks n tm H else (none)
def dC.cs (F:Nat) (eJ:ag2) (ah:agU):Cs:=[(74,mk2 eJ),(75,mk6 ah)]
theorem dC.loops (eJ:ag2) (ah:agU):LO (cn (dC.cs F eJ ah)) cE (dC.lh F eJ ah) F Try.f134:=
 (ae.rt (ae.rt (ae.lt (ae.rt (ae.block (ae.la (λn tm H r h=>by change dC.lh29 F eJ ah [] n tm H=_ at h;unfold dC.lh29 at h;split at h;have e:eE tm [(2,_),(3,_),(8,_),(9,_)]:=⟨‹_›,‹_›,‹_›,‹_›,trivial⟩;obtain _ | k29:=n;cases h;exact ⟨_,rfl,by rw [<- eG e];exact Eq.trans (by kernel_rfl) h⟩;cases h) λk29=>ae.no))))))
theorem dC.eqX (eJ:ag2) (ah:agU) (aa:Int) (H:Hp):EX (cn (dC.cs F eJ ah)) cE (dC.lh F eJ ah) F Try.f134 [(.int .i64 aa)] H=dC.twX F eJ ah aa H:=by kernel_rfl
theorem dC.k:Ok Try.prog 134 (mk5 (dC.tw F)):=by
 intro args H v H' h
 unfold mk5 at h
 split at h
 ·exact okT (TB:=cE) Try.func134 (bH (fH.k F) (bH (bR.k F) dP)) (dC.loops F (fH.tw F) (bR.tw F)) ((dC.eqX F (fH.tw F) (bR.tw F) _ H).trans h) (by kernel_rfl)
 ·cases h
def jQ.twX (F:Nat) (aa:Sl) (H:Hp):OA:=(bif (aa.a.isNone) then (some ((.sl (⟨none,0,.ex 0⟩:Sl)),H)) else ((Hp.new H []).bind λH2=>(Sl.row H2 aa 1).bind λxs4=>(Hp.app H2 1 8 (⟨some (H.length,0),0,.ex 0⟩:Sl) aa.n xs4).bind λa3=>some ((.sl a3.1),a3.2)))
def jQ.tw:=jQ.twX F
theorem jQ.k:Ok Try.prog 129 (mk0 (jQ.tw F)):=by
 intro args H v H' h
 unfold mk0 at h
 split at h
 ·exact ok0 Try.func129 (Eq.trans (by kernel_rfl) h) (by kernel_rfl) (by kernel_rfl)
 ·cases h
def iy.twX (F:Nat) (uN:agZ) (aa:Int) (ac:Int) (bM:Sl) (H:Hp):OA:=(Hp.new H [(.int .i64 aa),(.int .i64 ac),(.sl bM)]).bind λH4=>(Hp.new H4 [.int .i64 0,.int .i64 0,.sl ⟨none,0,.ex 0⟩]).bind λH5=>(Hp.ldSl H5 H.length 2).bind λs6=>(uN s6 H5).bind λr7=>((r7.1).asSl).bind λs8=>(Hp.st r7.2 H.length 2 (.sl s8)).bind λH9=>(Hp.ldI H9 .i64 H.length 0).bind λn10=>(Hp.ldI H9 .i64 H.length (0+1)).bind λn11=>(Hp.ldSl H9 H.length (0+2)).bind λs12=>(Hp.st H9 H4.length 0 (.int .i64 n10)).bind λH13=>(Hp.st H13 H4.length (0+1) (.int .i64 n11)).bind λH14=>(Hp.st H14 H4.length (0+1+1) (.sl s12)).bind λH15=>(Hp.ldI H15 .i64 H4.length 0).bind λn16=>(Hp.ldI H15 .i64 H4.length (0+1)).bind λn17=>(Hp.ldSl H15 H4.length (0+2)).bind λs18=>some ((.agg [(.int .i64 n16),(.int .i64 n17),(.sl s18)]),H15)
def iy.tw:=iy.twX F (jQ.tw F)
def iy.cs (F:Nat) (uN:agZ):Cs:=[(129,mk0 uN)]
theorem iy.eqX (uN:agZ) (aa:Int) (ac:Int) (bM:Sl) (H:Hp):EX (cn (iy.cs F uN)) cE lh0 F Try.f79 [(.agg [(.int .i64 aa),(.int .i64 ac),(.sl bM)])] H=iy.twX F uN aa ac bM H:=by kernel_rfl
theorem iy.k:Ok Try.prog 79 (mk10 (iy.tw F)):=by
 intro args H v H' h
 unfold mk10 at h
 split at h
 ·exact okT (TB:=cE) Try.func79 (bH (jQ.k F) dP) ae.no ((iy.eqX F (jQ.tw F) _ _ _ H).trans h) (by kernel_rfl)
 ·cases h
def kj.twX (F:Nat) (pG:agY) (uO:ag4) (aa:Int) (ac:Int) (bM:Sl) (H:Hp):OA:=(Hp.new H [(.int .i64 aa),(.int .i64 ac),(.sl bM)]).bind λH4=>(Hp.ldI H4 .i64 H.length 0).bind λn5=>(pG n5 H4).bind λr6=>((r6.1).asAgg 3).bind λl7=>(l7[0]?).bind λv8=>((v8).asI .i64).bind λn9=>(l7[1]?).bind λv10=>((v10).asI .i64).bind λn11=>(l7[2]?).bind λv12=>((v12).asSl).bind λs13=>(if bk H4 r6.2 then ((Hp.ldI r6.2 .i64 H.length 0).bind λn14=>(pG n14 r6.2).bind λr15=>((r15.1).asAgg 3).bind λl16=>(l16[0]?).bind λv17=>((v17).asI .i64).bind λn18=>(l16[1]?).bind λv19=>((v19).asI .i64).bind λn20=>(l16[2]?).bind λv21=>((v21).asSl).bind λs22=>(if bk r6.2 r15.2 then ((Hp.ldI r15.2 .i64 H.length 0).bind λn23=>(Hp.ldI r15.2 .i64 H.length (0+1)).bind λn24=>(Hp.ldSl r15.2 H.length (0+2)).bind λs25=>(uO n23 n24 s25 r15.2).bind λr26=>((r26.1).asAgg 3).bind λl27=>(l27[0]?).bind λv28=>((v28).asI .i64).bind λn29=>(l27[1]?).bind λv30=>((v30).asI .i64).bind λn31=>(l27[2]?).bind λv32=>((v32).asSl).bind λs33=>(if bk r15.2 r26.2 then ((Hp.ldI r26.2 .i64 H.length 1).bind λn34=>(pG n34 r26.2).bind λr35=>((r35.1).asAgg 3).bind λl36=>(l36[0]?).bind λv37=>((v37).asI .i64).bind λn38=>(l36[1]?).bind λv39=>((v39).asI .i64).bind λn40=>(l36[2]?).bind λv41=>((v41).asSl).bind λs42=>(if bk r26.2 r35.2 then ((Hp.ldI r35.2 .i64 H.length 1).bind λn43=>(pG n43 r35.2).bind λr44=>((r44.1).asAgg 3).bind λl45=>(l45[0]?).bind λv46=>((v46).asI .i64).bind λn47=>(l45[1]?).bind λv48=>((v48).asI .i64).bind λn49=>(l45[2]?).bind λv50=>((v50).asSl).bind λs51=>(Hp.new r44.2 [(.int .i64 n9),(.int .i64 n11),(.sl s13),(.int .i64 n18),(.int .i64 n20),(.sl s22),(.int .i64 n29),(.int .i64 n31),(.sl s33),(.int .i64 n38),(.int .i64 n40),(.sl s42),(.int .i64 n47),(.int .i64 n49),(.sl s51),(.bool false)]).bind λH52=>some ((.ptr r44.2.length 0),H52)) else none)) else none)) else none)) else none)
def kj.tw:=kj.twX F (dC.tw F) (iy.tw F)
def kj.pn:Nat->List Nat:=eL [(1,[13])]
def kj.tb:Nat->List (List Nat):=eL [(1,[[],[0],[0,1],[],[3],[0,1,2,3,4],[],[0,1,2,3,4,5,6],[],[8],[0,1,2,3,4,5,6,7,8,9],[],[11],[0,1,2,3,4,5,6,7,8,9,10,11,12],[0,1,2,3,4,5,6,7,8,9,10,11,12,13],[0,1,2,3,4,5,6,7,8,9,10,11,12,13,14],[0,1,2,3,4,5,6,7,8,9,10,11,12,13,14,15],[0,1,2,3,4,5,6,7,8,9,10,11,12,13,14,15,16]])]
def kj.cs (F:Nat) (pG:agY) (uO:ag4):Cs:=[(134,mk5 pG),(79,mk10 uO)]
theorem kj.eqX (pG:agY) (uO:ag4) (aa:Int) (ac:Int) (bM:Sl) (H:Hp):EX (cn (kj.cs F pG uO)) kj.pn lh0 F Try.f132 [(.agg [(.int .i64 aa),(.int .i64 ac),(.sl bM)])] H=kj.twX F pG uO aa ac bM H:=by kernel_rfl
theorem kj.k:Ok Try.prog 132 (mk10 (kj.tw F)):=by
 intro args H v H' h
 unfold mk10 at h
 split at h
 ·exact okT (TB:=kj.tb) Try.func132 (bH (dC.k F) (bH (iy.k F) dP)) ae.no ((kj.eqX F (dC.tw F) (iy.tw F) _ _ _ H).trans h) (by kernel_rfl)
 ·cases h
def bc.j5 (F:Nat) (ah:agU) (df:agY) (uP:Int) (uQ:Int) (uR:Bool) (H134:Hp):OA:=some ((.tup [(.int .i64 uP),(.int .i64 uQ),(.bool uR)]),H134)
def bc.j7 (F:Nat) (ah:agU) (df:agY) (C29_:ahr) (uS:Int) (uT:Int) (uU:Int) (uV:Bool) (Aa:Nat) (Xm:Nat) (uW:Int) (H205:Hp):OA:=C29_ uS uT uU uV Aa Xm (wrap .i64 (uW+1)) H205
def bc.j8 (ah:agU) (df:agY) (C29_:ahr) (uX:Int) (uY:Int) (uZ:Int) (u_:Bool) (Ab:Nat) (Xn:Nat) (va:Int) (H192:Hp):OA:=bc.j7 F ah df C29_ uX uY uZ u_ Ab Xn va H192
def bc.j9 (F:Nat) (ah:agU) (df:agY) (C469_:ahQ) (vb:Int) (vc:Int) (ve:Int) (vg:Bool) (Ac:Nat) (Xo:Nat) (vh:Int) (vi:Int) (H237:Hp):OA:=C469_ vb vc ve vg Ac Xo vh (wrap .i64 (vi+1)) H237
def bc.l469 (F:Nat) (ah:agU) (df:agY) (C29_:ahr):Nat->Int->Int->Int->Bool->Nat->Nat->Int->Int->Hp->OA
 | 0,_,_,_,_,_,_,_,_,_=>none
 | pt+1,kT,lK,lL,lM,kE,mF,i_,ja,H147=>(Hp.ldI H147 .i64 kE (mF+1)).bind λn206=>(bif (decide (ja<n206)) then ((Hp.ldI H147 .i64 kE mF).bind λn207=>(Hp.ldI H147 .i64 kE (mF+1)).bind λn208=>(Hp.ldSl H147 kE (mF+2)).bind λs209=>(ah n207 n208 s209 i_ ja H147).bind λr210=>((r210.1).asP).bind λp211=>(Hp.ldI r210.2 .i64 p211.1 p211.2).bind λn212=>(df n212 r210.2).bind λr213=>((r213.1).asI .i64).bind λn214=>(bif (n214 != 0) then ((bif (!lM) then (bc.l469 F ah df C29_ pt kT i_ ja true kE mF i_ (wrap .i64 (ja+1)) r213.2) else ((Hp.ldI r213.2 .i64 kE mF).bind λn215=>(Hp.ldI r213.2 .i64 kE (mF+1)).bind λn216=>(Hp.ldSl r213.2 kE (mF+2)).bind λs217=>(ah n215 n216 s217 lK lL r213.2).bind λr218=>((r218.1).asP).bind λp219=>(Hp.ldI r218.2 .i64 p219.1 p219.2).bind λn220=>(df n220 r218.2).bind λr221=>((r221.1).asI .i64).bind λn222=>(bif (decide (n214<n222)) then (bc.j9 F ah df (bc.l469 F ah df C29_ pt) kT i_ ja true kE mF i_ ja r221.2) else (bc.j9 F ah df (bc.l469 F ah df C29_ pt) kT lK lL lM kE mF i_ ja r221.2))))) else (bc.l469 F ah df C29_ pt kT lK lL lM kE mF i_ (wrap .i64 (ja+1)) r213.2))) else (bc.j8 F ah df C29_ kT lK lL lM kE mF i_ H147))
termination_by structural n=>n
def bc.l29 (F:Nat) (ah:agU) (df:agY) :Nat->Int->Int->Int->Bool->Nat->Nat->Int->Hp->OA
 | 0,_,_,_,_,_,_,_,_=>none
 | hJ+1,eK,gQ,iR,og,qu,Ad,oh,H20=>(Hp.ldI H20 .i64 qu Ad).bind λn135=>(bif (decide (oh<n135)) then (bc.l469 F ah df (bc.l29 F ah df hJ) F eK gQ iR og qu Ad oh eK H20) else (bc.j5 F ah df gQ iR og H20))
termination_by structural n=>n
def bc.twX (ah:agU) (df:agY) (aa:Nat) (ac:Nat) (af:Int) (H:Hp):OA:=(Hp.ldI H .i64 aa (ac+6)).bind λn4=>(Hp.ldI H .i64 aa ((ac+6)+1)).bind λn5=>(Hp.ldSl H aa ((ac+6)+2)).bind λs6=>(Hp.new H [.int .i64 0,.int .i64 0,.sl ⟨none,0,.ex 0⟩]).bind λH7=>(Hp.st H7 H.length 0 (.int .i64 n4)).bind λH8=>(Hp.st H8 H.length (0+1) (.int .i64 n5)).bind λH9=>(Hp.st H9 H.length (0+1+1) (.sl s6)).bind λH10=>bc.l29 F ah df F af 0 0 false H.length 0 af H10
def bc.tw:=bc.twX F (bR.tw F) (es.tw F)
def bc.lh29 (ah:agU) (df:agY) (ks:ag0) (n:Nat) (tm:Tm) (H:Hp):OA:=match ks,tm 1,tm 4,tm 5,tm 6,tm 7,tm 8 with
 | [],(.int .i64 eK),(.int .i64 gQ),(.int .i64 iR),(.bool og),(.ptr qu Ad),(.int .i64 oh)=>bc.l29 F ah df n eK gQ iR og qu Ad oh H
 | _,_,_,_,_,_,_=>none
def bc.lh469 (ah:agU) (df:agY) (ks:ag0) (n:Nat) (tm:Tm) (H:Hp):OA:=match ks,tm 1,tm 4,tm 5,tm 6,tm 7,tm 8,tm 9 with
 | [hJ],(.int .i64 kT),(.int .i64 lK),(.int .i64 lL),(.bool lM),(.ptr kE mF),(.int .i64 i_),(.int .i64 ja)=>bc.l469 F ah df (bc.l29 F ah df hJ) n kT lK lL lM kE mF i_ ja H
 | _,_,_,_,_,_,_,_=>none
def bc.lh (ah:agU) (df:agY) (p:Nat) (ks:ag0) (n:Nat) (tm:Tm) (H:Hp):OA:=bif p.beq 469 then bc.lh469 F ah df ks n tm H else (bif p.beq 29 then bc.lh29 F ah df ks n tm H else (none))
def bc.cs (F:Nat) (ah:agU) (df:agY):Cs:=[(75,mk6 ah),(97,mk5 df)]
theorem bc.loops (ah:agU) (df:agY):LO (cn (bc.cs F ah df)) cE (bc.lh F ah df) F Try.f204:=
 (ae.rt (ae.rt (ae.lt (ae.rt (ae.block (ae.la (λn tm H r h=>by change bc.lh29 F ah df [] n tm H=_ at h;unfold bc.lh29 at h;split at h;have e:eE tm [(1,_),(4,_),(5,_),(6,_),(7,_),(8,_)]:=⟨‹_›,‹_›,‹_›,‹_›,‹_›,‹_›,trivial⟩;obtain _ | k29:=n;cases h;exact ⟨_,rfl,by rw [<- eG e];exact Eq.trans (by kernel_rfl) h⟩;cases h) λk29=>(ae.rt (ae.lt (ae.block (ae.rt (ae.block (ae.la (λn tm H r h=>by change bc.lh469 F ah df [k29] n tm H=_ at h;unfold bc.lh469 at h;split at h;have e:eE tm [(1,_),(4,_),(5,_),(6,_),(7,_),(8,_),(9,_)]:=⟨‹_›,‹_›,‹_›,‹_›,‹_›,‹_›,‹_›,trivial⟩;cases (show [k29]=_ from ‹_›);obtain _ | k469:=n;cases h;exact ⟨_,rfl,by rw [<- eG e];exact Eq.trans (by kernel_rfl) h⟩;cases h) λk469=>ae.no))))))))))))
theorem bc.eqX (ah:agU) (df:agY) (aa:Nat) (ac:Nat) (af:Int) (H:Hp):EX (cn (bc.cs F ah df)) cE (bc.lh F ah df) F Try.f204 [(.ptr aa ac),(.int .i64 af)] H=bc.twX F ah df aa ac af H:=by kernel_rfl
theorem bc.k:Ok Try.prog 204 (mk1 (bc.tw F)):=by
 intro args H v H' h
 unfold mk1 at h
 split at h
 ·exact okT (TB:=cE) Try.func204 (bH (bR.k F) (bH (es.k F) dP)) (bc.loops F (bR.tw F) (es.tw F)) ((bc.eqX F (bR.tw F) (es.tw F) _ _ _ H).trans h) (by kernel_rfl)
 ·cases h
def dn.l7 (F:Nat) (ah:agU) :Nat->Int->Int->Nat->Nat->Int->Int->Hp->OA
 | 0,_,_,_,_,_,_,_=>none
 | lr+1,jb,jc,dS,kl,jd,gA,H17=>(bif (decide (gA<jd)) then ((Hp.ldI H17 .i64 dS kl).bind λn32=>(Hp.ldI H17 .i64 dS (kl+1)).bind λn33=>(Hp.ldSl H17 dS (kl+2)).bind λs34=>(ah n32 n33 s34 jb gA H17).bind λr35=>((r35.1).asP).bind λp36=>(if bk H17 r35.2 then ((Hp.ldI r35.2 .i64 dS kl).bind λn37=>(Hp.ldI r35.2 .i64 dS (kl+1)).bind λn38=>(Hp.ldSl r35.2 dS (kl+2)).bind λs39=>(ah n37 n38 s39 jc gA r35.2).bind λr40=>((r40.1).asP).bind λp41=>(Hp.ldI r40.2 .i64 p41.1 p41.2).bind λn42=>(Hp.ldI r40.2 .i64 p36.1 p36.2).bind λn43=>(Hp.st r40.2 p36.1 p36.2 (.int .i64 n42)).bind λH44=>(Hp.st H44 p41.1 p41.2 (.int .i64 n43)).bind λH45=>dn.l7 F ah lr jb jc dS kl jd (wrap .i64 (gA+1)) H45) else none)) else (some ((.tup []),H17)))
termination_by structural n=>n
def dn.twX (ah:agU) (aa:Int) (ac:Int) (bM:Sl) (aA:Int) (cG:Int) (H:Hp):OA:=(Hp.new H [(.int .i64 aa),(.int .i64 ac),(.sl bM)]).bind λH6=>(Hp.ldI H6 .i64 H.length 1).bind λn7=>dn.l7 F ah F aA cG H.length 0 n7 0 H6
def dn.tw:=dn.twX F (bR.tw F)
def dn.lh7 (ah:agU) (ks:ag0) (n:Nat) (tm:Tm) (H:Hp):OA:=match ks,tm 1,tm 2,tm 3,tm 10,tm 11 with
 | [],(.int .i64 jb),(.int .i64 jc),(.ptr dS kl),(.int .i64 jd),(.int .i64 gA)=>dn.l7 F ah n jb jc dS kl jd gA H
 | _,_,_,_,_,_=>none
def dn.lh (ah:agU) (p:Nat) (ks:ag0) (n:Nat) (tm:Tm) (H:Hp):OA:=bif p.beq 7 then dn.lh7 F ah ks n tm H else (none)
def dn.pn:Nat->List Nat:=eL [(4,[7]),(5,[9,11])]
def dn.tb:Nat->List (List Nat):=eL [(4,[[],[],[],[0,1,2],[],[],[],[0,1,2,3,4,5,6],[0,1,2,3,4,5,6,7],[0,1,2,3,4,5,6,7,8]]),(5,[[],[],[],[2],[2,3],[],[5],[5,6],[0,2,3,4,5,6,7],[0,2,3,4,5,6,7,8],[0,1,2,3,4,5,6,7,8,9],[0,1,2,3,4,5,6,7,8,9,10]])]
def dn.cs (F:Nat) (ah:agU):Cs:=[(75,mk6 ah)]
theorem dn.loops (ah:agU):LO (cn (dn.cs F ah)) dn.pn (dn.lh F ah) F Try.f205:=
 (ae.rt (ae.rt (ae.block (ae.la (λn tm H r h=>by change dn.lh7 F ah [] n tm H=_ at h;unfold dn.lh7 at h;split at h;have e:eE tm [(1,_),(2,_),(3,_),(10,_),(11,_)]:=⟨‹_›,‹_›,‹_›,‹_›,‹_›,trivial⟩;obtain _ | k7:=n;cases h;exact ⟨_,rfl,by rw [<- eG e];exact Eq.trans (by kernel_rfl) h⟩;cases h) λk7=>ae.no))))
theorem dn.eqX (ah:agU) (aa:Int) (ac:Int) (bM:Sl) (aA:Int) (cG:Int) (H:Hp):EX (cn (dn.cs F ah)) dn.pn (dn.lh F ah) F Try.f205 [(.agg [(.int .i64 aa),(.int .i64 ac),(.sl bM)]),(.int .i64 aA),(.int .i64 cG)] H=dn.twX F ah aa ac bM aA cG H:=by kernel_rfl
theorem dn.k:Ok Try.prog 205 (mk6 (dn.tw F)):=by
 intro args H v H' h
 unfold mk6 at h
 split at h
 ·exact okT (TB:=dn.tb) Try.func205 (bH (bR.k F) dP) (dn.loops F (bR.tw F)) ((dn.eqX F (bR.tw F) _ _ _ _ _ H).trans h) (by kernel_rfl)
 ·cases h
def dp.l7 (F:Nat) (ah:agU) :Nat->Int->Int->Nat->Nat->Int->Int->Hp->OA
 | 0,_,_,_,_,_,_,_=>none
 | lr+1,jb,jc,dS,kl,jd,gA,H17=>(bif (decide (gA<jd)) then ((Hp.ldI H17 .i64 dS kl).bind λn32=>(Hp.ldI H17 .i64 dS (kl+1)).bind λn33=>(Hp.ldSl H17 dS (kl+2)).bind λs34=>(ah n32 n33 s34 gA jb H17).bind λr35=>((r35.1).asP).bind λp36=>(if bk H17 r35.2 then ((Hp.ldI r35.2 .i64 dS kl).bind λn37=>(Hp.ldI r35.2 .i64 dS (kl+1)).bind λn38=>(Hp.ldSl r35.2 dS (kl+2)).bind λs39=>(ah n37 n38 s39 gA jc r35.2).bind λr40=>((r40.1).asP).bind λp41=>(Hp.ldI r40.2 .i64 p41.1 p41.2).bind λn42=>(Hp.ldI r40.2 .i64 p36.1 p36.2).bind λn43=>(Hp.st r40.2 p36.1 p36.2 (.int .i64 n42)).bind λH44=>(Hp.st H44 p41.1 p41.2 (.int .i64 n43)).bind λH45=>dp.l7 F ah lr jb jc dS kl jd (wrap .i64 (gA+1)) H45) else none)) else (some ((.tup []),H17)))
termination_by structural n=>n
def dp.twX (ah:agU) (aa:Int) (ac:Int) (bM:Sl) (aA:Int) (cG:Int) (H:Hp):OA:=(Hp.new H [(.int .i64 aa),(.int .i64 ac),(.sl bM)]).bind λH6=>(Hp.ldI H6 .i64 H.length 0).bind λn7=>dp.l7 F ah F aA cG H.length 0 n7 0 H6
def dp.tw:=dp.twX F (bR.tw F)
def dp.lh7 (ah:agU) (ks:ag0) (n:Nat) (tm:Tm) (H:Hp):OA:=match ks,tm 1,tm 2,tm 3,tm 10,tm 11 with
 | [],(.int .i64 jb),(.int .i64 jc),(.ptr dS kl),(.int .i64 jd),(.int .i64 gA)=>dp.l7 F ah n jb jc dS kl jd gA H
 | _,_,_,_,_,_=>none
def dp.lh (ah:agU) (p:Nat) (ks:ag0) (n:Nat) (tm:Tm) (H:Hp):OA:=bif p.beq 7 then dp.lh7 F ah ks n tm H else (none)
def dp.pn:Nat->List Nat:=eL [(4,[7]),(5,[9,11])]
def dp.tb:Nat->List (List Nat):=eL [(4,[[],[],[],[0,1,2],[],[],[],[0,1,2,3,4,5,6],[0,1,2,3,4,5,6,7],[0,1,2,3,4,5,6,7,8]]),(5,[[],[],[],[2],[2,3],[],[5],[5,6],[0,2,3,4,5,6,7],[0,2,3,4,5,6,7,8],[0,1,2,3,4,5,6,7,8,9],[0,1,2,3,4,5,6,7,8,9,10]])]
def dp.cs (F:Nat) (ah:agU):Cs:=[(75,mk6 ah)]
theorem dp.loops (ah:agU):LO (cn (dp.cs F ah)) dp.pn (dp.lh F ah) F Try.f206:=
 (ae.rt (ae.rt (ae.block (ae.la (λn tm H r h=>by change dp.lh7 F ah [] n tm H=_ at h;unfold dp.lh7 at h;split at h;have e:eE tm [(1,_),(2,_),(3,_),(10,_),(11,_)]:=⟨‹_›,‹_›,‹_›,‹_›,‹_›,trivial⟩;obtain _ | k7:=n;cases h;exact ⟨_,rfl,by rw [<- eG e];exact Eq.trans (by kernel_rfl) h⟩;cases h) λk7=>ae.no))))
theorem dp.eqX (ah:agU) (aa:Int) (ac:Int) (bM:Sl) (aA:Int) (cG:Int) (H:Hp):EX (cn (dp.cs F ah)) dp.pn (dp.lh F ah) F Try.f206 [(.agg [(.int .i64 aa),(.int .i64 ac),(.sl bM)]),(.int .i64 aA),(.int .i64 cG)] H=dp.twX F ah aa ac bM aA cG H:=by kernel_rfl
theorem dp.k:Ok Try.prog 206 (mk6 (dp.tw F)):=by
 intro args H v H' h
 unfold mk6 at h
 split at h
 ·exact okT (TB:=dp.tb) Try.func206 (bH (bR.k F) dP) (dp.loops F (bR.tw F)) ((dp.eqX F (bR.tw F) _ _ _ _ _ H).trans h) (by kernel_rfl)
 ·cases h
def fi.twX (F:Nat) (aa:Int) (ac:Int) (bM:Sl) (aA:Int) (H:Hp):OA:=(Hp.new H [(.int .i64 aa),(.int .i64 ac),(.sl bM)]).bind λH5=>(Hp.ldSl H5 H.length 2).bind λs6=>(Hp.ldI H5 .i64 H.length 1).bind λn7=>(Hp.ldI H5 .i64 H.length 1).bind λn8=>(Sl.cut s6 1 (wrap .i64 (aA * n7)) (wrap .i64 ((wrap .i64 (aA+1)) * n8))).bind λs9=>some ((.sl s9),H5)
def fi.tw:=fi.twX F
def mk15 (g:ag9) (args:ag3) (H:Hp):OA:=match args with
 | [(.agg [(.int .i64 aa),(.int .i64 ac),(.sl bM)]),(.int .i64 aA)]=>g aa ac bM aA H
 | _=>none
theorem mk15_E (g:ag9) (aa:Int) (ac:Int) (bM:Sl) (aA:Int) (H:Hp):mk15 g [(.agg [(.int .i64 aa),(.int .i64 ac),(.sl bM)]),(.int .i64 aA)] H=g aa ac bM aA H:=rfl
theorem fi.k:Ok Try.prog 128 (mk15 (fi.tw F)):=by
 intro args H v H' h
 unfold mk15 at h
 split at h
 ·exact ok0 Try.func128 (Eq.trans (by kernel_rfl) h) (by kernel_rfl) (by kernel_rfl)
 ·cases h
def bS.l32747 (F:Nat) (fF:agW) (fl:agU) (fm:agU) (ah:agU) (cR:ag9) :Nat->Nat->Nat->Int->Int->Int->Hp->OA
 | 0,_,_,_,_,_,_=>none
 | Xp+1,pH,pI,mY,om,lN,H159=>(bif (decide (lN<om)) then ((Hp.ldI H159 .i64 pH (pI+3)).bind λn172=>(Hp.ldI H159 .i64 pH ((pI+3)+1)).bind λn173=>(Hp.ldSl H159 pH ((pI+3)+2)).bind λs174=>(ah n172 n173 s174 lN mY H159).bind λr175=>((r175.1).asP).bind λp176=>(if bk H159 r175.2 then ((Hp.ldI r175.2 .i64 pH (pI+3)).bind λn177=>(Hp.ldI r175.2 .i64 pH ((pI+3)+1)).bind λn178=>(Hp.ldSl r175.2 pH ((pI+3)+2)).bind λs179=>(ah n177 n178 s179 lN mY r175.2).bind λr180=>((r180.1).asP).bind λp181=>(Hp.ldI r180.2 .i64 p181.1 p181.2).bind λn182=>(Hp.st r180.2 p176.1 p176.2 (.int .i64 (wrap .i64 (0 - n182)))).bind λH183=>bS.l32747 F fF fl fm ah cR Xp pH pI mY om (wrap .i64 (lN+1)) H183) else none)) else (some ((.bool true),H159)))
termination_by structural n=>n
def bS.j3 (fF:agW) (fl:agU) (fm:agU) (ah:agU) (cR:ag9) (L_:Nat) (Ma:Nat) (vj:Int) (H142:Hp):OA:=(Hp.ldI H142 .i64 L_ (Ma+3)).bind λn143=>bS.l32747 F fF fl fm ah cR F L_ Ma vj n143 0 H142
def bS.j4 (F:Nat) (fF:agW) (fl:agU) (fm:agU) (ah:agU) (cR:ag9) (C32745_:ahI) (Xq:Nat) (Xr:Nat) (Xs:Int) (Xt:Sl) (Xu:Int) (Xv:Int) (H242:Hp):OA:=C32745_ Xq Xr Xs Xt Xu (wrap .i64 (Xv+1)) H242
def bS.j5 (fF:agW) (fl:agU) (fm:agU) (ah:agU) (cR:ag9) (C32745_:ahI) (Xw:Nat) (Xx:Nat) (Xy:Int) (Xz:Sl) (XA:Int) (XB:Int) (H224:Hp):OA:=bS.j4 F fF fl fm ah cR C32745_ Xw Xx Xy Xz XA XB H224
def bS.l2095707 (F:Nat) (fF:agW) (fl:agU) (fm:agU) (ah:agU) (cR:ag9) (C32745_:ahI):Nat->Nat->Nat->Int->Sl->Int->Int->Sl->Int->Int->Hp->OA
 | 0,_,_,_,_,_,_,_,_,_,_=>none
 | XC+1,Ae,Af,Ag,Ah,Ai,Aj,xu,Ak,vk,H202=>(bif (decide (vk<Ak)) then ((Sl.idx xu vk 1).bind λp243=>(Hp.ldI H202 .i64 p243.1 p243.2).bind λn244=>(Sl.idx xu vk 1).bind λp245=>(Hp.st H202 p245.1 p245.2 (.int .i64 (wrap .i64 (0 - n244)))).bind λH246=>bS.l2095707 F fF fl fm ah cR C32745_ XC Ae Af Ag Ah Ai Aj xu Ak (wrap .i64 (vk+1)) H246) else (bS.j5 F fF fl fm ah cR C32745_ Ae Af Ag Ah Ai Aj H202))
termination_by structural n=>n
def bS.l32745 (F:Nat) (fF:agW) (fl:agU) (fm:agU) (ah:agU) (cR:ag9) :Nat->Nat->Nat->Int->Sl->Int->Int->Hp->OA
 | 0,_,_,_,_,_,_,_=>none
 | DZ+1,oq,ou,iS,Al,Am,xv,H65=>(bif (decide (xv<Am)) then ((Sl.idx Al xv 1).bind λp184=>(Hp.ldSl H65 p184.1 p184.2).bind λs185=>bS.l2095707 F fF fl fm ah cR (bS.l32745 F fF fl fm ah cR DZ) F oq ou iS Al Am xv s185 (s185.n:Int) 0 H65) else (bS.j3 F fF fl fm ah cR oq ou iS H65))
termination_by structural n=>n
def bS.twX (fF:agW) (fl:agU) (fm:agU) (ah:agU) (cR:ag9) (aa:Nat) (ac:Nat) (af:Int) (H:Hp):OA:=(fF aa ac af H).bind λr4=>((r4.1).asTup 3).bind λl5=>(l5[0]?).bind λv6=>((v6).asI .i64).bind λn7=>(l5[1]?).bind λv8=>((v8).asI .i64).bind λn9=>(l5[2]?).bind λv10=>((v10).asB).bind λb11=>(bif (!b11) then (some ((.bool false),r4.2)) else ((Hp.ldI r4.2 .i64 aa (ac+6)).bind λn12=>(Hp.ldI r4.2 .i64 aa ((ac+6)+1)).bind λn13=>(Hp.ldSl r4.2 aa ((ac+6)+2)).bind λs14=>(fl n12 n13 s14 n7 af r4.2).bind λr15=>(Hp.ldI r15.2 .i64 aa ac).bind λn16=>(Hp.ldI r15.2 .i64 aa (ac+1)).bind λn17=>(Hp.ldSl r15.2 aa (ac+2)).bind λs18=>(fl n16 n17 s18 n7 af r15.2).bind λr19=>(Hp.ldI r19.2 .i64 aa (ac+3)).bind λn20=>(Hp.ldI r19.2 .i64 aa ((ac+3)+1)).bind λn21=>(Hp.ldSl r19.2 aa ((ac+3)+2)).bind λs22=>(fm n20 n21 s22 n7 af r19.2).bind λr23=>(Hp.ldI r23.2 .i64 aa (ac+6)).bind λn24=>(Hp.ldI r23.2 .i64 aa ((ac+6)+1)).bind λn25=>(Hp.ldSl r23.2 aa ((ac+6)+2)).bind λs26=>(fm n24 n25 s26 n9 af r23.2).bind λr27=>(Hp.ldI r27.2 .i64 aa (ac+9)).bind λn28=>(Hp.ldI r27.2 .i64 aa ((ac+9)+1)).bind λn29=>(Hp.ldSl r27.2 aa ((ac+9)+2)).bind λs30=>(fm n28 n29 s30 n9 af r27.2).bind λr31=>(Hp.ldI r31.2 .i64 aa (ac+12)).bind λn32=>(Hp.ldI r31.2 .i64 aa ((ac+12)+1)).bind λn33=>(Hp.ldSl r31.2 aa ((ac+12)+2)).bind λs34=>(fl n32 n33 s34 n9 af r31.2).bind λr35=>(Hp.ldI r35.2 .i64 aa (ac+6)).bind λn36=>(Hp.ldI r35.2 .i64 aa ((ac+6)+1)).bind λn37=>(Hp.ldSl r35.2 aa ((ac+6)+2)).bind λs38=>(ah n36 n37 s38 af af r35.2).bind λr39=>((r39.1).asP).bind λp40=>(Hp.ldI r39.2 .i64 p40.1 p40.2).bind λn41=>(bif (decide (n41<0)) then ((Hp.ldI r39.2 .i64 aa (ac+6)).bind λn42=>(Hp.ldI r39.2 .i64 aa ((ac+6)+1)).bind λn43=>(Hp.ldSl r39.2 aa ((ac+6)+2)).bind λs44=>(cR n42 n43 s44 af r39.2).bind λr45=>((r45.1).asSl).bind λs46=>(if bk r39.2 r45.2 then ((Hp.ldI r45.2 .i64 aa ac).bind λn47=>(Hp.ldI r45.2 .i64 aa (ac+1)).bind λn48=>(Hp.ldSl r45.2 aa (ac+2)).bind λs49=>(cR n47 n48 s49 af r45.2).bind λr50=>((r50.1).asSl).bind λs51=>(Hp.new r50.2 [(.sl s46),(.sl s51)]).bind λH52=>bS.l32745 F fF fl fm ah cR F aa ac af (⟨some (r50.2.length,0),2,.ex 2⟩:Sl) ((⟨some (r50.2.length,0),2,.ex 2⟩:Sl).n:Int) 0 H52) else none)) else (some ((.bool true),r39.2)))))
def bS.tw:=bS.twX F (bc.tw F) (dn.tw F) (dp.tw F) (bR.tw F) (fi.tw F)
def bS.lh32745 (fF:agW) (fl:agU) (fm:agU) (ah:agU) (cR:ag9) (ks:ag0) (n:Nat) (tm:Tm) (H:Hp):OA:=match ks,tm 0,tm 1,tm 94,tm 95,tm 96 with
 | [],(.ptr oq ou),(.int .i64 iS),(.sl Al),(.int .i64 Am),(.int .i64 xv)=>bS.l32745 F fF fl fm ah cR n oq ou iS Al Am xv H
 | _,_,_,_,_,_=>none
def bS.lh32747 (fF:agW) (fl:agU) (fm:agU) (ah:agU) (cR:ag9) (ks:ag0) (n:Nat) (tm:Tm) (H:Hp):OA:=match ks,tm 0,tm 1,tm 120,tm 121 with
 | [],(.ptr pH pI),(.int .i64 mY),(.int .i64 om),(.int .i64 lN)=>bS.l32747 F fF fl fm ah cR n pH pI mY om lN H
 | _,_,_,_,_=>none
def bS.lh2095707 (fF:agW) (fl:agU) (fm:agU) (ah:agU) (cR:ag9) (ks:ag0) (n:Nat) (tm:Tm) (H:Hp):OA:=match ks,tm 0,tm 1,tm 9,tm 94,tm 95,tm 96,tm 101,tm 102 with
 | [DZ],(.ptr Ae Af),(.int .i64 Ag),(.sl xu),(.sl Ah),(.int .i64 Ai),(.int .i64 Aj),(.int .i64 Ak),(.int .i64 vk)=>bS.l2095707 F fF fl fm ah cR (bS.l32745 F fF fl fm ah cR DZ) n Ae Af Ag Ah Ai Aj xu Ak vk H
 | _,_,_,_,_,_,_,_,_=>none
def bS.lh (fF:agW) (fl:agU) (fm:agU) (ah:agU) (cR:ag9) (p:Nat) (ks:ag0) (n:Nat) (tm:Tm) (H:Hp):OA:=bif p.beq 2095707 then bS.lh2095707 F fF fl fm ah cR ks n tm H else (bif p.beq 32747 then bS.lh32747 F fF fl fm ah cR ks n tm H else (bif p.beq 32745 then bS.lh32745 F fF fl fm ah cR ks n tm H else (none)))
def bS.pn:Nat->List Nat:=eL [(11,[13]),(23,[15,20])]
def bS.tb:Nat->List (List Nat):=eL [(11,[[],[0],[0,1],[0,1,2],[0,1,2,3],[],[0,1,2,3,4,5],[],[7],[7,8],[7,8,9],[7,8,9,10],[],[0,1,2,3,4,5,6,7,8,9,10,11,12],[0,1,2,3,4,5,6,7,8,9,10,11,12,13],[0,1,2,3,4,5,6,7,8,9,10,11,12,13,14],[]]),(23,[[],[0],[0,1],[0,1,2],[0,1,2,3],[],[],[0,1,2,3,4,5,6],[],[8],[8,9],[8,9,10],[8,9,10,11],[],[],[0,1,2,3,4,5,6,7,8,9,10,11,12,13,14],[0,1,2,3,4,5,6,7,8,9,10,11,12,13,14,15],[0,1,2,3,4,5,6,7,8,9,10,11,12,13,14,15,16],[0,1,2,3,4,5,6,7,8,9,10,11,12,13,14,15,16,17],[0,1,2,3,4,5,6,7,8,9,10,11,12,13,14,15,16,17,18],[0,1,2,3,4,5,6,7,8,9,10,11,12,13,14,15,16,17,18,19]])]
def bS.cs (F:Nat) (fF:agW) (fl:agU) (fm:agU) (ah:agU) (cR:ag9):Cs:=[(204,mk1 fF),(205,mk6 fl),(206,mk6 fm),(75,mk6 ah),(128,mk15 cR)]
theorem bS.loops (fF:agW) (fl:agU) (fm:agU) (ah:agU) (cR:ag9):LO (cn (bS.cs F fF fl fm ah cR)) bS.pn (bS.lh F fF fl fm ah cR) F Try.f173:=
 (ae.rt (ae.rt (ae.rt (ae.rt (ae.rt (ae.rt (ae.rt (ae.rt (ae.rt (ae.lt (ae.rt (ae.cond (ae.seq (ae.rt (ae.block (ae.la (λn tm H r h=>by change bS.lh32745 F fF fl fm ah cR [] n tm H=_ at h;unfold bS.lh32745 at h;split at h;have e:eE tm [(0,_),(1,_),(94,_),(95,_),(96,_)]:=⟨‹_›,‹_›,‹_›,‹_›,‹_›,trivial⟩;obtain _ | k32745:=n;cases h;exact ⟨_,rfl,by rw [<- eG e];exact Eq.trans (by kernel_rfl) h⟩;cases h) λk32745=>(ae.rt (ae.rt (ae.lt (ae.block (ae.rt (ae.rt (ae.block (ae.la (λn tm H r h=>by change bS.lh2095707 F fF fl fm ah cR [k32745] n tm H=_ at h;unfold bS.lh2095707 at h;split at h;have e:eE tm [(0,_),(1,_),(9,_),(94,_),(95,_),(96,_),(101,_),(102,_)]:=⟨‹_›,‹_›,‹_›,‹_›,‹_›,‹_›,‹_›,‹_›,trivial⟩;cases (show [k32745]=_ from ‹_›);obtain _ | k2095707:=n;cases h;exact ⟨_,rfl,by rw [<- eG e];exact Eq.trans (by kernel_rfl) h⟩;cases h) λk2095707=>ae.no))))))))))) (ae.rt (ae.block (ae.la (λn tm H r h=>by change bS.lh32747 F fF fl fm ah cR [] n tm H=_ at h;unfold bS.lh32747 at h;split at h;have e:eE tm [(0,_),(1,_),(120,_),(121,_)]:=⟨‹_›,‹_›,‹_›,‹_›,trivial⟩;obtain _ | k32747:=n;cases h;exact ⟨_,rfl,by rw [<- eG e];exact Eq.trans (by kernel_rfl) h⟩;cases h) λk32747=>ae.no)))) ae.no))))))))))))
theorem bS.eqX (fF:agW) (fl:agU) (fm:agU) (ah:agU) (cR:ag9) (aa:Nat) (ac:Nat) (af:Int) (H:Hp):EX (cn (bS.cs F fF fl fm ah cR)) bS.pn (bS.lh F fF fl fm ah cR) F Try.f173 [(.ptr aa ac),(.int .i64 af)] H=bS.twX F fF fl fm ah cR aa ac af H:=by kernel_rfl
theorem bS.k:Ok Try.prog 173 (mk1 (bS.tw F)):=by
 intro args H v H' h
 unfold mk1 at h
 split at h
 ·exact okT (TB:=bS.tb) Try.func173 (bH (bc.k F) (bH (dn.k F) (bH (dp.k F) (bH (bR.k F) (bH (fi.k F) dP))))) (bS.loops F (bc.tw F) (dn.tw F) (dp.tw F) (bR.tw F) (fi.tw F)) ((bS.eqX F (bc.tw F) (dn.tw F) (dp.tw F) (bR.tw F) (fi.tw F) _ _ _ H).trans h) (by kernel_rfl)
 ·cases h
def hG.twX (F:Nat) (aa:Int) (aQ:Int) (H:Hp):OA:=(if aQ=0 then none else ((if aQ=0 then none else ((bif (decide ((Int.tmod aa aQ)<0)) then (some ((.int .i64 (wrap .i64 ((wrap .i64 (Int.tdiv aa aQ)) - 1))),H)) else (some ((.int .i64 (wrap .i64 (Int.tdiv aa aQ))),H)))))))
def hG.tw:=hG.twX F
theorem hG.k:Ok Try.prog 207 (mk2 (hG.tw F)):=by
 intro args H v H' h
 unfold mk2 at h
 split at h
 ·exact ok0 Try.func207 (Eq.trans (by kernel_rfl) h) (by kernel_rfl) (by kernel_rfl)
 ·cases h
def gq.twX (F:Nat) (iJ:ag6) (df:agY) (aa:Nat) (ac:Nat) (af:Nat) (aA:Nat) (cG:Int) (kU:Int) (H:Hp):OA:=(iJ cG kU 2000000000000 H).bind λr7=>((r7.1).asTup 2).bind λl8=>(l8[0]?).bind λv9=>((v9).asI .i64).bind λn10=>(l8[1]?).bind λv11=>((v11).asB).bind λb12=>(Hp.ldI r7.2 .i64 af aA).bind λn13=>(Hp.st r7.2 af aA (.int .i64 (wrap .i64 (n13+n10)))).bind λH14=>(bif (!b12) then ((Hp.st H14 aa (ac+15) (.bool true)).bind λH15=>(Hp.st H15 af aA (.int .i64 0)).bind λH16=>some ((.tup []),H16)) else ((Hp.ldI H14 .i64 af aA).bind λn17=>(df n17 H14).bind λr18=>((r18.1).asI .i64).bind λn19=>(bif (decide (n19>1000000000000)) then ((Hp.st r18.2 aa (ac+15) (.bool true)).bind λH20=>(Hp.st H20 af aA (.int .i64 0)).bind λH21=>some ((.tup []),H21)) else (some ((.tup []),r18.2)))))
def gq.tw:=gq.twX F (fE.tw F) (es.tw F)
def mk16 (g:ahb) (args:ag3) (H:Hp):OA:=match args with
 | [(.ptr aa ac),(.ptr af aA),(.int .i64 cG),(.int .i64 kU)]=>g aa ac af aA cG kU H
 | _=>none
theorem mk16_E (g:ahb) (aa:Nat) (ac:Nat) (af:Nat) (aA:Nat) (cG:Int) (kU:Int) (H:Hp):mk16 g [(.ptr aa ac),(.ptr af aA),(.int .i64 cG),(.int .i64 kU)] H=g aa ac af aA cG kU H:=rfl
def gq.cs (F:Nat) (iJ:ag6) (df:agY):Cs:=[(172,mk7 iJ),(97,mk5 df)]
theorem gq.eqX (iJ:ag6) (df:agY) (aa:Nat) (ac:Nat) (af:Nat) (aA:Nat) (cG:Int) (kU:Int) (H:Hp):EX (cn (gq.cs F iJ df)) cE lh0 F Try.f217 [(.ptr aa ac),(.ptr af aA),(.int .i64 cG),(.int .i64 kU)] H=gq.twX F iJ df aa ac af aA cG kU H:=by kernel_rfl
theorem gq.k:Ok Try.prog 217 (mk16 (gq.tw F)):=by
 intro args H v H' h
 unfold mk16 at h
 split at h
 ·exact okT (TB:=cE) Try.func217 (bH (fE.k F) (bH (es.k F) dP)) ae.no ((gq.eqX F (fE.tw F) (es.tw F) _ _ _ _ _ _ H).trans h) (by kernel_rfl)
 ·cases h
def dk.l7 (F:Nat) (ah:agU) (fO:ahb) :Nat->Nat->Nat->Int->Int->Int->Nat->Nat->Int->Int->Hp->OA
 | 0,_,_,_,_,_,_,_,_,_,_=>none
 | lr+1,gL,kF,ed,gj,ia,ee,kn,ib,fZ,H23=>(bif (decide (fZ<ib)) then ((Hp.ldI H23 .i64 ee kn).bind λn36=>(Hp.ldI H23 .i64 ee (kn+1)).bind λn37=>(Hp.ldSl H23 ee (kn+2)).bind λs38=>(ah n36 n37 s38 ed fZ H23).bind λr39=>((r39.1).asP).bind λp40=>(if bk H23 r39.2 then ((Hp.ldI r39.2 .i64 ee kn).bind λn41=>(Hp.ldI r39.2 .i64 ee (kn+1)).bind λn42=>(Hp.ldSl r39.2 ee (kn+2)).bind λs43=>(ah n41 n42 s43 gj fZ r39.2).bind λr44=>((r44.1).asP).bind λp45=>(Hp.ldI r44.2 .i64 p45.1 p45.2).bind λn46=>(fO gL kF p40.1 p40.2 n46 ia r44.2).bind λr47=>dk.l7 F ah fO lr gL kF ed gj ia ee kn ib (wrap .i64 (fZ+1)) r47.2) else none)) else (some ((.tup []),H23)))
termination_by structural n=>n
def dk.twX (ah:agU) (fO:ahb) (aa:Nat) (ac:Nat) (af:Int) (aA:Int) (cu:Sl) (ef:Int) (eg:Int) (dY:Int) (H:Hp):OA:=(Hp.new H [(.int .i64 af),(.int .i64 aA),(.sl cu)]).bind λH9=>(Hp.ldI H9 .i64 H.length 1).bind λn10=>dk.l7 F ah fO F aa ac ef eg dY H.length 0 n10 0 H9
def dk.tw:=dk.twX F (bR.tw F) (gq.tw F)
def dk.lh7 (ah:agU) (fO:ahb) (ks:ag0) (n:Nat) (tm:Tm) (H:Hp):OA:=match ks,tm 0,tm 2,tm 3,tm 4,tm 6,tm 12,tm 13 with
 | [],(.ptr gL kF),(.int .i64 ed),(.int .i64 gj),(.int .i64 ia),(.ptr ee kn),(.int .i64 ib),(.int .i64 fZ)=>dk.l7 F ah fO n gL kF ed gj ia ee kn ib fZ H
 | _,_,_,_,_,_,_,_=>none
def dk.lh (ah:agU) (fO:ahb) (p:Nat) (ks:ag0) (n:Nat) (tm:Tm) (H:Hp):OA:=bif p.beq 7 then dk.lh7 F ah fO ks n tm H else (none)
def dk.pn:Nat->List Nat:=eL [(4,[8,12])]
def dk.tb:Nat->List (List Nat):=eL [(4,[[],[],[],[],[1,2,3],[],[],[],[1,2,3,4,5,6,7],[1,2,3,4,5,6,7,8],[1,2,3,4,5,6,7,8,9],[],[0,1,2,3,4,5,6,7,8,9,10,11]])]
def dk.cs (F:Nat) (ah:agU) (fO:ahb):Cs:=[(75,mk6 ah),(217,mk16 fO)]
theorem dk.loops (ah:agU) (fO:ahb):LO (cn (dk.cs F ah fO)) dk.pn (dk.lh F ah fO) F Try.f211:=
 (ae.rt (ae.rt (ae.block (ae.la (λn tm H r h=>by change dk.lh7 F ah fO [] n tm H=_ at h;unfold dk.lh7 at h;split at h;have e:eE tm [(0,_),(2,_),(3,_),(4,_),(6,_),(12,_),(13,_)]:=⟨‹_›,‹_›,‹_›,‹_›,‹_›,‹_›,‹_›,trivial⟩;obtain _ | k7:=n;cases h;exact ⟨_,rfl,by rw [<- eG e];exact Eq.trans (by kernel_rfl) h⟩;cases h) λk7=>ae.no))))
theorem dk.eqX (ah:agU) (fO:ahb) (aa:Nat) (ac:Nat) (af:Int) (aA:Int) (cu:Sl) (ef:Int) (eg:Int) (dY:Int) (H:Hp):EX (cn (dk.cs F ah fO)) dk.pn (dk.lh F ah fO) F Try.f211 [(.ptr aa ac),(.agg [(.int .i64 af),(.int .i64 aA),(.sl cu)]),(.int .i64 ef),(.int .i64 eg),(.int .i64 dY)] H=dk.twX F ah fO aa ac af aA cu ef eg dY H:=by kernel_rfl
theorem dk.k:Ok Try.prog 211 (mk8 (dk.tw F)):=by
 intro args H v H' h
 unfold mk8 at h
 split at h
 ·exact okT (TB:=dk.tb) Try.func211 (bH (bR.k F) (bH (gq.k F) dP)) (dk.loops F (bR.tw F) (gq.tw F)) ((dk.eqX F (bR.tw F) (gq.tw F) _ _ _ _ _ _ _ _ H).trans h) (by kernel_rfl)
 ·cases h
def dl.l7 (F:Nat) (ah:agU) (fO:ahb) :Nat->Nat->Nat->Int->Int->Int->Nat->Nat->Int->Int->Hp->OA
 | 0,_,_,_,_,_,_,_,_,_,_=>none
 | lr+1,gL,kF,ed,gj,ia,ee,kn,ib,fZ,H23=>(bif (decide (fZ<ib)) then ((Hp.ldI H23 .i64 ee kn).bind λn36=>(Hp.ldI H23 .i64 ee (kn+1)).bind λn37=>(Hp.ldSl H23 ee (kn+2)).bind λs38=>(ah n36 n37 s38 fZ ed H23).bind λr39=>((r39.1).asP).bind λp40=>(if bk H23 r39.2 then ((Hp.ldI r39.2 .i64 ee kn).bind λn41=>(Hp.ldI r39.2 .i64 ee (kn+1)).bind λn42=>(Hp.ldSl r39.2 ee (kn+2)).bind λs43=>(ah n41 n42 s43 fZ gj r39.2).bind λr44=>((r44.1).asP).bind λp45=>(Hp.ldI r44.2 .i64 p45.1 p45.2).bind λn46=>(fO gL kF p40.1 p40.2 n46 ia r44.2).bind λr47=>dl.l7 F ah fO lr gL kF ed gj ia ee kn ib (wrap .i64 (fZ+1)) r47.2) else none)) else (some ((.tup []),H23)))
termination_by structural n=>n
def dl.twX (ah:agU) (fO:ahb) (aa:Nat) (ac:Nat) (af:Int) (aA:Int) (cu:Sl) (ef:Int) (eg:Int) (dY:Int) (H:Hp):OA:=(Hp.new H [(.int .i64 af),(.int .i64 aA),(.sl cu)]).bind λH9=>(Hp.ldI H9 .i64 H.length 0).bind λn10=>dl.l7 F ah fO F aa ac ef eg dY H.length 0 n10 0 H9
def dl.tw:=dl.twX F (bR.tw F) (gq.tw F)
def dl.lh7 (ah:agU) (fO:ahb) (ks:ag0) (n:Nat) (tm:Tm) (H:Hp):OA:=match ks,tm 0,tm 2,tm 3,tm 4,tm 6,tm 12,tm 13 with
 | [],(.ptr gL kF),(.int .i64 ed),(.int .i64 gj),(.int .i64 ia),(.ptr ee kn),(.int .i64 ib),(.int .i64 fZ)=>dl.l7 F ah fO n gL kF ed gj ia ee kn ib fZ H
 | _,_,_,_,_,_,_,_=>none
def dl.lh (ah:agU) (fO:ahb) (p:Nat) (ks:ag0) (n:Nat) (tm:Tm) (H:Hp):OA:=bif p.beq 7 then dl.lh7 F ah fO ks n tm H else (none)
def dl.pn:Nat->List Nat:=eL [(4,[8,12])]
def dl.tb:Nat->List (List Nat):=eL [(4,[[],[],[],[],[1,2,3],[],[],[],[1,2,3,4,5,6,7],[1,2,3,4,5,6,7,8],[1,2,3,4,5,6,7,8,9],[],[0,1,2,3,4,5,6,7,8,9,10,11]])]
def dl.cs (F:Nat) (ah:agU) (fO:ahb):Cs:=[(75,mk6 ah),(217,mk16 fO)]
theorem dl.loops (ah:agU) (fO:ahb):LO (cn (dl.cs F ah fO)) dl.pn (dl.lh F ah fO) F Try.f212:=
 (ae.rt (ae.rt (ae.block (ae.la (λn tm H r h=>by change dl.lh7 F ah fO [] n tm H=_ at h;unfold dl.lh7 at h;split at h;have e:eE tm [(0,_),(2,_),(3,_),(4,_),(6,_),(12,_),(13,_)]:=⟨‹_›,‹_›,‹_›,‹_›,‹_›,‹_›,‹_›,trivial⟩;obtain _ | k7:=n;cases h;exact ⟨_,rfl,by rw [<- eG e];exact Eq.trans (by kernel_rfl) h⟩;cases h) λk7=>ae.no))))
theorem dl.eqX (ah:agU) (fO:ahb) (aa:Nat) (ac:Nat) (af:Int) (aA:Int) (cu:Sl) (ef:Int) (eg:Int) (dY:Int) (H:Hp):EX (cn (dl.cs F ah fO)) dl.pn (dl.lh F ah fO) F Try.f212 [(.ptr aa ac),(.agg [(.int .i64 af),(.int .i64 aA),(.sl cu)]),(.int .i64 ef),(.int .i64 eg),(.int .i64 dY)] H=dl.twX F ah fO aa ac af aA cu ef eg dY H:=by kernel_rfl
theorem dl.k:Ok Try.prog 212 (mk8 (dl.tw F)):=by
 intro args H v H' h
 unfold mk8 at h
 split at h
 ·exact okT (TB:=dl.tb) Try.func212 (bH (bR.k F) (bH (gq.k F) dP)) (dl.loops F (bR.tw F) (gq.tw F)) ((dl.eqX F (bR.tw F) (gq.tw F) _ _ _ _ _ _ _ _ H).trans h) (by kernel_rfl)
 ·cases h
def fj.twX (F:Nat) (mG:ag7) (mH:ag7) (aa:Nat) (ac:Nat) (af:Int) (cy:Int) (dD:Int) (H:Hp):OA:=(Hp.ldI H .i64 aa (ac+6)).bind λn6=>(Hp.ldI H .i64 aa ((ac+6)+1)).bind λn7=>(Hp.ldSl H aa ((ac+6)+2)).bind λs8=>(mG aa ac n6 n7 s8 af cy dD H).bind λr9=>(Hp.ldI r9.2 .i64 aa ac).bind λn10=>(Hp.ldI r9.2 .i64 aa (ac+1)).bind λn11=>(Hp.ldSl r9.2 aa (ac+2)).bind λs12=>(mG aa ac n10 n11 s12 af cy dD r9.2).bind λr13=>(Hp.ldI r13.2 .i64 aa (ac+3)).bind λn14=>(Hp.ldI r13.2 .i64 aa ((ac+3)+1)).bind λn15=>(Hp.ldSl r13.2 aa ((ac+3)+2)).bind λs16=>(mH aa ac n14 n15 s16 cy af (wrap .i64 (0 - dD)) r13.2).bind λr17=>some ((.tup []),r17.2)
def fj.tw:=fj.twX F (dk.tw F) (dl.tw F)
def fj.cs (F:Nat) (mG:ag7) (mH:ag7):Cs:=[(211,mk8 mG),(212,mk8 mH)]
theorem fj.eqX (mG:ag7) (mH:ag7) (aa:Nat) (ac:Nat) (af:Int) (cy:Int) (dD:Int) (H:Hp):EX (cn (fj.cs F mG mH)) cE lh0 F Try.f177 [(.ptr aa ac),(.int .i64 af),(.int .i64 cy),(.int .i64 dD)] H=fj.twX F mG mH aa ac af cy dD H:=by kernel_rfl
theorem fj.k:Ok Try.prog 177 (mk9 (fj.tw F)):=by
 intro args H v H' h
 unfold mk9 at h
 split at h
 ·exact okT (TB:=cE) Try.func177 (bH (dk.k F) (bH (dl.k F) dP)) ae.no ((fj.eqX F (dk.tw F) (dl.tw F) _ _ _ _ _ H).trans h) (by kernel_rfl)
 ·cases h
def gB.twX (F:Nat) (mH:ag7) (mG:ag7) (aa:Nat) (ac:Nat) (af:Int) (cy:Int) (dD:Int) (H:Hp):OA:=(Hp.ldI H .i64 aa (ac+6)).bind λn6=>(Hp.ldI H .i64 aa ((ac+6)+1)).bind λn7=>(Hp.ldSl H aa ((ac+6)+2)).bind λs8=>(mH aa ac n6 n7 s8 af cy dD H).bind λr9=>(Hp.ldI r9.2 .i64 aa (ac+9)).bind λn10=>(Hp.ldI r9.2 .i64 aa ((ac+9)+1)).bind λn11=>(Hp.ldSl r9.2 aa ((ac+9)+2)).bind λs12=>(mH aa ac n10 n11 s12 af cy dD r9.2).bind λr13=>(Hp.ldI r13.2 .i64 aa (ac+12)).bind λn14=>(Hp.ldI r13.2 .i64 aa ((ac+12)+1)).bind λn15=>(Hp.ldSl r13.2 aa ((ac+12)+2)).bind λs16=>(mG aa ac n14 n15 s16 cy af (wrap .i64 (0 - dD)) r13.2).bind λr17=>some ((.tup []),r17.2)
def gB.tw:=gB.twX F (dl.tw F) (dk.tw F)
def gB.cs (F:Nat) (mH:ag7) (mG:ag7):Cs:=[(212,mk8 mH),(211,mk8 mG)]
theorem gB.eqX (mH:ag7) (mG:ag7) (aa:Nat) (ac:Nat) (af:Int) (cy:Int) (dD:Int) (H:Hp):EX (cn (gB.cs F mH mG)) cE lh0 F Try.f208 [(.ptr aa ac),(.int .i64 af),(.int .i64 cy),(.int .i64 dD)] H=gB.twX F mH mG aa ac af cy dD H:=by kernel_rfl
theorem gB.k:Ok Try.prog 208 (mk9 (gB.tw F)):=by
 intro args H v H' h
 unfold mk9 at h
 split at h
 ·exact okT (TB:=cE) Try.func208 (bH (dl.k F) (bH (dk.k F) dP)) ae.no ((gB.eqX F (dl.tw F) (dk.tw F) _ _ _ _ _ H).trans h) (by kernel_rfl)
 ·cases h
def aU.j3 (F:Nat) (ah:agU) (fP:ag2) (du:ag5) (fT:ag5) (C15_:ahB) (XD:Nat) (XE:Nat) (vl:Int) (An:Nat) (XF:Nat) (vm:Int) (H119:Hp):OA:=C15_ XD XE vl An XF (wrap .i64 (vm+1)) H119
def aU.l15 (F:Nat) (ah:agU) (fP:ag2) (du:ag5) (fT:ag5) :Nat->Nat->Nat->Int->Nat->Nat->Int->Hp->OA
 | 0,_,_,_,_,_,_,_=>none
 | Mb+1,oq,ou,iS,lO,ov,kV,H61=>(Hp.ldI H61 .i64 lO (ov+1)).bind λn91=>(bif (decide (kV<n91)) then ((Hp.ldB H61 oq (ou+15)).bind λb92=>(bif (!b92) then ((Hp.ldI H61 .i64 lO ov).bind λn93=>(Hp.ldI H61 .i64 lO (ov+1)).bind λn94=>(Hp.ldSl H61 lO (ov+2)).bind λs95=>(ah n93 n94 s95 iS kV H61).bind λr96=>((r96.1).asP).bind λp97=>(if bk H61 r96.2 then ((Hp.ldI r96.2 .i64 p97.1 p97.2).bind λn98=>(Hp.ldI r96.2 .i64 lO ov).bind λn99=>(Hp.ldI r96.2 .i64 lO (ov+1)).bind λn100=>(Hp.ldSl r96.2 lO (ov+2)).bind λs101=>(ah n99 n100 s101 iS iS r96.2).bind λr102=>((r102.1).asP).bind λp103=>(if bk r96.2 r102.2 then ((Hp.ldI r102.2 .i64 p103.1 p103.2).bind λn104=>(fP n98 n104 r102.2).bind λr105=>((r105.1).asI .i64).bind λn106=>(bif (n106 != 0) then ((fT oq ou kV iS (wrap .i64 (0 - n106)) r105.2).bind λr107=>aU.j3 F ah fP du fT (aU.l15 F ah fP du fT Mb) oq ou iS lO ov kV r107.2) else (aU.j3 F ah fP du fT (aU.l15 F ah fP du fT Mb) oq ou iS lO ov kV r105.2))) else none)) else none)) else (some ((.tup []),H61)))) else (some ((.tup []),H61)))
termination_by structural n=>n
def aU.j4 (ah:agU) (fP:ag2) (du:ag5) (fT:ag5) (XG:Nat) (XH:Nat) (qv:Int) (Ao:Nat) (XI:Nat) (H52:Hp):OA:=aU.l15 F ah fP du fT F XG XH qv Ao XI (wrap .i64 (qv+1)) H52
def aU.j5 (F:Nat) (ah:agU) (fP:ag2) (du:ag5) (fT:ag5) (C13_:ahB) (XJ:Nat) (XK:Nat) (vn:Int) (Ap:Nat) (qb:Nat) (vo:Int) (H146:Hp):OA:=C13_ XJ XK vn Ap qb (wrap .i64 (vo+1)) H146
def aU.l13 (F:Nat) (ah:agU) (fP:ag2) (du:ag5) (fT:ag5) :Nat->Nat->Nat->Int->Nat->Nat->Int->Hp->OA
 | 0,_,_,_,_,_,_,_=>none
 | jB+1,gL,kF,eK,gQ,mZ,iz,H17=>(Hp.ldI H17 .i64 gQ mZ).bind λn120=>(bif (decide (iz<n120)) then ((Hp.ldB H17 gL (kF+15)).bind λb121=>(bif (!b121) then ((Hp.ldI H17 .i64 gQ mZ).bind λn122=>(Hp.ldI H17 .i64 gQ (mZ+1)).bind λn123=>(Hp.ldSl H17 gQ (mZ+2)).bind λs124=>(ah n122 n123 s124 iz eK H17).bind λr125=>((r125.1).asP).bind λp126=>(if bk H17 r125.2 then ((Hp.ldI r125.2 .i64 p126.1 p126.2).bind λn127=>(Hp.ldI r125.2 .i64 gQ mZ).bind λn128=>(Hp.ldI r125.2 .i64 gQ (mZ+1)).bind λn129=>(Hp.ldSl r125.2 gQ (mZ+2)).bind λs130=>(ah n128 n129 s130 eK eK r125.2).bind λr131=>((r131.1).asP).bind λp132=>(if bk r125.2 r131.2 then ((Hp.ldI r131.2 .i64 p132.1 p132.2).bind λn133=>(fP n127 n133 r131.2).bind λr134=>((r134.1).asI .i64).bind λn135=>(bif (n135 != 0) then ((du gL kF iz eK (wrap .i64 (0 - n135)) r134.2).bind λr136=>aU.j5 F ah fP du fT (aU.l13 F ah fP du fT jB) gL kF eK gQ mZ iz r136.2) else (aU.j5 F ah fP du fT (aU.l13 F ah fP du fT jB) gL kF eK gQ mZ iz r134.2))) else none)) else none)) else (aU.j4 F ah fP du fT gL kF eK gQ mZ H17))) else (aU.j4 F ah fP du fT gL kF eK gQ mZ H17))
termination_by structural n=>n
def aU.twX (ah:agU) (fP:ag2) (du:ag5) (fT:ag5) (aa:Nat) (ac:Nat) (af:Int) (H:Hp):OA:=(Hp.ldI H .i64 aa (ac+6)).bind λn4=>(Hp.ldI H .i64 aa ((ac+6)+1)).bind λn5=>(Hp.ldSl H aa ((ac+6)+2)).bind λs6=>(Hp.new H [.int .i64 0,.int .i64 0,.sl ⟨none,0,.ex 0⟩]).bind λH7=>(Hp.st H7 H.length 0 (.int .i64 n4)).bind λH8=>(Hp.st H8 H.length (0+1) (.int .i64 n5)).bind λH9=>(Hp.st H9 H.length (0+1+1) (.sl s6)).bind λH10=>aU.l13 F ah fP du fT F aa ac af H.length 0 (wrap .i64 (af+1)) H10
def aU.tw:=aU.twX F (bR.tw F) (hG.tw F) (fj.tw F) (gB.tw F)
def aU.lh13 (ah:agU) (fP:ag2) (du:ag5) (fT:ag5) (ks:ag0) (n:Nat) (tm:Tm) (H:Hp):OA:=match ks,tm 0,tm 1,tm 4,tm 5 with
 | [],(.ptr gL kF),(.int .i64 eK),(.ptr gQ mZ),(.int .i64 iz)=>aU.l13 F ah fP du fT n gL kF eK gQ mZ iz H
 | _,_,_,_,_=>none
def aU.lh15 (ah:agU) (fP:ag2) (du:ag5) (fT:ag5) (ks:ag0) (n:Nat) (tm:Tm) (H:Hp):OA:=match ks,tm 0,tm 1,tm 4,tm 7 with
 | [],(.ptr oq ou),(.int .i64 iS),(.ptr lO ov),(.int .i64 kV)=>aU.l15 F ah fP du fT n oq ou iS lO ov kV H
 | _,_,_,_,_=>none
def aU.lh (ah:agU) (fP:ag2) (du:ag5) (fT:ag5) (p:Nat) (ks:ag0) (n:Nat) (tm:Tm) (H:Hp):OA:=bif p.beq 15 then aU.lh15 F ah fP du fT ks n tm H else (bif p.beq 13 then aU.lh13 F ah fP du fT ks n tm H else (none))
def aU.pn:Nat->List Nat:=eL [(4,[12]),(10,[12])]
def aU.tb:Nat->List (List Nat):=eL [(4,[[],[],[],[0,1,2],[0,1,2,3],[0,1,2,3,4],[],[],[],[0,1,2,3,6,7,8],[0,1,2,3,6,7,8,9],[0,1,2,3,6,7,8,9,10],[0,1,2,3,4,5,6,7,8,9,10,11],[0,1,2,3,4,5,6,7,8,9,10,11,12]]),(10,[[],[],[],[0,1,2],[0,1,2,3],[0,1,2,3,4],[],[],[],[0,1,2,3,6,7,8],[0,1,2,3,6,7,8,9],[0,1,2,3,6,7,8,9,10],[0,1,2,3,4,5,6,7,8,9,10,11],[0,1,2,3,4,5,6,7,8,9,10,11,12]])]
def aU.cs (F:Nat) (ah:agU) (fP:ag2) (du:ag5) (fT:ag5):Cs:=[(75,mk6 ah),(207,mk2 fP),(177,mk9 du),(208,mk9 fT)]
theorem aU.loops (ah:agU) (fP:ag2) (du:ag5) (fT:ag5):LO (cn (aU.cs F ah fP du fT)) aU.pn (aU.lh F ah fP du fT) F Try.f174:=
 (ae.rt (ae.seq (ae.rt (ae.block (ae.la (λn tm H r h=>by change aU.lh13 F ah fP du fT [] n tm H=_ at h;unfold aU.lh13 at h;split at h;have e:eE tm [(0,_),(1,_),(4,_),(5,_)]:=⟨‹_›,‹_›,‹_›,‹_›,trivial⟩;obtain _ | k13:=n;cases h;exact ⟨_,rfl,by rw [<- eG e];exact Eq.trans (by kernel_rfl) h⟩;cases h) λk13=>ae.no))) (ae.rt (ae.block (ae.la (λn tm H r h=>by change aU.lh15 F ah fP du fT [] n tm H=_ at h;unfold aU.lh15 at h;split at h;have e:eE tm [(0,_),(1,_),(4,_),(7,_)]:=⟨‹_›,‹_›,‹_›,‹_›,trivial⟩;obtain _ | k15:=n;cases h;exact ⟨_,rfl,by rw [<- eG e];exact Eq.trans (by kernel_rfl) h⟩;cases h) λk15=>ae.no)))))
theorem aU.eqX (ah:agU) (fP:ag2) (du:ag5) (fT:ag5) (aa:Nat) (ac:Nat) (af:Int) (H:Hp):EX (cn (aU.cs F ah fP du fT)) aU.pn (aU.lh F ah fP du fT) F Try.f174 [(.ptr aa ac),(.int .i64 af)] H=aU.twX F ah fP du fT aa ac af H:=by kernel_rfl
theorem aU.k:Ok Try.prog 174 (mk1 (aU.tw F)):=by
 intro args H v H' h
 unfold mk1 at h
 split at h
 ·exact okT (TB:=aU.tb) Try.func174 (bH (bR.k F) (bH (hG.k F) (bH (fj.k F) (bH (gB.k F) dP)))) (aU.loops F (bR.tw F) (hG.tw F) (fj.tw F) (gB.tw F)) ((aU.eqX F (bR.tw F) (hG.tw F) (fj.tw F) (gB.tw F) _ _ _ H).trans h) (by kernel_rfl)
 ·cases h
def jG.twX (F:Nat) (aa:Int) (H:Hp):OA:=some ((.bool (aa != 0)),H)
def jG.tw:=jG.twX F
theorem jG.k:Ok Try.prog 209 (mk5 (jG.tw F)):=by
 intro args H v H' h
 unfold mk5 at h
 split at h
 ·exact ok0 Try.func209 (Eq.trans (by kernel_rfl) h) (by kernel_rfl) (by kernel_rfl)
 ·cases h
def el.l13 (F:Nat) (kG:agY) :Nat->Sl->Int->Int->Hp->OA
 | 0,_,_,_,_=>none
 | jB+1,ki,eN,dG,H6=>(bif (decide (dG<eN)) then ((Sl.idx ki dG 1).bind λp11=>(Hp.ldI H6 .i64 p11.1 p11.2).bind λn12=>(kG n12 H6).bind λr13=>((r13.1).asB).bind λb14=>(bif b14 then (some ((.int .i64 dG),r13.2)) else (el.l13 F kG jB ki eN (wrap .i64 (dG+1)) r13.2))) else (some ((.int .i64 (-1)),H6)))
def el.twX (kG:agY) (aa:Sl) (H:Hp):OA:=el.l13 F kG F aa (aa.n:Int) 0 H
def el.tw:=el.twX F (jG.tw F)
def el.lh13 (kG:agY) (ks:ag0) (n:Nat) (tm:Tm) (H:Hp):OA:=match ks,tm 0,tm 1,tm 7,tm 8 with
 | [],(.sl ki),(.fn 209 []),(.int .i64 eN),(.int .i64 dG)=>el.l13 F kG n ki eN dG H
 | _,_,_,_,_=>none
def el.lh (kG:agY) (p:Nat) (ks:ag0) (n:Nat) (tm:Tm) (H:Hp):OA:=bif p.beq 13 then el.lh13 F kG ks n tm H else (none)
def mk17 (g:agZ) (args:ag3) (H:Hp):OA:=match args with
 | [(.sl aa),(.fn 209 [])]=>g aa H
 | _=>none
theorem mk17_E (g:agZ) (aa:Sl) (H:Hp):mk17 g [(.sl aa),(.fn 209 [])] H=g aa H:=rfl
def el.cs (F:Nat) (kG:agY):Cs:=[(209,mk5 kG)]
theorem el.loops (kG:agY):LO (cn (el.cs F kG)) cE (el.lh F kG) F Try.f122:=
 (ae.rt (ae.lt (ae.rt (ae.block (ae.la (λn tm H r h=>by change el.lh13 F kG [] n tm H=_ at h;unfold el.lh13 at h;split at h;have e:eE tm [(0,_),(1,_),(7,_),(8,_)]:=⟨‹_›,‹_›,‹_›,‹_›,trivial⟩;obtain _ | k13:=n;cases h;exact ⟨_,rfl,by rw [<- eG e];exact Eq.trans (by kernel_rfl) h⟩;cases h) λk13=>ae.no)))))
theorem el.eqX (kG:agY) (aa:Sl) (H:Hp):EX (cn (el.cs F kG)) cE (el.lh F kG) F Try.f122 [(.sl aa),(.fn 209 [])] H=el.twX F kG aa H:=by kernel_rfl
theorem el.k:Ok Try.prog 122 (mk17 (el.tw F)):=by
 intro args H v H' h
 unfold mk17 at h
 split at h
 ·exact okT (TB:=cE) Try.func122 (bH (jG.k F) dP) (el.loops F (jG.tw F)) ((el.eqX F (jG.tw F) _ H).trans h) (by kernel_rfl)
 ·cases h
def ic.twX (F:Nat) (vp:agZ) (aa:Sl) (H:Hp):OA:=(vp aa H).bind λr2=>((r2.1).asI .i64).bind λn3=>some ((.bool (decide (n3>=0))),r2.2)
def ic.tw:=ic.twX F (el.tw F)
def ic.cs (F:Nat) (vp:agZ):Cs:=[(122,mk17 vp)]
theorem ic.eqX (vp:agZ) (aa:Sl) (H:Hp):EX (cn (ic.cs F vp)) cE lh0 F Try.f65 [(.sl aa),(.fn 209 [])] H=ic.twX F vp aa H:=by kernel_rfl
theorem ic.k:Ok Try.prog 65 (mk17 (ic.tw F)):=by
 intro args H v H' h
 unfold mk17 at h
 split at h
 ·exact okT (TB:=cE) Try.func65 (bH (el.k F) dP) ae.no ((ic.eqX F (el.tw F) _ H).trans h) (by kernel_rfl)
 ·cases h
def dg.j1 (F:Nat) (ah:agU) (cR:ag9) (jR:agZ) (qw:Int) (vq:Nat) (D_:Nat) (H34:Hp):OA:=(Hp.ldI H34 .i64 vq D_).bind λn35=>(Hp.ldI H34 .i64 vq (D_+1)).bind λn36=>(Hp.ldSl H34 vq (D_+2)).bind λs37=>(cR n35 n36 s37 qw H34).bind λr38=>((r38.1).asSl).bind λs39=>(Sl.cut s39 1 (wrap .i64 (qw+1)) (s39.n:Int)).bind λs40=>(jR s40 r38.2).bind λr41=>((r41.1).asB).bind λb42=>some ((.bool (!b42)),r41.2)
def dg.l29 (F:Nat) (ah:agU) (cR:ag9) (jR:agZ) :Nat->Int->Nat->Nat->Int->Hp->OA
 | 0,_,_,_,_,_=>none
 | hJ+1,eK,iR,iz,m_,H18=>(Hp.ldI H18 .i64 iR iz).bind λn43=>(bif (decide (m_<n43)) then ((Hp.ldI H18 .i64 iR iz).bind λn44=>(Hp.ldI H18 .i64 iR (iz+1)).bind λn45=>(Hp.ldSl H18 iR (iz+2)).bind λs46=>(ah n44 n45 s46 m_ eK H18).bind λr47=>((r47.1).asP).bind λp48=>(Hp.ldI r47.2 .i64 p48.1 p48.2).bind λn49=>(bif (n49 != 0) then (some ((.bool false),r47.2)) else (dg.l29 F ah cR jR hJ eK iR iz (wrap .i64 (m_+1)) r47.2))) else (dg.j1 F ah cR jR eK iR iz H18))
termination_by structural n=>n
def dg.twX (ah:agU) (cR:ag9) (jR:agZ) (aa:Nat) (ac:Nat) (af:Int) (H:Hp):OA:=(Hp.ldI H .i64 aa (ac+6)).bind λn4=>(Hp.ldI H .i64 aa ((ac+6)+1)).bind λn5=>(Hp.ldSl H aa ((ac+6)+2)).bind λs6=>(Hp.new H [.int .i64 0,.int .i64 0,.sl ⟨none,0,.ex 0⟩]).bind λH7=>(Hp.st H7 H.length 0 (.int .i64 n4)).bind λH8=>(Hp.st H8 H.length (0+1) (.int .i64 n5)).bind λH9=>(Hp.st H9 H.length (0+1+1) (.sl s6)).bind λH10=>dg.l29 F ah cR jR F af H.length 0 (wrap .i64 (af+1)) H10
def dg.tw:=dg.twX F (bR.tw F) (fi.tw F) (ic.tw F)
def dg.lh29 (ah:agU) (cR:ag9) (jR:agZ) (ks:ag0) (n:Nat) (tm:Tm) (H:Hp):OA:=match ks,tm 1,tm 5,tm 6 with
 | [],(.int .i64 eK),(.ptr iR iz),(.int .i64 m_)=>dg.l29 F ah cR jR n eK iR iz m_ H
 | _,_,_,_=>none
def dg.lh (ah:agU) (cR:ag9) (jR:agZ) (p:Nat) (ks:ag0) (n:Nat) (tm:Tm) (H:Hp):OA:=bif p.beq 29 then dg.lh29 F ah cR jR ks n tm H else (none)
def dg.cs (F:Nat) (ah:agU) (cR:ag9) (jR:agZ):Cs:=[(75,mk6 ah),(128,mk15 cR),(65,mk17 jR)]
theorem dg.loops (ah:agU) (cR:ag9) (jR:agZ):LO (cn (dg.cs F ah cR jR)) cE (dg.lh F ah cR jR) F Try.f175:=
 (ae.rt (ae.rt (ae.lt (ae.rt (ae.block (ae.la (λn tm H r h=>by change dg.lh29 F ah cR jR [] n tm H=_ at h;unfold dg.lh29 at h;split at h;have e:eE tm [(1,_),(5,_),(6,_)]:=⟨‹_›,‹_›,‹_›,trivial⟩;obtain _ | k29:=n;cases h;exact ⟨_,rfl,by rw [<- eG e];exact Eq.trans (by kernel_rfl) h⟩;cases h) λk29=>ae.no))))))
theorem dg.eqX (ah:agU) (cR:ag9) (jR:agZ) (aa:Nat) (ac:Nat) (af:Int) (H:Hp):EX (cn (dg.cs F ah cR jR)) cE (dg.lh F ah cR jR) F Try.f175 [(.ptr aa ac),(.int .i64 af)] H=dg.twX F ah cR jR aa ac af H:=by kernel_rfl
theorem dg.k:Ok Try.prog 175 (mk1 (dg.tw F)):=by
 intro args H v H' h
 unfold mk1 at h
 split at h
 ·exact okT (TB:=cE) Try.func175 (bH (bR.k F) (bH (fi.k F) (bH (ic.k F) dP))) (dg.loops F (bR.tw F) (fi.tw F) (ic.tw F)) ((dg.eqX F (bR.tw F) (fi.tw F) (ic.tw F) _ _ _ H).trans h) (by kernel_rfl)
 ·cases h
def iA.twX (F:Nat) (ah:agU) (aa:Int) (aQ:Nat) (af:Nat) (cy:Nat) (cG:Nat) (H:Hp):OA:=(Hp.ldI H .i64 aQ af).bind λn6=>(Hp.ldI H .i64 aQ (af+1)).bind λn7=>(Hp.ldSl H aQ (af+2)).bind λs8=>(Hp.ldI H .i64 cy cG).bind λn9=>(Hp.ldI H .i64 cy cG).bind λn10=>(ah n6 n7 s8 n9 n10 H).bind λr11=>((r11.1).asP).bind λp12=>(Hp.ldI r11.2 .i64 p12.1 p12.2).bind λn13=>(if n13=0 then none else (some ((.bool ((Int.tmod aa n13) != 0)),r11.2)))
def iA.tw:=iA.twX F (bR.tw F)
def mk18 (g:ahi) (args:ag3) (H:Hp):OA:=match args with
 | [(.int .i64 aa),(.ptr aQ af),(.ptr cy cG)]=>g aa aQ af cy cG H
 | _=>none
theorem mk18_E (g:ahi) (aa:Int) (aQ:Nat) (af:Nat) (cy:Nat) (cG:Nat) (H:Hp):mk18 g [(.int .i64 aa),(.ptr aQ af),(.ptr cy cG)] H=g aa aQ af cy cG H:=rfl
def iA.cs (F:Nat) (ah:agU):Cs:=[(75,mk6 ah)]
theorem iA.eqX (ah:agU) (aa:Int) (aQ:Nat) (af:Nat) (cy:Nat) (cG:Nat) (H:Hp):EX (cn (iA.cs F ah)) cE lh0 F Try.f210 [(.int .i64 aa),(.ptr aQ af),(.ptr cy cG)] H=iA.twX F ah aa aQ af cy cG H:=by kernel_rfl
theorem iA.k:Ok Try.prog 210 (mk18 (iA.tw F)):=by
 intro args H v H' h
 unfold mk18 at h
 split at h
 ·exact okT (TB:=cE) Try.func210 (bH (bR.k F) dP) ae.no ((iA.eqX F (bR.tw F) _ _ _ _ _ H).trans h) (by kernel_rfl)
 ·cases h
def en.l13 (F:Nat) (kH:ahi) :Nat->Sl->Nat->Nat->Nat->Nat->Int->Int->Hp->OA
 | 0,_,_,_,_,_,_,_,_=>none
 | jB+1,ke,aQ,af,aA,cu,ox,lP,H10=>(bif (decide (lP<ox)) then ((Sl.idx ke lP 1).bind λp15=>(Hp.ldI H10 .i64 p15.1 p15.2).bind λn16=>(kH n16 aQ af aA cu H10).bind λr17=>((r17.1).asB).bind λb18=>(bif b18 then (some ((.int .i64 lP),r17.2)) else (en.l13 F kH jB ke aQ af aA cu ox (wrap .i64 (lP+1)) r17.2))) else (some ((.int .i64 (-1)),H10)))
termination_by structural n=>n
def en.twX (kH:ahi) (aa:Sl) (aQ:Nat) (af:Nat) (aA:Nat) (cu:Nat) (H:Hp):OA:=en.l13 F kH F aa aQ af aA cu (aa.n:Int) 0 H
def en.tw:=en.twX F (iA.tw F)
def en.lh13 (kH:ahi) (ks:ag0) (n:Nat) (tm:Tm) (H:Hp):OA:=match ks,tm 0,tm 1,tm 7,tm 8 with
 | [],(.sl ke),(.fn 210 [(.ptr aQ af),(.ptr aA cu)]),(.int .i64 ox),(.int .i64 lP)=>en.l13 F kH n ke aQ af aA cu ox lP H
 | _,_,_,_,_=>none
def en.lh (kH:ahi) (p:Nat) (ks:ag0) (n:Nat) (tm:Tm) (H:Hp):OA:=bif p.beq 13 then en.lh13 F kH ks n tm H else (none)
def mk19 (g:ahe) (args:ag3) (H:Hp):OA:=match args with
 | [(.sl aa),(.fn 210 [(.ptr aQ af),(.ptr aA cu)])]=>g aa aQ af aA cu H
 | _=>none
theorem mk19_E (g:ahe) (aa:Sl) (aQ:Nat) (af:Nat) (aA:Nat) (cu:Nat) (H:Hp):mk19 g [(.sl aa),(.fn 210 [(.ptr aQ af),(.ptr aA cu)])] H=g aa aQ af aA cu H:=rfl
def en.cs (F:Nat) (kH:ahi):Cs:=[(210,mk18 kH)]
theorem en.loops (kH:ahi):LO (cn (en.cs F kH)) cE (en.lh F kH) F Try.f122:=
 (ae.rt (ae.lt (ae.rt (ae.block (ae.la (λn tm H r h=>by change en.lh13 F kH [] n tm H=_ at h;unfold en.lh13 at h;split at h;have e:eE tm [(0,_),(1,_),(7,_),(8,_)]:=⟨‹_›,‹_›,‹_›,‹_›,trivial⟩;obtain _ | k13:=n;cases h;exact ⟨_,rfl,by rw [<- eG e];exact Eq.trans (by kernel_rfl) h⟩;cases h) λk13=>ae.no)))))
theorem en.eqX (kH:ahi) (aa:Sl) (aQ:Nat) (af:Nat) (aA:Nat) (cu:Nat) (H:Hp):EX (cn (en.cs F kH)) cE (en.lh F kH) F Try.f122 [(.sl aa),(.fn 210 [(.ptr aQ af),(.ptr aA cu)])] H=en.twX F kH aa aQ af aA cu H:=by kernel_rfl
theorem en.k:Ok Try.prog 122 (mk19 (en.tw F)):=by
 intro args H v H' h
 unfold mk19 at h
 split at h
 ·exact okT (TB:=cE) Try.func122 (bH (iA.k F) dP) (en.loops F (iA.tw F)) ((en.eqX F (iA.tw F) _ _ _ _ _ H).trans h) (by kernel_rfl)
 ·cases h
def iB.twX (F:Nat) (vt:ahe) (aa:Sl) (aQ:Nat) (af:Nat) (aA:Nat) (cu:Nat) (H:Hp):OA:=(vt aa aQ af aA cu H).bind λr6=>((r6.1).asI .i64).bind λn7=>some ((.bool (decide (n7>=0))),r6.2)
def iB.tw:=iB.twX F (en.tw F)
def iB.cs (F:Nat) (vt:ahe):Cs:=[(122,mk19 vt)]
theorem iB.eqX (vt:ahe) (aa:Sl) (aQ:Nat) (af:Nat) (aA:Nat) (cu:Nat) (H:Hp):EX (cn (iB.cs F vt)) cE lh0 F Try.f65 [(.sl aa),(.fn 210 [(.ptr aQ af),(.ptr aA cu)])] H=iB.twX F vt aa aQ af aA cu H:=by kernel_rfl
theorem iB.k:Ok Try.prog 65 (mk19 (iB.tw F)):=by
 intro args H v H' h
 unfold mk19 at h
 split at h
 ·exact okT (TB:=cE) Try.func65 (bH (en.k F) dP) ae.no ((iB.eqX F (en.tw F) _ _ _ _ _ H).trans h) (by kernel_rfl)
 ·cases h
def dw.l29 (F:Nat) (cR:ag9) (kI:ahe) :Nat->Nat->Nat->Nat->Nat->Int->Hp->OA
 | 0,_,_,_,_,_,_=>none
 | hJ+1,gh,gj,nr,qx,lQ,H22=>(Hp.ldI H22 .i64 nr qx).bind λn33=>(bif (decide (lQ<n33)) then ((Hp.ldI H22 .i64 nr qx).bind λn34=>(Hp.ldI H22 .i64 nr (qx+1)).bind λn35=>(Hp.ldSl H22 nr (qx+2)).bind λs36=>(cR n34 n35 s36 lQ H22).bind λr37=>((r37.1).asSl).bind λs38=>(if bk H22 r37.2 then ((Hp.ldI r37.2 .i64 gh gj).bind λn39=>(Sl.cut s38 1 (wrap .i64 (n39+1)) (s38.n:Int)).bind λs40=>(kI s40 nr qx gh gj r37.2).bind λr41=>((r41.1).asB).bind λb42=>(bif b42 then (some ((.int .i64 lQ),r41.2)) else (dw.l29 F cR kI hJ gh gj nr qx (wrap .i64 (lQ+1)) r41.2))) else none)) else (some ((.int .i64 (-1)),H22)))
termination_by structural n=>n
def dw.twX (cR:ag9) (kI:ahe) (aa:Nat) (ac:Nat) (af:Int) (H:Hp):OA:=(Hp.new H [(.int .i64 af)]).bind λH4=>(Hp.ldI H4 .i64 aa (ac+6)).bind λn5=>(Hp.ldI H4 .i64 aa ((ac+6)+1)).bind λn6=>(Hp.ldSl H4 aa ((ac+6)+2)).bind λs7=>(Hp.new H4 [.int .i64 0,.int .i64 0,.sl ⟨none,0,.ex 0⟩]).bind λH8=>(Hp.st H8 H4.length 0 (.int .i64 n5)).bind λH9=>(Hp.st H9 H4.length (0+1) (.int .i64 n6)).bind λH10=>(Hp.st H10 H4.length (0+1+1) (.sl s7)).bind λH11=>(Hp.ldI H11 .i64 H.length 0).bind λn12=>dw.l29 F cR kI F H.length 0 H4.length 0 (wrap .i64 (n12+1)) H11
def dw.tw:=dw.twX F (fi.tw F) (iB.tw F)
def dw.lh29 (cR:ag9) (kI:ahe) (ks:ag0) (n:Nat) (tm:Tm) (H:Hp):OA:=match ks,tm 3,tm 5,tm 6 with
 | [],(.ptr gh gj),(.ptr nr qx),(.int .i64 lQ)=>dw.l29 F cR kI n gh gj nr qx lQ H
 | _,_,_,_=>none
def dw.lh (cR:ag9) (kI:ahe) (p:Nat) (ks:ag0) (n:Nat) (tm:Tm) (H:Hp):OA:=bif p.beq 29 then dw.lh29 F cR kI ks n tm H else (none)
def dw.pn:Nat->List Nat:=eL [(5,[7])]
def dw.tb:Nat->List (List Nat):=eL [(5,[[],[],[0,1],[],[3],[0,1,2,3,4],[],[0,1,2,3,4,5,6]])]
def dw.cs (F:Nat) (cR:ag9) (kI:ahe):Cs:=[(128,mk15 cR),(65,mk19 kI)]
theorem dw.loops (cR:ag9) (kI:ahe):LO (cn (dw.cs F cR kI)) dw.pn (dw.lh F cR kI) F Try.f176:=
 (ae.rt (ae.rt (ae.lt (ae.rt (ae.block (ae.la (λn tm H r h=>by change dw.lh29 F cR kI [] n tm H=_ at h;unfold dw.lh29 at h;split at h;have e:eE tm [(3,_),(5,_),(6,_)]:=⟨‹_›,‹_›,‹_›,trivial⟩;obtain _ | k29:=n;cases h;exact ⟨_,rfl,by rw [<- eG e];exact Eq.trans (by kernel_rfl) h⟩;cases h) λk29=>ae.no))))))
theorem dw.eqX (cR:ag9) (kI:ahe) (aa:Nat) (ac:Nat) (af:Int) (H:Hp):EX (cn (dw.cs F cR kI)) dw.pn (dw.lh F cR kI) F Try.f176 [(.ptr aa ac),(.int .i64 af)] H=dw.twX F cR kI aa ac af H:=by kernel_rfl
theorem dw.k:Ok Try.prog 176 (mk1 (dw.tw F)):=by
 intro args H v H' h
 unfold mk1 at h
 split at h
 ·exact okT (TB:=dw.tb) Try.func176 (bH (fi.k F) (bH (iB.k F) dP)) (dw.loops F (fi.tw F) (iB.tw F)) ((dw.eqX F (fi.tw F) (iB.tw F) _ _ _ H).trans h) (by kernel_rfl)
 ·cases h
def bw.j4 (F:Nat) (gR:agW) (gS:agW) (gT:agW) (gU:agW) (du:ag5) (C3_:agW) (XL:Nat) (XM:Nat) (vu:Int) (H57:Hp):OA:=C3_ XL XM vu H57
def bw.j5 (F:Nat) (gR:agW) (gS:agW) (gT:agW) (gU:agW) (du:ag5) (C3_:agW) (XN:Nat) (DU:Nat) (vv:Int) (H80:Hp):OA:=C3_ XN DU vv H80
def bw.j6 (gR:agW) (gS:agW) (gT:agW) (gU:agW) (du:ag5) (C3_:agW) (ua:Nat) (ub:Nat) (vw:Int) (H71:Hp):OA:=bw.j5 F gR gS gT gU du C3_ ua ub vw H71
def bw.l3 (F:Nat) (gR:agW) (gS:agW) (gT:agW) (gU:agW) (du:ag5) :Nat->Nat->Nat->Int->Hp->OA
 | 0,_,_,_,_=>none
 | Aq+1,jA,fb,ig,H6=>(Hp.ldB H6 jA (fb+15)).bind λb44=>(bif (!b44) then ((Hp.ldI H6 .i64 jA (fb+6)).bind λn45=>(Hp.ldI H6 .i64 jA ((fb+6)+1)).bind λn46=>(bif (decide (ig<(if n46<n45 then n46 else n45))) then ((gR jA fb ig H6).bind λr47=>((r47.1).asB).bind λb48=>(bif (!b48) then (some ((.tup []),r47.2)) else ((gS jA fb ig r47.2).bind λr49=>(Hp.ldB r49.2 jA (fb+15)).bind λb50=>(bif b50 then (bw.j4 F gR gS gT gU du (bw.l3 F gR gS gT gU du Aq) jA fb ig r49.2) else ((gT jA fb ig r49.2).bind λr58=>((r58.1).asB).bind λb59=>(bif (!b59) then (bw.j4 F gR gS gT gU du (bw.l3 F gR gS gT gU du Aq) jA fb ig r58.2) else ((gU jA fb ig r58.2).bind λr60=>((r60.1).asI .i64).bind λn61=>(bif (decide (n61>=0)) then ((du jA fb ig n61 1 r60.2).bind λr62=>bw.j6 F gR gS gT gU du (bw.l3 F gR gS gT gU du Aq) jA fb ig r62.2) else (bw.j6 F gR gS gT gU du (bw.l3 F gR gS gT gU du Aq) jA fb (wrap .i64 (ig+1)) r60.2))))))))) else (some ((.tup []),H6)))) else (some ((.tup []),H6)))
termination_by structural n=>n
def bw.twX (gR:agW) (gS:agW) (gT:agW) (gU:agW) (du:ag5) (aa:Nat) (ac:Nat) (H:Hp):OA:=bw.l3 F gR gS gT gU du F aa ac 0 H
def bw.tw:=bw.twX F (bS.tw F) (aU.tw F) (dg.tw F) (dw.tw F) (fj.tw F)
def bw.lh3 (gR:agW) (gS:agW) (gT:agW) (gU:agW) (du:ag5) (ks:ag0) (n:Nat) (tm:Tm) (H:Hp):OA:=match ks,tm 0,tm 2 with
 | [],(.ptr jA fb),(.int .i64 ig)=>bw.l3 F gR gS gT gU du n jA fb ig H
 | _,_,_=>none
def bw.lh (gR:agW) (gS:agW) (gT:agW) (gU:agW) (du:ag5) (p:Nat) (ks:ag0) (n:Nat) (tm:Tm) (H:Hp):OA:=bif p.beq 3 then bw.lh3 F gR gS gT gU du ks n tm H else (none)
def bw.tb:Nat->List (List Nat):=eL [(1,[[],[0],[0,1],[0,1,2],[0,1,2,3],[0,1,2,3,4],[0,1,2,3,4,5],[0,1,2,3,4,5],[0,1,2,3,4,5,7],[0,1,2,3,4,5,7,8],[0,1,2,3,4,5,7,8,9],[0,1,2,3,4,5,7,8,9,10],[0,1,2,3,4,5,7,8,9,10,11],[0,1,2,3,4,5],[0,1,2,3,4,5,13],[0,1,2,3,4,5,13,14],[0,1,2,3,4,5,13,14,15],[0,1,2,3,4,5,13,14,15,16],[0,1,2,3,4,5,13,14,15,16,17],[0,1,2,3,4,5,7,8,9,10,11,12,13,14,15,16,17,18],[0,1,2,3,4,5,6,7,8,9,10,11,12,13,14,15,16,17,18,19],[0,1,2,3,4,5,6,7,8,9,10,11,12,13,14,15,16,17,18,19,20]])]
def bw.cs (F:Nat) (gR:agW) (gS:agW) (gT:agW) (gU:agW) (du:ag5):Cs:=[(173,mk1 gR),(174,mk1 gS),(175,mk1 gT),(176,mk1 gU),(177,mk9 du)]
theorem bw.loops (gR:agW) (gS:agW) (gT:agW) (gU:agW) (du:ag5):LO (cn (bw.cs F gR gS gT gU du)) cE (bw.lh F gR gS gT gU du) F Try.f133:=
 (ae.rt (ae.block (ae.la (λn tm H r h=>by change bw.lh3 F gR gS gT gU du [] n tm H=_ at h;unfold bw.lh3 at h;split at h;have e:eE tm [(0,_),(2,_)]:=⟨‹_›,‹_›,trivial⟩;obtain _ | k3:=n;cases h;exact ⟨_,rfl,by rw [<- eG e];exact Eq.trans (by kernel_rfl) h⟩;cases h) λk3=>ae.no)))
theorem bw.eqX (gR:agW) (gS:agW) (gT:agW) (gU:agW) (du:ag5) (aa:Nat) (ac:Nat) (H:Hp):EX (cn (bw.cs F gR gS gT gU du)) cE (bw.lh F gR gS gT gU du) F Try.f133 [(.ptr aa ac)] H=bw.twX F gR gS gT gU du aa ac H:=by kernel_rfl
theorem bw.k:Ok Try.prog 133 (mk4 (bw.tw F)):=by
 intro args H v H' h
 unfold mk4 at h
 split at h
 ·exact okT (TB:=bw.tb) Try.func133 (bH (bS.k F) (bH (aU.k F) (bH (dg.k F) (bH (dw.k F) (bH (fj.k F) dP))))) (bw.loops F (bS.tw F) (aU.tw F) (dg.tw F) (dw.tw F) (fj.tw F)) ((bw.eqX F (bS.tw F) (aU.tw F) (dg.tw F) (dw.tw F) (fj.tw F) _ _ H).trans h) (by kernel_rfl)
 ·cases h
def gN.twX (F:Nat) (vx:ag4) (vy:ag_) (aa:Int) (ac:Int) (bM:Sl) (H:Hp):OA:=(Hp.new H [(.int .i64 aa),(.int .i64 ac),(.sl bM)]).bind λH4=>(Hp.new H4 [.int .i64 0,.int .i64 0,.sl ⟨none,0,.ex 0⟩,.int .i64 0,.int .i64 0,.sl ⟨none,0,.ex 0⟩,.int .i64 0,.int .i64 0,.sl ⟨none,0,.ex 0⟩,.int .i64 0,.int .i64 0,.sl ⟨none,0,.ex 0⟩,.int .i64 0,.int .i64 0,.sl ⟨none,0,.ex 0⟩]).bind λH5=>(Hp.ldI H5 .i64 H.length 0).bind λn6=>(Hp.ldI H5 .i64 H.length (0+1)).bind λn7=>(Hp.ldSl H5 H.length (0+2)).bind λs8=>(vx n6 n7 s8 H5).bind λr9=>((r9.1).asP).bind λp10=>(vy p10.1 p10.2 r9.2).bind λr11=>(Hp.ldB r11.2 p10.1 (p10.2+15)).bind λb12=>(bif b12 then ((Hp.st r11.2 H4.length 0 (.int .i64 0)).bind λH13=>(Hp.st H13 H4.length (0+1) (.int .i64 0)).bind λH14=>(Hp.st H14 H4.length (0+1+1) (.sl (⟨none,0,.ex 0⟩:Sl))).bind λH15=>(Hp.st H15 H4.length (0+1+1+1) (.int .i64 0)).bind λH16=>(Hp.st H16 H4.length (0+1+1+1+1) (.int .i64 0)).bind λH17=>(Hp.st H17 H4.length (0+1+1+1+1+1) (.sl (⟨none,0,.ex 0⟩:Sl))).bind λH18=>(Hp.st H18 H4.length (0+1+1+1+1+1+1) (.int .i64 0)).bind λH19=>(Hp.st H19 H4.length (0+1+1+1+1+1+1+1) (.int .i64 0)).bind λH20=>(Hp.st H20 H4.length (0+1+1+1+1+1+1+1+1) (.sl (⟨none,0,.ex 0⟩:Sl))).bind λH21=>(Hp.st H21 H4.length (0+1+1+1+1+1+1+1+1+1) (.int .i64 0)).bind λH22=>(Hp.st H22 H4.length (0+1+1+1+1+1+1+1+1+1+1) (.int .i64 0)).bind λH23=>(Hp.st H23 H4.length (0+1+1+1+1+1+1+1+1+1+1+1) (.sl (⟨none,0,.ex 0⟩:Sl))).bind λH24=>(Hp.st H24 H4.length (0+1+1+1+1+1+1+1+1+1+1+1+1) (.int .i64 0)).bind λH25=>(Hp.st H25 H4.length (0+1+1+1+1+1+1+1+1+1+1+1+1+1) (.int .i64 0)).bind λH26=>(Hp.st H26 H4.length (0+1+1+1+1+1+1+1+1+1+1+1+1+1+1) (.sl (⟨none,0,.ex 0⟩:Sl))).bind λH27=>(Hp.ldI H27 .i64 H4.length 0).bind λn28=>(Hp.ldI H27 .i64 H4.length (0+1)).bind λn29=>(Hp.ldSl H27 H4.length (0+2)).bind λs30=>(Hp.ldI H27 .i64 H4.length (0+3)).bind λn31=>(Hp.ldI H27 .i64 H4.length (0+4)).bind λn32=>(Hp.ldSl H27 H4.length (0+5)).bind λs33=>(Hp.ldI H27 .i64 H4.length (0+6)).bind λn34=>(Hp.ldI H27 .i64 H4.length (0+7)).bind λn35=>(Hp.ldSl H27 H4.length (0+8)).bind λs36=>(Hp.ldI H27 .i64 H4.length (0+9)).bind λn37=>(Hp.ldI H27 .i64 H4.length (0+10)).bind λn38=>(Hp.ldSl H27 H4.length (0+11)).bind λs39=>(Hp.ldI H27 .i64 H4.length (0+12)).bind λn40=>(Hp.ldI H27 .i64 H4.length (0+13)).bind λn41=>(Hp.ldSl H27 H4.length (0+14)).bind λs42=>some ((.tup [(.agg [(.int .i64 n28),(.int .i64 n29),(.sl s30),(.int .i64 n31),(.int .i64 n32),(.sl s33),(.int .i64 n34),(.int .i64 n35),(.sl s36),(.int .i64 n37),(.int .i64 n38),(.sl s39),(.int .i64 n40),(.int .i64 n41),(.sl s42)]),(.int .i64 3)]),H27)) else ((Hp.ldI r11.2 .i64 p10.1 p10.2).bind λn43=>(Hp.ldI r11.2 .i64 p10.1 (p10.2+1)).bind λn44=>(Hp.ldSl r11.2 p10.1 (p10.2+2)).bind λs45=>(Hp.ldI r11.2 .i64 p10.1 (p10.2+3)).bind λn46=>(Hp.ldI r11.2 .i64 p10.1 (p10.2+4)).bind λn47=>(Hp.ldSl r11.2 p10.1 (p10.2+5)).bind λs48=>(Hp.ldI r11.2 .i64 p10.1 (p10.2+6)).bind λn49=>(Hp.ldI r11.2 .i64 p10.1 (p10.2+7)).bind λn50=>(Hp.ldSl r11.2 p10.1 (p10.2+8)).bind λs51=>(Hp.ldI r11.2 .i64 p10.1 (p10.2+9)).bind λn52=>(Hp.ldI r11.2 .i64 p10.1 (p10.2+10)).bind λn53=>(Hp.ldSl r11.2 p10.1 (p10.2+11)).bind λs54=>(Hp.ldI r11.2 .i64 p10.1 (p10.2+12)).bind λn55=>(Hp.ldI r11.2 .i64 p10.1 (p10.2+13)).bind λn56=>(Hp.ldSl r11.2 p10.1 (p10.2+14)).bind λs57=>(Hp.st r11.2 H4.length 0 (.int .i64 n43)).bind λH58=>(Hp.st H58 H4.length (0+1) (.int .i64 n44)).bind λH59=>(Hp.st H59 H4.length (0+1+1) (.sl s45)).bind λH60=>(Hp.st H60 H4.length (0+1+1+1) (.int .i64 n46)).bind λH61=>(Hp.st H61 H4.length (0+1+1+1+1) (.int .i64 n47)).bind λH62=>(Hp.st H62 H4.length (0+1+1+1+1+1) (.sl s48)).bind λH63=>(Hp.st H63 H4.length (0+1+1+1+1+1+1) (.int .i64 n49)).bind λH64=>(Hp.st H64 H4.length (0+1+1+1+1+1+1+1) (.int .i64 n50)).bind λH65=>(Hp.st H65 H4.length (0+1+1+1+1+1+1+1+1) (.sl s51)).bind λH66=>(Hp.st H66 H4.length (0+1+1+1+1+1+1+1+1+1) (.int .i64 n52)).bind λH67=>(Hp.st H67 H4.length (0+1+1+1+1+1+1+1+1+1+1) (.int .i64 n53)).bind λH68=>(Hp.st H68 H4.length (0+1+1+1+1+1+1+1+1+1+1+1) (.sl s54)).bind λH69=>(Hp.st H69 H4.length (0+1+1+1+1+1+1+1+1+1+1+1+1) (.int .i64 n55)).bind λH70=>(Hp.st H70 H4.length (0+1+1+1+1+1+1+1+1+1+1+1+1+1) (.int .i64 n56)).bind λH71=>(Hp.st H71 H4.length (0+1+1+1+1+1+1+1+1+1+1+1+1+1+1) (.sl s57)).bind λH72=>(Hp.ldI H72 .i64 H4.length 0).bind λn73=>(Hp.ldI H72 .i64 H4.length (0+1)).bind λn74=>(Hp.ldSl H72 H4.length (0+2)).bind λs75=>(Hp.ldI H72 .i64 H4.length (0+3)).bind λn76=>(Hp.ldI H72 .i64 H4.length (0+4)).bind λn77=>(Hp.ldSl H72 H4.length (0+5)).bind λs78=>(Hp.ldI H72 .i64 H4.length (0+6)).bind λn79=>(Hp.ldI H72 .i64 H4.length (0+7)).bind λn80=>(Hp.ldSl H72 H4.length (0+8)).bind λs81=>(Hp.ldI H72 .i64 H4.length (0+9)).bind λn82=>(Hp.ldI H72 .i64 H4.length (0+10)).bind λn83=>(Hp.ldSl H72 H4.length (0+11)).bind λs84=>(Hp.ldI H72 .i64 H4.length (0+12)).bind λn85=>(Hp.ldI H72 .i64 H4.length (0+13)).bind λn86=>(Hp.ldSl H72 H4.length (0+14)).bind λs87=>some ((.tup [(.agg [(.int .i64 n73),(.int .i64 n74),(.sl s75),(.int .i64 n76),(.int .i64 n77),(.sl s78),(.int .i64 n79),(.int .i64 n80),(.sl s81),(.int .i64 n82),(.int .i64 n83),(.sl s84),(.int .i64 n85),(.int .i64 n86),(.sl s87)]),(.int .i64 0)]),H72)))
def gN.tw:=gN.twX F (kj.tw F) (bw.tw F)
def gN.cs (F:Nat) (vx:ag4) (vy:ag_):Cs:=[(132,mk10 vx),(133,mk4 vy)]
theorem gN.eqX (vx:ag4) (vy:ag_) (aa:Int) (ac:Int) (bM:Sl) (H:Hp):EX (cn (gN.cs F vx vy)) cE lh0 F Try.f82 [(.agg [(.int .i64 aa),(.int .i64 ac),(.sl bM)])] H=gN.twX F vx vy aa ac bM H:=by kernel_rfl
theorem gN.k:Ok Try.prog 82 (mk10 (gN.tw F)):=by
 intro args H v H' h
 unfold mk10 at h
 split at h
 ·exact okT (TB:=cE) Try.func82 (bH (kj.k F) (bH (bw.k F) dP)) ae.no ((gN.eqX F (kj.tw F) (bw.tw F) _ _ _ H).trans h) (by kernel_rfl)
 ·cases h
def ct.j2 (F:Nat) (ju:ag4) (ah:agU) (C125_:ahR) (Ar:Nat) (XO:Nat) (XP:Sl) (vz:Int) (vA:Int) (H132:Hp):OA:=C125_ Ar XO XP vz (wrap .i64 (vA+1)) H132
def ct.l125 (F:Nat) (ju:ag4) (ah:agU) :Nat->Nat->Nat->Sl->Int->Int->Hp->OA
 | 0,_,_,_,_,_,_=>none
 | Mc+1,oy,rK,xw,na,kW,H76=>(bif (decide (kW<na)) then ((Hp.ldI H76 .i64 oy (rK+6)).bind λn105=>(Hp.ldI H76 .i64 oy ((rK+6)+1)).bind λn106=>(Hp.ldSl H76 oy ((rK+6)+2)).bind λs107=>(ah n105 n106 s107 kW kW H76).bind λr108=>((r108.1).asP).bind λp109=>(Hp.ldI r108.2 .i64 p109.1 p109.2).bind λn110=>(bif (n110 != 0) then ((Hp.new r108.2 [(.int .i64 n110)]).bind λH111=>(Sl.row H111 (⟨some (r108.2.length,0),1,.ex 1⟩:Sl) 1).bind λxs113=>(Hp.app H111 1 8 xw (⟨some (r108.2.length,0),1,.ex 1⟩:Sl).n xs113).bind λa112=>ct.j2 F ju ah (ct.l125 F ju ah Mc) oy rK a112.1 na kW a112.2) else (ct.j2 F ju ah (ct.l125 F ju ah Mc) oy rK xw na kW r108.2))) else (some ((.tup [(.sl xw),(.int .i64 0)]),H76)))
termination_by structural n=>n
def ct.twX (ju:ag4) (ah:agU) (aa:Int) (ac:Int) (bM:Sl) (H:Hp):OA:=(Hp.new H [(.int .i64 aa),(.int .i64 ac),(.sl bM)]).bind λH4=>(Hp.ldI H4 .i64 H.length 0).bind λn5=>(Hp.ldI H4 .i64 H.length (0+1)).bind λn6=>(Hp.ldSl H4 H.length (0+2)).bind λs7=>(ju n5 n6 s7 H4).bind λr8=>((r8.1).asTup 2).bind λl9=>(l9[0]?).bind λv10=>((v10).asAgg 15).bind λl11=>(l11[0]?).bind λv12=>((v12).asI .i64).bind λn13=>(l11[1]?).bind λv14=>((v14).asI .i64).bind λn15=>(l11[2]?).bind λv16=>((v16).asSl).bind λs17=>(l11[3]?).bind λv18=>((v18).asI .i64).bind λn19=>(l11[4]?).bind λv20=>((v20).asI .i64).bind λn21=>(l11[5]?).bind λv22=>((v22).asSl).bind λs23=>(l11[6]?).bind λv24=>((v24).asI .i64).bind λn25=>(l11[7]?).bind λv26=>((v26).asI .i64).bind λn27=>(l11[8]?).bind λv28=>((v28).asSl).bind λs29=>(l11[9]?).bind λv30=>((v30).asI .i64).bind λn31=>(l11[10]?).bind λv32=>((v32).asI .i64).bind λn33=>(l11[11]?).bind λv34=>((v34).asSl).bind λs35=>(l11[12]?).bind λv36=>((v36).asI .i64).bind λn37=>(l11[13]?).bind λv38=>((v38).asI .i64).bind λn39=>(l11[14]?).bind λv40=>((v40).asSl).bind λs41=>(l9[1]?).bind λv42=>((v42).asI .i64).bind λn43=>(Hp.new r8.2 [.int .i64 0,.int .i64 0,.sl ⟨none,0,.ex 0⟩,.int .i64 0,.int .i64 0,.sl ⟨none,0,.ex 0⟩,.int .i64 0,.int .i64 0,.sl ⟨none,0,.ex 0⟩,.int .i64 0,.int .i64 0,.sl ⟨none,0,.ex 0⟩,.int .i64 0,.int .i64 0,.sl ⟨none,0,.ex 0⟩]).bind λH44=>(Hp.st H44 r8.2.length 0 (.int .i64 n13)).bind λH45=>(Hp.st H45 r8.2.length (0+1) (.int .i64 n15)).bind λH46=>(Hp.st H46 r8.2.length (0+1+1) (.sl s17)).bind λH47=>(Hp.st H47 r8.2.length (0+1+1+1) (.int .i64 n19)).bind λH48=>(Hp.st H48 r8.2.length (0+1+1+1+1) (.int .i64 n21)).bind λH49=>(Hp.st H49 r8.2.length (0+1+1+1+1+1) (.sl s23)).bind λH50=>(Hp.st H50 r8.2.length (0+1+1+1+1+1+1) (.int .i64 n25)).bind λH51=>(Hp.st H51 r8.2.length (0+1+1+1+1+1+1+1) (.int .i64 n27)).bind λH52=>(Hp.st H52 r8.2.length (0+1+1+1+1+1+1+1+1) (.sl s29)).bind λH53=>(Hp.st H53 r8.2.length (0+1+1+1+1+1+1+1+1+1) (.int .i64 n31)).bind λH54=>(Hp.st H54 r8.2.length (0+1+1+1+1+1+1+1+1+1+1) (.int .i64 n33)).bind λH55=>(Hp.st H55 r8.2.length (0+1+1+1+1+1+1+1+1+1+1+1) (.sl s35)).bind λH56=>(Hp.st H56 r8.2.length (0+1+1+1+1+1+1+1+1+1+1+1+1) (.int .i64 n37)).bind λH57=>(Hp.st H57 r8.2.length (0+1+1+1+1+1+1+1+1+1+1+1+1+1) (.int .i64 n39)).bind λH58=>(Hp.st H58 r8.2.length (0+1+1+1+1+1+1+1+1+1+1+1+1+1+1) (.sl s41)).bind λH59=>(bif (n43 != 0) then (some ((.tup [(.sl (⟨none,0,.ex 0⟩:Sl)),(.int .i64 n43)]),H59)) else ((Hp.ldI H59 .i64 H.length 0).bind λn60=>(Hp.ldI H59 .i64 H.length 1).bind λn61=>ct.l125 F ju ah F r8.2.length 0 (⟨none,0,.ex 0⟩:Sl) (if n61<n60 then n61 else n60) 0 H59))
def ct.tw:=ct.twX F (gN.tw F) (bR.tw F)
def ct.lh125 (ju:ag4) (ah:agU) (ks:ag0) (n:Nat) (tm:Tm) (H:Hp):OA:=match ks,tm 4,tm 6,tm 21,tm 22 with
 | [],(.ptr oy rK),(.sl xw),(.int .i64 na),(.int .i64 kW)=>ct.l125 F ju ah n oy rK xw na kW H
 | _,_,_,_,_=>none
def ct.lh (ju:ag4) (ah:agU) (p:Nat) (ks:ag0) (n:Nat) (tm:Tm) (H:Hp):OA:=bif p.beq 125 then ct.lh125 F ju ah ks n tm H else (none)
def ct.cs (F:Nat) (ju:ag4) (ah:agU):Cs:=[(82,mk10 ju),(75,mk6 ah)]
theorem ct.loops (ju:ag4) (ah:agU):LO (cn (ct.cs F ju ah)) cE (ct.lh F ju ah) F Try.f67:=
 (ae.rt (ae.rt (ae.rt (ae.rt (ae.lt (ae.rt (ae.block (ae.la (λn tm H r h=>by change ct.lh125 F ju ah [] n tm H=_ at h;unfold ct.lh125 at h;split at h;have e:eE tm [(4,_),(6,_),(21,_),(22,_)]:=⟨‹_›,‹_›,‹_›,‹_›,trivial⟩;obtain _ | k125:=n;cases h;exact ⟨_,rfl,by rw [<- eG e];exact Eq.trans (by kernel_rfl) h⟩;cases h) λk125=>ae.no))))))))
theorem ct.eqX (ju:ag4) (ah:agU) (aa:Int) (ac:Int) (bM:Sl) (H:Hp):EX (cn (ct.cs F ju ah)) cE (ct.lh F ju ah) F Try.f67 [(.agg [(.int .i64 aa),(.int .i64 ac),(.sl bM)])] H=ct.twX F ju ah aa ac bM H:=by kernel_rfl
theorem ct.k:Ok Try.prog 67 (mk10 (ct.tw F)):=by
 intro args H v H' h
 unfold mk10 at h
 split at h
 ·exact okT (TB:=cE) Try.func67 (bH (gN.k F) (bH (bR.k F) dP)) (ct.loops F (gN.tw F) (bR.tw F)) ((ct.eqX F (gN.tw F) (bR.tw F) _ _ _ H).trans h) (by kernel_rfl)
 ·cases h
def gC.twX (F:Nat) (aa:Int) (H:Hp):OA:=some ((.bool (aa==1)),H)
def gC.tw:=gC.twX F
theorem gC.k:Ok Try.prog 124 (mk5 (gC.tw F)):=by
 intro args H v H' h
 unfold mk5 at h
 split at h
 ·exact ok0 Try.func124 (Eq.trans (by kernel_rfl) h) (by kernel_rfl) (by kernel_rfl)
 ·cases h
def dQ.l13 (F:Nat) (fd:agY) :Nat->Sl->Int->Int->Hp->OA
 | 0,_,_,_,_=>none
 | jB+1,ki,eN,dG,H6=>(bif (decide (dG<eN)) then ((Sl.idx ki dG 1).bind λp11=>(Hp.ldI H6 .i64 p11.1 p11.2).bind λn12=>(fd n12 H6).bind λr13=>((r13.1).asB).bind λb14=>(bif b14 then (some ((.int .i64 dG),r13.2)) else (dQ.l13 F fd jB ki eN (wrap .i64 (dG+1)) r13.2))) else (some ((.int .i64 (-1)),H6)))
def dQ.twX (fd:agY) (aa:Sl) (H:Hp):OA:=dQ.l13 F fd F aa (aa.n:Int) 0 H
def dQ.tw:=dQ.twX F (gC.tw F)
def dQ.lh13 (fd:agY) (ks:ag0) (n:Nat) (tm:Tm) (H:Hp):OA:=match ks,tm 0,tm 1,tm 7,tm 8 with
 | [],(.sl ki),(.fn 124 []),(.int .i64 eN),(.int .i64 dG)=>dQ.l13 F fd n ki eN dG H
 | _,_,_,_,_=>none
def dQ.lh (fd:agY) (p:Nat) (ks:ag0) (n:Nat) (tm:Tm) (H:Hp):OA:=bif p.beq 13 then dQ.lh13 F fd ks n tm H else (none)
def mk20 (g:agZ) (args:ag3) (H:Hp):OA:=match args with
 | [(.sl aa),(.fn 124 [])]=>g aa H
 | _=>none
theorem mk20_E (g:agZ) (aa:Sl) (H:Hp):mk20 g [(.sl aa),(.fn 124 [])] H=g aa H:=rfl
def dQ.cs (F:Nat) (fd:agY):Cs:=[(124,mk5 fd)]
theorem dQ.loops (fd:agY):LO (cn (dQ.cs F fd)) cE (dQ.lh F fd) F Try.f122:=
 (ae.rt (ae.lt (ae.rt (ae.block (ae.la (λn tm H r h=>by change dQ.lh13 F fd [] n tm H=_ at h;unfold dQ.lh13 at h;split at h;have e:eE tm [(0,_),(1,_),(7,_),(8,_)]:=⟨‹_›,‹_›,‹_›,‹_›,trivial⟩;obtain _ | k13:=n;cases h;exact ⟨_,rfl,by rw [<- eG e];exact Eq.trans (by kernel_rfl) h⟩;cases h) λk13=>ae.no)))))
theorem dQ.eqX (fd:agY) (aa:Sl) (H:Hp):EX (cn (dQ.cs F fd)) cE (dQ.lh F fd) F Try.f122 [(.sl aa),(.fn 124 [])] H=dQ.twX F fd aa H:=by kernel_rfl
theorem dQ.k:Ok Try.prog 122 (mk20 (dQ.tw F)):=by
 intro args H v H' h
 unfold mk20 at h
 split at h
 ·exact okT (TB:=cE) Try.func122 (bH (gC.k F) dP) (dQ.loops F (gC.tw F)) ((dQ.eqX F (gC.tw F) _ H).trans h) (by kernel_rfl)
 ·cases h
def cJ.j2 (F:Nat) (iT:agZ) (fd:agY) (Ea:Sl) (rL:Int) (H31:Hp):OA:=(Sl.cut Ea 1 rL (Ea.n:Int)).bind λs32=>(Hp.clr H31 [.int .i64 0] s32).bind λH33=>(Sl.cut Ea 1 0 rL).bind λs34=>some ((.sl s34),H33)
def cJ.j3 (F:Nat) (iT:agZ) (fd:agY) (C61_:ahs) (XQ:Sl) (mN:Int) (vB:Int) (H49:Hp):OA:=C61_ XQ mN (wrap .i64 (vB+1)) H49
def cJ.l61 (F:Nat) (iT:agZ) (fd:agY) :Nat->Sl->Int->Int->Hp->OA
 | 0,_,_,_,_=>none
 | nz+1,fb,lR,lT,H9=>(bif (decide (lT<(fb.n:Int))) then ((Sl.idx fb lT 1).bind λp35=>(Hp.ldI H9 .i64 p35.1 p35.2).bind λn36=>(fd n36 H9).bind λr37=>((r37.1).asB).bind λb38=>(bif (!b38) then ((Sl.idx fb lR 1).bind λp39=>(Hp.st r37.2 p39.1 p39.2 (.int .i64 n36)).bind λH40=>cJ.j3 F iT fd (cJ.l61 F iT fd nz) fb (wrap .i64 (lR+1)) lT H40) else (cJ.j3 F iT fd (cJ.l61 F iT fd nz) fb lR lT r37.2))) else (cJ.j2 F iT fd fb lR H9))
def cJ.twX (iT:agZ) (fd:agY) (aa:Sl) (H:Hp):OA:=(iT aa H).bind λr2=>((r2.1).asI .i64).bind λn3=>(bif (n3==(-1)) then (some ((.sl aa),r2.2)) else (cJ.l61 F iT fd F aa n3 (wrap .i64 (n3+1)) r2.2))
def cJ.tw:=cJ.twX F (dQ.tw F) (gC.tw F)
def cJ.lh61 (iT:agZ) (fd:agY) (ks:ag0) (n:Nat) (tm:Tm) (H:Hp):OA:=match ks,tm 0,tm 1,tm 5,tm 6 with
 | [],(.sl fb),(.fn 124 []),(.int .i64 lR),(.int .i64 lT)=>cJ.l61 F iT fd n fb lR lT H
 | _,_,_,_,_=>none
def cJ.lh (iT:agZ) (fd:agY) (p:Nat) (ks:ag0) (n:Nat) (tm:Tm) (H:Hp):OA:=bif p.beq 61 then cJ.lh61 F iT fd ks n tm H else (none)
def cJ.cs (F:Nat) (iT:agZ) (fd:agY):Cs:=[(122,mk20 iT),(124,mk5 fd)]
theorem cJ.loops (iT:agZ) (fd:agY):LO (cn (cJ.cs F iT fd)) cE (cJ.lh F iT fd) F Try.f123:=
 (ae.rt (ae.rt (ae.rt (ae.lt (ae.rt (ae.block (ae.la (λn tm H r h=>by change cJ.lh61 F iT fd [] n tm H=_ at h;unfold cJ.lh61 at h;split at h;have e:eE tm [(0,_),(1,_),(5,_),(6,_)]:=⟨‹_›,‹_›,‹_›,‹_›,trivial⟩;obtain _ | k61:=n;cases h;exact ⟨_,rfl,by rw [<- eG e];exact Eq.trans (by kernel_rfl) h⟩;cases h) λk61=>ae.no)))))))
theorem cJ.eqX (iT:agZ) (fd:agY) (aa:Sl) (H:Hp):EX (cn (cJ.cs F iT fd)) cE (cJ.lh F iT fd) F Try.f123 [(.sl aa),(.fn 124 [])] H=cJ.twX F iT fd aa H:=by kernel_rfl
theorem cJ.k:Ok Try.prog 123 (mk20 (cJ.tw F)):=by
 intro args H v H' h
 unfold mk20 at h
 split at h
 ·exact okT (TB:=cE) Try.func123 (bH (dQ.k F) (bH (gC.k F) dP)) (cJ.loops F (dQ.tw F) (gC.tw F)) ((cJ.eqX F (dQ.tw F) (gC.tw F) _ H).trans h) (by kernel_rfl)
 ·cases h
def iL.twX (F:Nat) (vC:agZ) (aa:Sl) (H:Hp):OA:=(vC aa H).bind λr2=>((r2.1).asSl).bind λs3=>some ((.sl s3),r2.2)
def iL.tw:=iL.twX F (cJ.tw F)
def iL.cs (F:Nat) (vC:agZ):Cs:=[(123,mk20 vC)]
theorem iL.eqX (vC:agZ) (aa:Sl) (H:Hp):EX (cn (iL.cs F vC)) cE lh0 F Try.f69 [(.sl aa)] H=iL.twX F vC aa H:=by kernel_rfl
theorem iL.k:Ok Try.prog 69 (mk0 (iL.tw F)):=by
 intro args H v H' h
 unfold mk0 at h
 split at h
 ·exact okT (TB:=cE) Try.func69 (bH (cJ.k F) dP) ae.no ((iL.eqX F (cJ.tw F) _ H).trans h) (by kernel_rfl)
 ·cases h
def gk.twX (F:Nat) (vD:ahl) (vE:agZ) (mI:ag4) (jE:agZ) (vF:agZ) (aa:Int) (ac:Int) (bM:Sl) (aA:Int) (cu:Int) (iO:Sl) (H:Hp):OA:=(Hp.new H [(.int .i64 aa),(.int .i64 ac),(.sl bM)]).bind λH7=>(Hp.new H7 [(.int .i64 aA),(.int .i64 cu),(.sl iO)]).bind λH8=>(Hp.new H8 [.int .i64 0,.sl ⟨none,0,.ex 0⟩]).bind λH9=>(Hp.ldI H9 .i64 H7.length 0).bind λn10=>(Hp.ldI H9 .i64 H7.length (0+1)).bind λn11=>(Hp.ldSl H9 H7.length (0+2)).bind λs12=>(Hp.ldI H9 .i64 H.length 0).bind λn13=>(Hp.ldI H9 .i64 H.length (0+1)).bind λn14=>(Hp.ldSl H9 H.length (0+2)).bind λs15=>(vD n10 n11 s12 n13 n14 s15 H9).bind λr16=>((r16.1).asTup 2).bind λl17=>(l17[0]?).bind λv18=>((v18).asAgg 3).bind λl19=>(l19[0]?).bind λv20=>((v20).asI .i64).bind λn21=>(l19[1]?).bind λv22=>((v22).asI .i64).bind λn23=>(l19[2]?).bind λv24=>((v24).asSl).bind λs25=>(l17[1]?).bind λv26=>((v26).asI .i64).bind λn27=>(Hp.new r16.2 [.int .i64 0,.int .i64 0,.sl ⟨none,0,.ex 0⟩]).bind λH28=>(Hp.st H28 r16.2.length 0 (.int .i64 n21)).bind λH29=>(Hp.st H29 r16.2.length (0+1) (.int .i64 n23)).bind λH30=>(Hp.st H30 r16.2.length (0+1+1) (.sl s25)).bind λH31=>(bif (n27 != 0) then ((Hp.st H31 H8.length 0 (.int .i64 0)).bind λH32=>(Hp.st H32 H8.length (0+1) (.sl (⟨none,0,.ex 0⟩:Sl))).bind λH33=>(Hp.ldI H33 .i64 H8.length 0).bind λn34=>(Hp.ldSl H33 H8.length (0+1)).bind λs35=>some ((.tup [(.agg [(.int .i64 n34),(.sl s35)]),(.int .i64 n27)]),H33)) else ((Hp.ldSl H31 r16.2.length 2).bind λs36=>(vE s36 H31).bind λr37=>((r37.1).asB).bind λb38=>(bif b38 then ((Hp.st r37.2 H8.length 0 (.int .i64 0)).bind λH39=>(Hp.st H39 H8.length (0+1) (.sl (⟨none,0,.ex 0⟩:Sl))).bind λH40=>(Hp.ldI H40 .i64 H8.length 0).bind λn41=>(Hp.ldSl H40 H8.length (0+1)).bind λs42=>some ((.tup [(.agg [(.int .i64 n41),(.sl s42)]),(.int .i64 5)]),H40)) else ((Hp.ldI r37.2 .i64 H.length 0).bind λn43=>(Hp.ldI r37.2 .i64 H.length (0+1)).bind λn44=>(Hp.ldSl r37.2 H.length (0+2)).bind λs45=>(mI n43 n44 s45 r37.2).bind λr46=>((r46.1).asTup 2).bind λl47=>(l47[0]?).bind λv48=>((v48).asSl).bind λs49=>(l47[1]?).bind λv50=>((v50).asI .i64).bind λn51=>(Hp.ldI r46.2 .i64 H7.length 0).bind λn52=>(Hp.ldI r46.2 .i64 H7.length (0+1)).bind λn53=>(Hp.ldSl r46.2 H7.length (0+2)).bind λs54=>(mI n52 n53 s54 r46.2).bind λr55=>((r55.1).asTup 2).bind λl56=>(l56[0]?).bind λv57=>((v57).asSl).bind λs58=>(l56[1]?).bind λv59=>((v59).asI .i64).bind λn60=>(bif (n51 != 0) then ((Hp.st r55.2 H8.length 0 (.int .i64 0)).bind λH61=>(Hp.st H61 H8.length (0+1) (.sl (⟨none,0,.ex 0⟩:Sl))).bind λH62=>(Hp.ldI H62 .i64 H8.length 0).bind λn63=>(Hp.ldSl H62 H8.length (0+1)).bind λs64=>some ((.tup [(.agg [(.int .i64 n63),(.sl s64)]),(.int .i64 3)]),H62)) else ((bif (n60 != 0) then ((Hp.st r55.2 H8.length 0 (.int .i64 0)).bind λH65=>(Hp.st H65 H8.length (0+1) (.sl (⟨none,0,.ex 0⟩:Sl))).bind λH66=>(Hp.ldI H66 .i64 H8.length 0).bind λn67=>(Hp.ldSl H66 H8.length (0+1)).bind λs68=>some ((.tup [(.agg [(.int .i64 n67),(.sl s68)]),(.int .i64 3)]),H66)) else ((Hp.ldI r55.2 .i64 H.length 0).bind λn69=>(jE s49 r55.2).bind λr70=>((r70.1).asI .i64).bind λn71=>(jE s58 r70.2).bind λr72=>((r72.1).asI .i64).bind λn73=>(vF s49 r72.2).bind λr74=>((r74.1).asSl).bind λs75=>(Hp.st r74.2 H8.length 0 (.int .i64 (wrap .i64 ((wrap .i64 (n69 - n71)) - n73)))).bind λH76=>(Hp.st H76 H8.length (0+1) (.sl s75)).bind λH77=>(ifW (((((Hp.ldI H77 .i64 H.length 0).bind λn78=>iN (.int .i64 n69) H77 (.int .i64 n78) H77)=some ())/\(((Hp.ldI r74.2 .i64 H.length 0).bind λn79=>iN (.int .i64 n69) r74.2 (.int .i64 n79) r74.2)=some ())/\(((Hp.ldI r72.2 .i64 H.length 0).bind λn80=>iN (.int .i64 n69) r72.2 (.int .i64 n80) r72.2)=some ())/\(((Hp.ldI r70.2 .i64 H.length 0).bind λn81=>iN (.int .i64 n69) r70.2 (.int .i64 n81) r70.2)=some ())/\(((Hp.ldI r55.2 .i64 H.length 0).bind λn82=>iN (.int .i64 n69) r55.2 (.int .i64 n82) r55.2)=some ())/\True)/\True) ((Hp.ldI H77 .i64 H8.length 0).bind λn83=>(Hp.ldSl H77 H8.length (0+1)).bind λs84=>some ((.tup [(.agg [(.int .i64 n83),(.sl s84)]),(.int .i64 0)]),H77)))))))))))
def gk.tw:=gk.twX F (bI.tw F) (iK.tw F) (ct.tw F) (fY.tw F) (iL.tw F)
def gk.pn:Nat->List Nat:=eL [(10,[3,6,9,11,1001])]
def gk.tb:Nat->List (List Nat):=eL [(10,[[],[0],[],[2],[0,1,2,3],[],[2,3,5],[0,1,2,3,4,5,6],[],[2,3,5,6,8],[0,1,2,3,4,5,6,7,8,9],[0,1,2,3,4,5,6,7,8,9,10],[0,1,2,3,4,5,6,7,8,9,10,11]])]
def gk.cs (F:Nat) (vD:ahl) (vE:agZ) (mI:ag4) (jE:agZ) (vF:agZ):Cs:=[(64,mk13 vD),(65,mk14 vE),(67,mk10 mI),(68,mk0 jE),(69,mk0 vF)]
theorem gk.eqX (vD:ahl) (vE:agZ) (mI:ag4) (jE:agZ) (vF:agZ) (aa:Int) (ac:Int) (bM:Sl) (aA:Int) (cu:Int) (iO:Sl) (H:Hp):EX (cn (gk.cs F vD vE mI jE vF)) gk.pn lh0 F Try.f14 [(.agg [(.int .i64 aa),(.int .i64 ac),(.sl bM)]),(.agg [(.int .i64 aA),(.int .i64 cu),(.sl iO)])] H=gk.twX F vD vE mI jE vF aa ac bM aA cu iO H:=by kernel_rfl
theorem gk.k:Ok Try.prog 14 (mk13 (gk.tw F)):=by
 intro args H v H' h
 unfold mk13 at h
 split at h
 ·exact okT (TB:=gk.tb) Try.func14 (bH (bI.k F) (bH (iK.k F) (bH (ct.k F) (bH (fY.k F) (bH (iL.k F) dP))))) ae.no ((gk.eqX F (bI.tw F) (iK.tw F) (ct.tw F) (fY.tw F) (iL.tw F) _ _ _ _ _ _ H).trans h) (by kernel_rfl)
 ·cases h
def iC.twX (F:Nat) (fI:ag4) (mI:ag4) (aa:Int) (ac:Int) (bM:Sl) (H:Hp):OA:=(Hp.new H [(.int .i64 aa),(.int .i64 ac),(.sl bM)]).bind λH4=>(Hp.ldI H4 .i64 H.length 0).bind λn5=>(Hp.ldI H4 .i64 H.length (0+1)).bind λn6=>(Hp.ldSl H4 H.length (0+2)).bind λs7=>(fI n5 n6 s7 H4).bind λr8=>((r8.1).asB).bind λb9=>(bif (!b9) then (some ((.tup [(.sl (⟨none,0,.ex 0⟩:Sl)),(.int .i64 1)]),r8.2)) else ((Hp.ldI r8.2 .i64 H.length 0).bind λn10=>(Hp.ldI r8.2 .i64 H.length (0+1)).bind λn11=>(Hp.ldSl r8.2 H.length (0+2)).bind λs12=>(mI n10 n11 s12 r8.2).bind λr13=>((r13.1).asTup 2).bind λl14=>(l14[0]?).bind λv15=>((v15).asSl).bind λs16=>(l14[1]?).bind λv17=>((v17).asI .i64).bind λn18=>some ((.tup [(.sl s16),(.int .i64 n18)]),r13.2)))
def iC.tw:=iC.twX F (eF.tw F) (ct.tw F)
def iC.cs (F:Nat) (fI:ag4) (mI:ag4):Cs:=[(76,mk10 fI),(67,mk10 mI)]
theorem iC.eqX (fI:ag4) (mI:ag4) (aa:Int) (ac:Int) (bM:Sl) (H:Hp):EX (cn (iC.cs F fI mI)) cE lh0 F Try.f24 [(.agg [(.int .i64 aa),(.int .i64 ac),(.sl bM)])] H=iC.twX F fI mI aa ac bM H:=by kernel_rfl
theorem iC.k:Ok Try.prog 24 (mk10 (iC.tw F)):=by
 intro args H v H' h
 unfold mk10 at h
 split at h
 ·exact okT (TB:=cE) Try.func24 (bH (eF.k F) (bH (ct.k F) dP)) ae.no ((iC.eqX F (eF.tw F) (ct.tw F) _ _ _ H).trans h) (by kernel_rfl)
 ·cases h
def ii.twX (F:Nat) (vG:ag4) (jE:agZ) (aa:Int) (ac:Int) (bM:Sl) (H:Hp):OA:=(Hp.new H [(.int .i64 aa),(.int .i64 ac),(.sl bM)]).bind λH4=>(Hp.ldI H4 .i64 H.length 0).bind λn5=>(Hp.ldI H4 .i64 H.length (0+1)).bind λn6=>(Hp.ldSl H4 H.length (0+2)).bind λs7=>(vG n5 n6 s7 H4).bind λr8=>((r8.1).asTup 2).bind λl9=>(l9[0]?).bind λv10=>((v10).asSl).bind λs11=>(l9[1]?).bind λv12=>((v12).asI .i64).bind λn13=>(jE s11 r8.2).bind λr14=>((r14.1).asI .i64).bind λn15=>some ((.tup [(.int .i64 n15),(.int .i64 n13)]),r14.2)
def ii.tw:=ii.twX F (iC.tw F) (fY.tw F)
def ii.cs (F:Nat) (vG:ag4) (jE:agZ):Cs:=[(24,mk10 vG),(68,mk0 jE)]
theorem ii.eqX (vG:ag4) (jE:agZ) (aa:Int) (ac:Int) (bM:Sl) (H:Hp):EX (cn (ii.cs F vG jE)) cE lh0 F Try.f15 [(.agg [(.int .i64 aa),(.int .i64 ac),(.sl bM)])] H=ii.twX F vG jE aa ac bM H:=by kernel_rfl
theorem ii.k:Ok Try.prog 15 (mk10 (ii.tw F)):=by
 intro args H v H' h
 unfold mk10 at h
 split at h
 ·exact okT (TB:=cE) Try.func15 (bH (iC.k F) (bH (fY.k F) dP)) ae.no ((ii.eqX F (iC.tw F) (fY.tw F) _ _ _ H).trans h) (by kernel_rfl)
 ·cases h
def gO.twX (F:Nat) (aa:Int) (aQ:Int) (eM:Int) (H:Hp):OA:=(bif (decide (aa>=aQ)) then (some ((.bool (decide (aa<=eM))),H)) else (some ((.bool false),H)))
def gO.tw:=gO.twX F
theorem gO.k:Ok Try.prog 70 (mk7 (gO.tw F)):=by
 intro args H v H' h
 unfold mk7 at h
 split at h
 ·exact ok0 Try.func70 (Eq.trans (by kernel_rfl) h) (by kernel_rfl) (by kernel_rfl)
 ·cases h
def dc.j1 (F:Nat) (jv:ag6) (xx:Nat) (Md:Nat) (H30:Hp):OA:=(Hp.ldI H30 .i64 xx Md).bind λn31=>(jv n31 0 48 H30).bind λr32=>((r32.1).asB).bind λb33=>(bif b33 then ((Hp.ldSl r32.2 xx (Md+1)).bind λs34=>some ((.bool (decide ((s34.n:Int)<=48))),r32.2)) else (some ((.bool false),r32.2)))
def dc.l13 (F:Nat) (jv:ag6) :Nat->Nat->Nat->Int->Hp->OA
 | 0,_,_,_,_=>none
 | jB+1,eo,pJ,jH,H10=>(Hp.ldSl H10 eo (pJ+1)).bind λs35=>(bif (decide (jH<(s35.n:Int))) then ((Hp.ldSl H10 eo (pJ+1)).bind λs36=>(Sl.idx s36 jH 1).bind λp37=>(Hp.ldI H10 .i64 p37.1 p37.2).bind λn38=>(jv n38 2 1000000000000 H10).bind λr39=>((r39.1).asB).bind λb40=>(bif (!b40) then (some ((.bool false),r39.2)) else ((bif (decide (jH>0)) then ((Hp.ldSl r39.2 eo (pJ+1)).bind λs41=>(Sl.idx s41 jH 1).bind λp42=>(Hp.ldI r39.2 .i64 p42.1 p42.2).bind λn43=>(Hp.ldSl r39.2 eo (pJ+1)).bind λs44=>(Sl.idx s44 (wrap .i64 (jH - 1)) 1).bind λp45=>(Hp.ldI r39.2 .i64 p45.1 p45.2).bind λn46=>(if n46=0 then none else ((bif ((Int.tmod n43 n46) != 0) then (some ((.bool false),r39.2)) else (dc.l13 F jv jB eo pJ (wrap .i64 (jH+1)) r39.2))))) else (dc.l13 F jv jB eo pJ (wrap .i64 (jH+1)) r39.2))))) else (dc.j1 F jv eo pJ H10))
termination_by structural n=>n
def dc.twX (jv:ag6) (aa:Int) (ac:Sl) (H:Hp):OA:=(Hp.new H [(.int .i64 aa),(.sl ac)]).bind λH3=>dc.l13 F jv F H.length 0 0 H3
def dc.tw:=dc.twX F (gO.tw F)
def dc.lh13 (jv:ag6) (ks:ag0) (n:Nat) (tm:Tm) (H:Hp):OA:=match ks,tm 1,tm 3 with
 | [],(.ptr eo pJ),(.int .i64 jH)=>dc.l13 F jv n eo pJ jH H
 | _,_,_=>none
def dc.lh (jv:ag6) (p:Nat) (ks:ag0) (n:Nat) (tm:Tm) (H:Hp):OA:=bif p.beq 13 then dc.lh13 F jv ks n tm H else (none)
def dc.pn:Nat->List Nat:=eL [(4,[5])]
def dc.tb:Nat->List (List Nat):=eL [(4,[[],[0],[],[0,1,2],[0,1,2,3],[0,1,2,3,4],[0,1,2,3,4,5],[0,1,2,3,4,5,6],[0,1,2,3,4,5,6,7],[0,1,2,3,4,5,6,7,8],[0,1,2,3,4,5,6,7,8,9],[0,1,2,3,4,5,6,7,8,9,10],[0,1,2,3,4,5,6,7,8,9,10,11],[0,1,2,3,4,5,6,7,8,9,10],[0,1,2,3,4,5,6,7,8,9,10,11,12,13],[0,1,2,3,4,5,6,7,8,9,10,11,12,13,14],[0,1,2,3,4,5,6,7,8,9,10],[0,1,2,3,4,5,6,7,8,9,10,16],[0,1,2,3,4,5,6,7,8,9,10],[0,1,2,3,4,5,6,7,8,9,10,18],[0,1,2,3,4,5,6,7,8,9,10,16,17,18,19],[0,1,2,3,4,5,6,7,8,9,10,16,17,18,19,20],[0,1,2,3,4,5,6,7,8,9,10,11,12,13,14,15,16,17,18,19,20,21],[0,1,2,3,4,5,6,7,8,9,10,11,12,13,14,15,16,17,18,19,20,21,22],[0,1,2,3,4,5,6,7,8,9,10,11,12,13,14,15,16,17,18,19,20,21,22,23],[0,1,2,3,4,5,6,7,8,9,10,11,12,13,14,15,16,17,18,19,20,21,22,23,24]])]
def mk21 (g:ahJ) (args:ag3) (H:Hp):OA:=match args with
 | [(.agg [(.int .i64 aa),(.sl ac)])]=>g aa ac H
 | _=>none
theorem mk21_E (g:ahJ) (aa:Int) (ac:Sl) (H:Hp):mk21 g [(.agg [(.int .i64 aa),(.sl ac)])] H=g aa ac H:=rfl
def dc.cs (F:Nat) (jv:ag6):Cs:=[(70,mk7 jv)]
theorem dc.loops (jv:ag6):LO (cn (dc.cs F jv)) dc.pn (dc.lh F jv) F Try.f16:=
 (ae.rt (ae.lt (ae.rt (ae.block (ae.la (λn tm H r h=>by change dc.lh13 F jv [] n tm H=_ at h;unfold dc.lh13 at h;split at h;have e:eE tm [(1,_),(3,_)]:=⟨‹_›,‹_›,trivial⟩;obtain _ | k13:=n;cases h;exact ⟨_,rfl,by rw [<- eG e];exact Eq.trans (by kernel_rfl) h⟩;cases h) λk13=>ae.no)))))
theorem dc.eqX (jv:ag6) (aa:Int) (ac:Sl) (H:Hp):EX (cn (dc.cs F jv)) dc.pn (dc.lh F jv) F Try.f16 [(.agg [(.int .i64 aa),(.sl ac)])] H=dc.twX F jv aa ac H:=by kernel_rfl
theorem dc.k:Ok Try.prog 16 (mk21 (dc.tw F)):=by
 intro args H v H' h
 unfold mk21 at h
 split at h
 ·exact okT (TB:=dc.tb) Try.func16 (bH (gO.k F) dP) (dc.loops F (gO.tw F)) ((dc.eqX F (gO.tw F) _ _ H).trans h) (by kernel_rfl)
 ·cases h
def iD.twX (F:Nat) (vH:agZ) (vI:agZ) (rM:ahl) (rN:ag4) (vJ:ahJ) (aa:Sl) (H:Hp):OA:=(vH aa H).bind λr2=>((r2.1).asB).bind λb3=>(bif b3 then (some ((.bool true),r2.2)) else ((vI aa r2.2).bind λr4=>((r4.1).asTup 2).bind λl5=>(l5[0]?).bind λv6=>((v6).asAgg 3).bind λl7=>(l7[0]?).bind λv8=>((v8).asI .i64).bind λn9=>(l7[1]?).bind λv10=>((v10).asI .i64).bind λn11=>(l7[2]?).bind λv12=>((v12).asSl).bind λs13=>(l5[1]?).bind λv14=>((v14).asAgg 3).bind λl15=>(l15[0]?).bind λv16=>((v16).asI .i64).bind λn17=>(l15[1]?).bind λv18=>((v18).asI .i64).bind λn19=>(l15[2]?).bind λv20=>((v20).asSl).bind λs21=>(Hp.new r4.2 [.int .i64 0,.int .i64 0,.sl ⟨none,0,.ex 0⟩]).bind λH22=>(Hp.new H22 [.int .i64 0,.int .i64 0,.sl ⟨none,0,.ex 0⟩]).bind λH23=>(Hp.st H23 r4.2.length 0 (.int .i64 n9)).bind λH24=>(Hp.st H24 r4.2.length (0+1) (.int .i64 n11)).bind λH25=>(Hp.st H25 r4.2.length (0+1+1) (.sl s13)).bind λH26=>(Hp.st H26 H22.length 0 (.int .i64 n17)).bind λH27=>(Hp.st H27 H22.length (0+1) (.int .i64 n19)).bind λH28=>(Hp.st H28 H22.length (0+1+1) (.sl s21)).bind λH29=>(Hp.ldI H29 .i64 r4.2.length 0).bind λn30=>(Hp.ldI H29 .i64 r4.2.length (0+1)).bind λn31=>(Hp.ldSl H29 r4.2.length (0+2)).bind λs32=>(Hp.ldI H29 .i64 H22.length 0).bind λn33=>(Hp.ldI H29 .i64 H22.length (0+1)).bind λn34=>(Hp.ldSl H29 H22.length (0+2)).bind λs35=>(rM n30 n31 s32 n33 n34 s35 H29).bind λr36=>((r36.1).asTup 2).bind λl37=>(l37[0]?).bind λv38=>((v38).asAgg 2).bind λl39=>(l39[0]?).bind λv40=>((v40).asI .i64).bind λn41=>(l39[1]?).bind λv42=>((v42).asSl).bind λs43=>(l37[1]?).bind λv44=>((v44).asI .i64).bind λn45=>(Hp.new r36.2 [.int .i64 0,.sl ⟨none,0,.ex 0⟩]).bind λH46=>(Hp.st H46 r36.2.length 0 (.int .i64 n41)).bind λH47=>(Hp.st H47 r36.2.length (0+1) (.sl s43)).bind λH48=>(bif (n45 != 0) then ((Hp.ldI H48 .i64 r36.2.length 0).bind λn49=>(bif (n49==0) then ((Hp.ldSl H48 r36.2.length 1).bind λs50=>some ((.bool ((s50.n:Int)==0)),H48)) else (some ((.bool false),H48)))) else ((Hp.ldI H48 .i64 r4.2.length 0).bind λn51=>(Hp.ldI H48 .i64 r4.2.length (0+1)).bind λn52=>(Hp.ldSl H48 r4.2.length (0+2)).bind λs53=>(rN n51 n52 s53 H48).bind λr54=>((r54.1).asTup 2).bind λl55=>(l55[0]?).bind λv56=>((v56).asI .i64).bind λn57=>(l55[1]?).bind λv58=>((v58).asI .i64).bind λn59=>(Hp.ldI r54.2 .i64 H22.length 0).bind λn60=>(Hp.ldI r54.2 .i64 H22.length (0+1)).bind λn61=>(Hp.ldSl r54.2 H22.length (0+2)).bind λs62=>(rN n60 n61 s62 r54.2).bind λr63=>((r63.1).asTup 2).bind λl64=>(l64[0]?).bind λv65=>((v65).asI .i64).bind λn66=>(l64[1]?).bind λv67=>((v67).asI .i64).bind λn68=>(Hp.ldI r63.2 .i64 r4.2.length 0).bind λn69=>(Hp.ldI r63.2 .i64 H22.length 0).bind λn70=>(Hp.ldI r63.2 .i64 H22.length (0+1)).bind λn71=>(Hp.ldSl r63.2 H22.length (0+2)).bind λs72=>(rM n69 0 (⟨none,0,.ex 0⟩:Sl) n70 n71 s72 r63.2).bind λr73=>((r73.1).asTup 2).bind λl74=>(l74[0]?).bind λv75=>((v75).asAgg 2).bind λl76=>(l76[0]?).bind λv77=>((v77).asI .i64).bind λn78=>(l76[1]?).bind λv79=>((v79).asSl).bind λs80=>(l74[1]?).bind λv81=>((v81).asI .i64).bind λn82=>(Hp.new r73.2 [.int .i64 0,.sl ⟨none,0,.ex 0⟩]).bind λH83=>(Hp.st H83 r73.2.length 0 (.int .i64 n78)).bind λH84=>(Hp.st H84 r73.2.length (0+1) (.sl s80)).bind λH85=>(bif (n59==0) then ((bif (n68==0) then ((bif (n82==0) then ((Hp.ldI H85 .i64 r36.2.length 0).bind λn86=>(Hp.ldI H85 .i64 r4.2.length 0).bind λn87=>(bif ((wrap .i64 ((wrap .i64 (n86+n57))+n66))==n87) then ((Hp.ldI H85 .i64 r73.2.length 0).bind λn88=>(Hp.ldI H85 .i64 r4.2.length 0).bind λn89=>(bif ((wrap .i64 (n88+n66))==n89) then ((Hp.ldSl H85 r73.2.length 1).bind λs90=>(bif ((s90.n:Int)==0) then ((Hp.ldI H85 .i64 r36.2.length 0).bind λn91=>(Hp.ldSl H85 r36.2.length (0+1)).bind λs92=>(vJ n91 s92 H85).bind λr93=>((r93.1).asB).bind λb94=>some ((.bool b94),r93.2)) else (some ((.bool false),H85)))) else (some ((.bool false),H85)))) else (some ((.bool false),H85)))) else (some ((.bool false),H85)))) else (some ((.bool false),H85)))) else (some ((.bool false),H85)))))))
def iD.tw:=iD.twX F (ka.tw F) (aB.tw F) (gk.tw F) (ii.tw F) (dc.tw F)
def iD.cs (F:Nat) (vH:agZ) (vI:agZ) (rM:ahl) (rN:ag4) (vJ:ahJ):Cs:=[(12,mk0 vH),(13,mk0 vI),(14,mk13 rM),(15,mk10 rN),(16,mk21 vJ)]
theorem iD.eqX (vH:agZ) (vI:agZ) (rM:ahl) (rN:ag4) (vJ:ahJ) (aa:Sl) (H:Hp):EX (cn (iD.cs F vH vI rM rN vJ)) cE lh0 F Try.f3 [(.sl aa)] H=iD.twX F vH vI rM rN vJ aa H:=by kernel_rfl
theorem iD.k:Ok Try.prog 3 (mk0 (iD.tw F)):=by
 intro args H v H' h
 unfold mk0 at h
 split at h
 ·exact okT (TB:=cE) Try.func3 (bH (ka.k F) (bH (aB.k F) (bH (gk.k F) (bH (ii.k F) (bH (dc.k F) dP))))) ae.no ((iD.eqX F (ka.tw F) (aB.tw F) (gk.tw F) (ii.tw F) (dc.tw F) _ H).trans h) (by kernel_rfl)
 ·cases h
theorem iD.T {F:Nat} {aa:Sl} {H:Hp} {v:AV} {H':Hp} (h:iD.tw F aa H=some (v,H')):Go.AE.T Try.prog 3 [(.sl aa)] H v H':=iD.k F _ _ _ _ ((mk0_E (iD.tw F) aa H).trans h)
end
end Go.Proofs.Ytokekkacliomkaa.AE
