import Derived.Test.YtokekkacliomkaaTab1
set_option linter.unusedVariables false
set_option linter.unusedSimpArgs false
namespace Go.Proofs.Ytokekkacliomkaa.AE
open Go Go.AE Go.Proofs IntKind
variable (F:Nat)
set_option linter.unusedVariables false
set_option maxHeartbeats 4000000
set_option maxRecDepth 100000
noncomputable section
def iH.twX (F:Nat) (aa:Sl) (H:Hp):OA:=some ((.bool (decide ((aa.n:Int)>4096))),H)
def iH.tw:=iH.twX F
def mk0 (g:asE) (args:asJ) (H:Hp):OA:=match args with
 | [(.sl aa)]=>g aa H
 | _=>none
theorem mk0_E (g:asE) (aa:Sl) (H:Hp):mk0 g [(.sl aa)] H=g aa H:=rfl
theorem iH.k:Ok Try.prog 12 (mk0 (iH.tw F)):=by
 intro args H v H' h
 unfold mk0 at h
 split at h
 ·exact ok0 Try.func12 (Eq.trans (by kernel_rfl) h) (by kernel_rfl) (by kernel_rfl)
 ·cases h
def cV.l29 (F:Nat) :Nat->Sl->Nat->Nat->Int->Hp->OA
 | 0,_,_,_,_,_=>none
 | dL+1,jr,dS,nY,kc,H9=>(bif (decide (kc<(jr.n:Int))) then ((Hp.ldI H9 .u64 dS (nY+2)).bind λn14=>(Sl.idx jr kc 1).bind λp15=>(Hp.ldI H9 .u8 p15.1 p15.2).bind λn16=>(Hp.st H9 dS (nY+2) (.int .u64 (IntKind.u64.wrap ((IntKind.u64.wrap ((IntKind.u64.wrap (n14 * 1099511628211))+(IntKind.u64.wrap n16)))+3)))).bind λH17=>cV.l29 F dL jr dS nY (wrap .i64 (kc+1)) H17) else (some ((.ptr dS nY),H9)))
termination_by structural n=>n
def cV.twX (aa:Sl) (aG:Int) (H:Hp):OA:=(Hp.new H [(.sl aa),(.int .i64 0),(.int .u64 (IntKind.u64.wrap ((IntKind.u64.wrap (aG * 7919))+(IntKind.u64.wrap (aa.n:Int)))))]).bind λH3=>cV.l29 F F aa H.length 0 0 H3
def cV.tw:=cV.twX F
def cV.lh29 (ks:asD) (n:Nat) (tm:Tm) (H:Hp):OA:=match ks,tm 0,tm 4,tm 5,tm 6 with
 | [],(.sl jr),.nilp,(.ptr dS nY),(.int .i64 kc)=>cV.l29 F n jr dS nY kc H
 | _,_,_,_,_=>none
def cV.lh (p:Nat) (ks:asD) (n:Nat) (tm:Tm) (H:Hp):OA:=bif p.beq 29 then cV.lh29 F ks n tm H else (none)
def cV.pn:Nat->List Nat:=dn [(5,[15])]
def cV.tb:Nat->List (List Nat):=dn [(5,[[],[],[1],[1,2],[1,2,3],[1,2,3,4],[],[],[6,7],[6,7,8],[6,7,8,9],[1,2,3,4,5,6,7,8,9,10],[1,2,3,4,5,6,7,8,9,10,11],[0,1,2,3,4,5,6,7,8,9,10,11,12],[0,1,2,3,4,5,6,7,8,9,10,11,12,13],[0,1,2,3,4,5,6,7,8,9,10,11,12,13,14]])]
def mk1 (g:asU) (args:asJ) (H:Hp):OA:=match args with
 | [(.sl aa),(.int .u64 aG)]=>g aa aG H
 | _=>none
theorem mk1_E (g:asU) (aa:Sl) (aG:Int) (H:Hp):mk1 g [(.sl aa),(.int .u64 aG)] H=g aa aG H:=rfl
theorem cV.loops:LO (bS []) cV.pn (cV.lh F) F Try.f25:=
 (af.rt (af.rt (af.lt (af.rt (af.block (af.la (λn tm H r h=>by change cV.lh29 F [] n tm H=_ at h;unfold cV.lh29 at h;split at h;have e:cX tm [(0,_),(4,_),(5,_),(6,_)]:=⟨‹_›,‹_›,‹_›,‹_›,trivial⟩;obtain _ | k29:=n;cases h;exact ⟨_,rfl,by rw [<- db e];exact Eq.trans (by kernel_rfl) h⟩;cases h) λk29=>af.no))))))
theorem cV.k:Ok Try.prog 25 (mk1 (cV.tw F)):=by
 intro args H v H' h
 unfold mk1 at h
 split at h
 ·exact okT (PN:=cV.pn) (LH:=(cV.lh F)) (F:=F) (TB:=cV.tb) Try.func25 da (cV.loops F) (Eq.trans (by kernel_rfl) h) (by kernel_rfl)
 ·cases h
def cT.l29 (F:Nat) :Nat->Sl->Nat->Nat->Int->Hp->OA
 | 0,_,_,_,_,_=>none
 | dL+1,iq,dr,uj,jG,H7=>(bif (decide (jG<(iq.n:Int))) then ((bif (decide (jG<64)) then ((Hp.ldI H7 .i64 dr (uj+2)).bind λn12=>(Sl.idx iq jG 1).bind λp13=>(Hp.ldI H7 .u8 p13.1 p13.2).bind λn14=>(Hp.st H7 dr (uj+2) (.int .i64 (Int.tmod (wrap .i64 ((wrap .i64 (n12 * 37))+(wrap .i64 n14))) 2147483647))).bind λH15=>cT.l29 F dL iq dr uj (wrap .i64 (jG+1)) H15) else (some ((.ptr dr uj),H7)))) else (some ((.ptr dr uj),H7)))
termination_by structural n=>n
def cT.twX (aa:Sl) (H:Hp):OA:=(Hp.new H [(.sl aa),(.int .i64 0),(.int .i64 97531)]).bind λH2=>cT.l29 F F aa H.length 0 0 H2
def cT.tw:=cT.twX F
def cT.lh29 (ks:asD) (n:Nat) (tm:Tm) (H:Hp):OA:=match ks,tm 0,tm 2,tm 3,tm 4 with
 | [],(.sl iq),.nilp,(.ptr dr uj),(.int .i64 jG)=>cT.l29 F n iq dr uj jG H
 | _,_,_,_,_=>none
def cT.lh (p:Nat) (ks:asD) (n:Nat) (tm:Tm) (H:Hp):OA:=bif p.beq 29 then cT.lh29 F ks n tm H else (none)
def cT.pn:Nat->List Nat:=dn [(5,[15])]
def cT.tb:Nat->List (List Nat):=dn [(5,[[],[],[1],[1,2],[1,2,3],[1,2,3,4],[],[],[6,7],[6,7,8],[6,7,8,9],[1,2,3,4,5,6,7,8,9,10],[1,2,3,4,5,6,7,8,9,10,11],[0,1,2,3,4,5,6,7,8,9,10,11,12],[0,1,2,3,4,5,6,7,8,9,10,11,12,13],[0,1,2,3,4,5,6,7,8,9,10,11,12,13,14]])]
theorem cT.loops:LO (bS []) cT.pn (cT.lh F) F Try.f57:=
 (af.rt (af.rt (af.lt (af.rt (af.block (af.la (λn tm H r h=>by change cT.lh29 F [] n tm H=_ at h;unfold cT.lh29 at h;split at h;have e:cX tm [(0,_),(2,_),(3,_),(4,_)]:=⟨‹_›,‹_›,‹_›,‹_›,trivial⟩;obtain _ | k29:=n;cases h;exact ⟨_,rfl,by rw [<- db e];exact Eq.trans (by kernel_rfl) h⟩;cases h) λk29=>af.no))))))
theorem cT.k:Ok Try.prog 57 (mk0 (cT.tw F)):=by
 intro args H v H' h
 unfold mk0 at h
 split at h
 ·exact okT (PN:=cT.pn) (LH:=(cT.lh F)) (F:=F) (TB:=cT.tb) Try.func57 da (cT.loops F) (Eq.trans (by kernel_rfl) h) (by kernel_rfl)
 ·cases h
def bI.j1 (F:Nat) (nZ:Int) (wh:Int) (H37:Hp):OA:=(if nZ=0 then none else (some ((.int .i64 (Int.tmod wh nZ)),H37)))
def bI.j2 (wi:Int) (wj:Int) (H28:Hp):OA:=bI.j1 F wi wj H28
def bI.j3 (F:Nat) (r_:Int) (sb:Int) (H45:Hp):OA:=(if r_=0 then none else (some ((.int .i64 (Int.tmod sb r_)),H45)))
def bI.twX (aa:Nat) (ac:Nat) (ai:Int) (H:Hp):OA:=(bif (decide (ai<=1)) then (some ((.int .i64 0),H)) else ((Hp.ldI H .i64 aa (ac+2)).bind λn4=>(Hp.st H aa (ac+2) (.int .i64 (Int.tmod (wrap .i64 ((wrap .i64 (n4 * 48271))+11)) 2147483647))).bind λH5=>(Hp.ldI H5 .i64 aa (ac+2)).bind λn6=>(Hp.ldI H5 .i64 aa (ac+1)).bind λn7=>(Hp.ldSl H5 aa ac).bind λs8=>(bif (decide (n7<(s8.n:Int))) then ((Hp.ldSl H5 aa ac).bind λs9=>(Hp.ldI H5 .i64 aa (ac+1)).bind λn10=>(Sl.idx s9 n10 1).bind λp11=>(Hp.ldI H5 .u8 p11.1 p11.2).bind λn12=>(Hp.ldI H5 .i64 aa (ac+1)).bind λn13=>(Hp.st H5 aa (ac+1) (.int .i64 (wrap .i64 (n13+1)))).bind λH14=>(bif (decide (ai<=256)) then ((Hp.ldI H14 .i64 aa (ac+1)).bind λn15=>(bif ((Int.tmod n15 2)==0) then ((Hp.ldSl H14 aa ac).bind λs16=>(Hp.ldI H14 .i64 aa (ac+1)).bind λn17=>(Sl.idx s16 (wrap .i64 (n17 - 1)) 1).bind λp18=>(Hp.ldI H14 .u8 p18.1 p18.2).bind λn19=>bI.j2 F ai (wrap .i64 n19) H14) else (bI.j2 F ai (wrap .i64 ((wrap .i64 (Int.tdiv n6 11))+(wrap .i64 n12))) H14))) else (bI.j1 F ai (wrap .i64 ((wrap .i64 (Int.tdiv n6 11))+(wrap .i64 n12))) H14))) else (bI.j3 F ai (wrap .i64 (Int.tdiv n6 11)) H5))))
def bI.tw:=bI.twX F
def bI.tb:Nat->List (List Nat):=dn [(5,[[],[0],[0,1],[0,1,2],[],[4],[4,5],[4,5,6],[4,5,6,7],[0,1,2,3,4,5,6,7,8]]),(6,[[],[],[1],[1,2],[1,2,3],[],[5],[5,6],[5,6,7],[1,2,3,4,5,6,7,8],[1,2,3,4,5,6,7,8,9],[1,2,3,4,5,6,7,8,9,10],[0,1,2,3,4,5,6,7,8,9,10,11],[0,1,2,3,4,5,6,7,8,9,10,11,12]]),(9,[[],[0],[0,1],[0,1,2],[],[4],[4,5],[4,5,6],[4,5,6,7],[0,1,2,3,4,5,6,7,8],[0,1,2,3,4,5,6,7,8,9],[0,1,2,3,4,5,6,7,8,9,10],[0,1,2,3,4,5,6,7,8,9,10,11]])]
def mk2 (g:asA) (args:asJ) (H:Hp):OA:=match args with
 | [(.ptr aa ac),(.int .i64 ai)]=>g aa ac ai H
 | _=>none
theorem mk2_E (g:asA) (aa:Nat) (ac:Nat) (ai:Int) (H:Hp):mk2 g [(.ptr aa ac),(.int .i64 ai)] H=g aa ac ai H:=rfl
theorem bI.k:Ok Try.prog 58 (mk2 (bI.tw F)):=by
 intro args H v H' h
 unfold mk2 at h
 split at h
 ·exact okT (PN:=cf) (LH:=lh0) (F:=F) (TB:=bI.tb) Try.func58 da af.no (Eq.trans (by kernel_rfl) h) (by kernel_rfl)
 ·cases h
def cD.twX (F:Nat) (aa:Int) (aG:Int) (H:Hp):OA:=(Hp.new H [.int .i64 0,.int .i64 0,.sl ⟨none,0,.ex 0⟩]).bind λH3=>(Hp.mk H3 [.int .i64 0] 8 (wrap .i64 (aa * aG)) (wrap .i64 (aa * aG))).bind λm4=>(Hp.st m4.2 H.length 0 (.int .i64 aa)).bind λH5=>(Hp.st H5 H.length (0+1) (.int .i64 aG)).bind λH6=>(Hp.st H6 H.length (0+1+1) (.sl m4.1)).bind λH7=>(Hp.ldI H7 .i64 H.length 0).bind λn8=>(Hp.ldI H7 .i64 H.length (0+1)).bind λn9=>(Hp.ldSl H7 H.length (0+2)).bind λs10=>some ((.agg [(.int .i64 n8),(.int .i64 n9),(.sl s10)]),H7)
def cD.tw:=cD.twX F
def mk3 (g:asC) (args:asJ) (H:Hp):OA:=match args with
 | [(.int .i64 aa),(.int .i64 aG)]=>g aa aG H
 | _=>none
theorem mk3_E (g:asC) (aa:Int) (aG:Int) (H:Hp):mk3 g [(.int .i64 aa),(.int .i64 aG)] H=g aa aG H:=rfl
theorem cD.k:Ok Try.prog 63 (mk3 (cD.tw F)):=by
 intro args H v H' h
 unfold mk3 at h
 split at h
 ·exact ok0 Try.func63 (Eq.trans (by kernel_rfl) h) (by kernel_rfl) (by kernel_rfl)
 ·cases h
def ca.j2 (F:Nat) (aT:asC) (cn:asA) (C61_:asY) (LF:Nat) (afK:Nat) (Ev:Nat) (afL:Nat) (Ew:Nat) (afM:Nat) (wk:Int) (wl:Int) (H85:Hp):OA:=C61_ LF afK Ev afL Ew afM wk (wrap .i64 (wl+1)) H85
def ca.l61 (F:Nat) (aT:asC) (cn:asA) :Nat->Nat->Nat->Nat->Nat->Nat->Nat->Int->Int->Hp->OA
 | 0,_,_,_,_,_,_,_,_,_=>none
 | mr+1,wo,wq,iu,qt,lf,n_,lg,li,H30=>(Hp.ldSl H30 lf (n_+2)).bind λs63=>(bif (decide (li<(s63.n:Int))) then ((cn wo wq 3 H30).bind λr64=>((r64.1).asI .i64).bind λn65=>(bif (decide (n65>0)) then ((Hp.ldSl r64.2 lf (n_+2)).bind λs66=>(cn wo wq (wrap .i64 ((wrap .i64 (2 * lg))+1)) r64.2).bind λr67=>((r67.1).asI .i64).bind λn68=>(Sl.idx s66 li 1).bind λp69=>(Hp.st r67.2 p69.1 p69.2 (.int .i64 (wrap .i64 (n68 - lg)))).bind λH70=>(ifW (((((Hp.ldSl r67.2 lf (n_+2)).bind λs71=>qj (.sl s66) r67.2 (.sl s71) r67.2)=some ())/\(((Hp.ldSl r64.2 lf (n_+2)).bind λs72=>qj (.sl s66) r64.2 (.sl s72) r64.2)=some ())/\True)/\True) (ca.j2 F aT cn (ca.l61 F aT cn mr) wo wq iu qt lf n_ lg li H70))) else (ca.j2 F aT cn (ca.l61 F aT cn mr) wo wq iu qt lf n_ lg li r64.2))) else ((Hp.ldI H30 .i64 lf n_).bind λn86=>(Hp.ldI H30 .i64 lf (n_+1)).bind λn87=>(Hp.ldSl H30 lf (n_+2)).bind λs88=>(Hp.st H30 iu qt (.int .i64 n86)).bind λH89=>(Hp.st H89 iu (qt+1) (.int .i64 n87)).bind λH90=>(Hp.st H90 iu (qt+1+1) (.sl s88)).bind λH91=>(Hp.ldI H91 .i64 iu qt).bind λn92=>(Hp.ldI H91 .i64 iu (qt+1)).bind λn93=>(Hp.ldSl H91 iu (qt+2)).bind λs94=>some ((.agg [(.int .i64 n92),(.int .i64 n93),(.sl s94)]),H91)))
termination_by structural n=>n
def ca.twX (aT:asC) (cn:asA) (aa:Nat) (ac:Nat) (ai:Int) (cp:Int) (H:Hp):OA:=(Hp.new H [.int .i64 0,.int .i64 0,.sl ⟨none,0,.ex 0⟩]).bind λH5=>(aT ai cp H5).bind λr6=>((r6.1).asAgg 3).bind λl7=>(l7[0]?).bind λv8=>((v8).asI .i64).bind λn9=>(l7[1]?).bind λv10=>((v10).asI .i64).bind λn11=>(l7[2]?).bind λv12=>((v12).asSl).bind λs13=>(Hp.new r6.2 [.int .i64 0,.int .i64 0,.sl ⟨none,0,.ex 0⟩]).bind λH14=>(Hp.st H14 r6.2.length 0 (.int .i64 n9)).bind λH15=>(Hp.st H15 r6.2.length (0+1) (.int .i64 n11)).bind λH16=>(Hp.st H16 r6.2.length (0+1+1) (.sl s13)).bind λH17=>(cn aa ac 6 H17).bind λr18=>((r18.1).asI .i64).bind λn19=>ca.l61 F aT cn F aa ac H.length 0 r6.2.length 0 (wrap .i64 (1+n19)) 0 r18.2
def ca.tw:=ca.twX F (cD.tw F) (bI.tw F)
def ca.lh61 (aT:asC) (cn:asA) (ks:asD) (n:Nat) (tm:Tm) (H:Hp):OA:=match ks,tm 0,tm 6,tm 7,tm 8,tm 9 with
 | [],(.ptr wo wq),(.ptr iu qt),(.ptr lf n_),(.int .i64 lg),(.int .i64 li)=>ca.l61 F aT cn n wo wq iu qt lf n_ lg li H
 | _,_,_,_,_,_=>none
def ca.lh (aT:asC) (cn:asA) (p:Nat) (ks:asD) (n:Nat) (tm:Tm) (H:Hp):OA:=bif p.beq 61 then ca.lh61 F aT cn ks n tm H else (none)
def ca.pn:Nat->List Nat:=dn [(7,[7,11,999,1001])]
def ca.tb:Nat->List (List Nat):=dn [(7,[[],[0],[],[],[],[4],[4,5],[3,4,5,6],[],[3,4,5,6,7,8],[0,1,2,3,4,5,6,7,8,9],[0,1,2,3,4,5,6,7,8,9,10]])]
def mk4 (g:asW) (args:asJ) (H:Hp):OA:=match args with
 | [(.ptr aa ac),(.int .i64 ai),(.int .i64 cp)]=>g aa ac ai cp H
 | _=>none
theorem mk4_E (g:asW) (aa:Nat) (ac:Nat) (ai:Int) (cp:Int) (H:Hp):mk4 g [(.ptr aa ac),(.int .i64 ai),(.int .i64 cp)] H=g aa ac ai cp H:=rfl
def ca.cs (F:Nat) (aT:asC) (cn:asA):Cs:=[(63,mk3 aT),(58,mk2 cn)]
theorem ca.loops (aT:asC) (cn:asA):LO (bS (ca.cs F aT cn)) ca.pn (ca.lh F aT cn) F Try.f59:=
 (af.rt (af.rt (af.rt (af.lt (af.rt (af.block (af.la (λn tm H r h=>by change ca.lh61 F aT cn [] n tm H=_ at h;unfold ca.lh61 at h;split at h;have e:cX tm [(0,_),(6,_),(7,_),(8,_),(9,_)]:=⟨‹_›,‹_›,‹_›,‹_›,‹_›,trivial⟩;obtain _ | k61:=n;cases h;exact ⟨_,rfl,by rw [<- db e];exact Eq.trans (by kernel_rfl) h⟩;cases h) λk61=>af.no)))))))
theorem ca.eqX (aT:asC) (cn:asA) (aa:Nat) (ac:Nat) (ai:Int) (cp:Int) (H:Hp):EX (bS (ca.cs F aT cn)) ca.pn (ca.lh F aT cn) F Try.f59 [(.ptr aa ac),(.int .i64 ai),(.int .i64 cp)] H=ca.twX F aT cn aa ac ai cp H:=by kernel_rfl
theorem ca.k:Ok Try.prog 59 (mk4 (ca.tw F)):=by
 intro args H v H' h
 unfold mk4 at h
 split at h
 ·exact okT (TB:=ca.tb) Try.func59 (bH (cD.k F) (bH (bI.k F) da)) (ca.loops F (cD.tw F) (bI.tw F)) ((ca.eqX F (cD.tw F) (bI.tw F) _ _ _ _ H).trans h) (by kernel_rfl)
 ·cases h
def fC.twX (F:Nat) (cn:asA) (wt:asW) (aa:Nat) (ac:Nat) (H:Hp):OA:=(Hp.new H [.int .i64 0,.int .i64 0,.sl ⟨none,0,.ex 0⟩]).bind λH3=>(cn aa ac 5 H3).bind λr4=>((r4.1).asI .i64).bind λn5=>(cn aa ac 5 r4.2).bind λr6=>((r6.1).asI .i64).bind λn7=>(wt aa ac n5 n7 r6.2).bind λr8=>((r8.1).asAgg 3).bind λl9=>(l9[0]?).bind λv10=>((v10).asI .i64).bind λn11=>(l9[1]?).bind λv12=>((v12).asI .i64).bind λn13=>(l9[2]?).bind λv14=>((v14).asSl).bind λs15=>(Hp.new r8.2 [.int .i64 0,.int .i64 0,.sl ⟨none,0,.ex 0⟩]).bind λH16=>(Hp.st H16 r8.2.length 0 (.int .i64 n11)).bind λH17=>(Hp.st H17 r8.2.length (0+1) (.int .i64 n13)).bind λH18=>(Hp.st H18 r8.2.length (0+1+1) (.sl s15)).bind λH19=>(cn aa ac 24 H19).bind λr20=>((r20.1).asI .i64).bind λn21=>(bif (n21==0) then ((Hp.ldI r20.2 .i64 r8.2.length 0).bind λn22=>(Hp.st r20.2 r8.2.length 0 (.int .i64 (wrap .i64 (n22+1)))).bind λH23=>(Hp.ldI H23 .i64 r8.2.length 0).bind λn24=>(Hp.ldI H23 .i64 r8.2.length (0+1)).bind λn25=>(Hp.ldSl H23 r8.2.length (0+2)).bind λs26=>(Hp.st H23 H.length 0 (.int .i64 n24)).bind λH27=>(Hp.st H27 H.length (0+1) (.int .i64 n25)).bind λH28=>(Hp.st H28 H.length (0+1+1) (.sl s26)).bind λH29=>(Hp.ldI H29 .i64 H.length 0).bind λn30=>(Hp.ldI H29 .i64 H.length (0+1)).bind λn31=>(Hp.ldSl H29 H.length (0+2)).bind λs32=>some ((.agg [(.int .i64 n30),(.int .i64 n31),(.sl s32)]),H29)) else ((bif (n21==1) then ((Hp.ldSl r20.2 r8.2.length 2).bind λs33=>(Hp.new r20.2 [(.int .i64 0)]).bind λH34=>(Sl.row H34 (⟨some (r20.2.length,0),1,.ex 1⟩:Sl) 1).bind λxs36=>(Hp.app H34 1 8 s33 (⟨some (r20.2.length,0),1,.ex 1⟩:Sl).n xs36).bind λa35=>(Hp.st a35.2 r8.2.length 2 (.sl a35.1)).bind λH37=>(Hp.ldI H37 .i64 r8.2.length 0).bind λn38=>(Hp.ldI H37 .i64 r8.2.length (0+1)).bind λn39=>(Hp.ldSl H37 r8.2.length (0+2)).bind λs40=>(Hp.st H37 H.length 0 (.int .i64 n38)).bind λH41=>(Hp.st H41 H.length (0+1) (.int .i64 n39)).bind λH42=>(Hp.st H42 H.length (0+1+1) (.sl s40)).bind λH43=>(Hp.ldI H43 .i64 H.length 0).bind λn44=>(Hp.ldI H43 .i64 H.length (0+1)).bind λn45=>(Hp.ldSl H43 H.length (0+2)).bind λs46=>some ((.agg [(.int .i64 n44),(.int .i64 n45),(.sl s46)]),H43)) else ((bif (n21==2) then ((Hp.ldSl r20.2 r8.2.length 2).bind λs47=>(bif (decide ((s47.n:Int)>0)) then ((Hp.ldSl r20.2 r8.2.length 2).bind λs48=>(cn aa ac (s48.n:Int) r20.2).bind λr49=>((r49.1).asI .i64).bind λn50=>(Hp.ldSl r49.2 r8.2.length 2).bind λs51=>(Hp.new r49.2 [(.int .i64 1000000000000),(.int .i64 1000000000001),(.int .i64 (-1000000000000)),(.int .i64 (-1000000000001)),(.int .i64 (-9223372036854775808))]).bind λH52=>(cn aa ac 5 H52).bind λr53=>((r53.1).asI .i64).bind λn54=>(Sl.idx (⟨some (r49.2.length,0),5,.ex 5⟩:Sl) n54 1).bind λp55=>(Hp.ldI r53.2 .i64 p55.1 p55.2).bind λn56=>(Sl.idx s51 n50 1).bind λp57=>(Hp.st r53.2 p57.1 p57.2 (.int .i64 n56)).bind λH58=>(ifW (((Bs (some (AV.sl ⟨some (0,0),5,.ex 5⟩,[⟨[(.int .i64 1000000000000),(.int .i64 1000000000001),(.int .i64 (-1000000000000)),(.int .i64 (-1000000000001)),(.int .i64 (-9223372036854775808))],true,true⟩])) (.sl (⟨some (r49.2.length,0),5,.ex 5⟩:Sl)) r53.2)/\(Bs (some (AV.sl ⟨some (0,0),5,.ex 5⟩,[⟨[(.int .i64 1000000000000),(.int .i64 1000000000001),(.int .i64 (-1000000000000)),(.int .i64 (-1000000000001)),(.int .i64 (-9223372036854775808))],true,true⟩])) (.sl (⟨some (r49.2.length,0),5,.ex 5⟩:Sl)) H52)/\(Bs (some (AV.sl ⟨some (0,0),5,.ex 5⟩,[⟨[(.int .i64 1000000000000),(.int .i64 1000000000001),(.int .i64 (-1000000000000)),(.int .i64 (-1000000000001)),(.int .i64 (-9223372036854775808))],true,true⟩])) (.sl (⟨some (r49.2.length,0),5,.ex 5⟩:Sl)) r49.2)/\True)/\((((Hp.ldSl r53.2 r8.2.length 2).bind λs59=>qj (.sl s51) r53.2 (.sl s59) r53.2)=some ())/\(((Hp.ldSl H52 r8.2.length 2).bind λs60=>qj (.sl s51) H52 (.sl s60) H52)=some ())/\(((Hp.ldSl r49.2 r8.2.length 2).bind λs61=>qj (.sl s51) r49.2 (.sl s61) r49.2)=some ())/\True)/\True) ((Hp.ldI H58 .i64 r8.2.length 0).bind λn62=>(Hp.ldI H58 .i64 r8.2.length (0+1)).bind λn63=>(Hp.ldSl H58 r8.2.length (0+2)).bind λs64=>(Hp.st H58 H.length 0 (.int .i64 n62)).bind λH65=>(Hp.st H65 H.length (0+1) (.int .i64 n63)).bind λH66=>(Hp.st H66 H.length (0+1+1) (.sl s64)).bind λH67=>(Hp.ldI H67 .i64 H.length 0).bind λn68=>(Hp.ldI H67 .i64 H.length (0+1)).bind λn69=>(Hp.ldSl H67 H.length (0+2)).bind λs70=>some ((.agg [(.int .i64 n68),(.int .i64 n69),(.sl s70)]),H67)))) else ((Hp.ldI r20.2 .i64 r8.2.length 0).bind λn71=>(Hp.ldI r20.2 .i64 r8.2.length (0+1)).bind λn72=>(Hp.ldSl r20.2 r8.2.length (0+2)).bind λs73=>(Hp.st r20.2 H.length 0 (.int .i64 n71)).bind λH74=>(Hp.st H74 H.length (0+1) (.int .i64 n72)).bind λH75=>(Hp.st H75 H.length (0+1+1) (.sl s73)).bind λH76=>(Hp.ldI H76 .i64 H.length 0).bind λn77=>(Hp.ldI H76 .i64 H.length (0+1)).bind λn78=>(Hp.ldSl H76 H.length (0+2)).bind λs79=>some ((.agg [(.int .i64 n77),(.int .i64 n78),(.sl s79)]),H76)))) else ((bif (n21==3) then ((Hp.new r20.2 [(.int .i64 48),(.int .i64 49),(.int .i64 (-1))]).bind λH80=>(cn aa ac 3 H80).bind λr81=>((r81.1).asI .i64).bind λn82=>(Sl.idx (⟨some (r20.2.length,0),3,.ex 3⟩:Sl) n82 1).bind λp83=>(Hp.ldI r81.2 .i64 p83.1 p83.2).bind λn84=>(Hp.st r81.2 r8.2.length 0 (.int .i64 0)).bind λH85=>(Hp.st H85 r8.2.length (0+1) (.int .i64 n84)).bind λH86=>(Hp.st H86 r8.2.length (0+1+1) (.sl (⟨none,0,.ex 0⟩:Sl))).bind λH87=>(Hp.ldI H87 .i64 r8.2.length 0).bind λn88=>(Hp.ldI H87 .i64 r8.2.length (0+1)).bind λn89=>(Hp.ldSl H87 r8.2.length (0+2)).bind λs90=>(Hp.st H87 H.length 0 (.int .i64 n88)).bind λH91=>(Hp.st H91 H.length (0+1) (.int .i64 n89)).bind λH92=>(Hp.st H92 H.length (0+1+1) (.sl s90)).bind λH93=>(Hp.ldI H93 .i64 H.length 0).bind λn94=>(Hp.ldI H93 .i64 H.length (0+1)).bind λn95=>(Hp.ldSl H93 H.length (0+2)).bind λs96=>some ((.agg [(.int .i64 n94),(.int .i64 n95),(.sl s96)]),H93)) else ((Hp.ldI r20.2 .i64 r8.2.length 0).bind λn97=>(Hp.ldI r20.2 .i64 r8.2.length (0+1)).bind λn98=>(Hp.ldSl r20.2 r8.2.length (0+2)).bind λs99=>(Hp.st r20.2 H.length 0 (.int .i64 n97)).bind λH100=>(Hp.st H100 H.length (0+1) (.int .i64 n98)).bind λH101=>(Hp.st H101 H.length (0+1+1) (.sl s99)).bind λH102=>(Hp.ldI H102 .i64 H.length 0).bind λn103=>(Hp.ldI H102 .i64 H.length (0+1)).bind λn104=>(Hp.ldSl H102 H.length (0+2)).bind λs105=>some ((.agg [(.int .i64 n103),(.int .i64 n104),(.sl s105)]),H102)))))))))
def fC.tw:=fC.twX F (bI.tw F) (ca.tw F)
def fC.pn:Nat->List Nat:=dn [(10,[5,9,999,1001,1003])]
def fC.tb:Nat->List (List Nat):=dn [(10,[[],[0],[],[],[],[4],[3,4,5],[3,4,5,6],[0,1,2,3,4,5,6,7],[0,1,2,3,4,5,6,7,8]])]
def mk5 (g:asM) (args:asJ) (H:Hp):OA:=match args with
 | [(.ptr aa ac)]=>g aa ac H
 | _=>none
theorem mk5_E (g:asM) (aa:Nat) (ac:Nat) (H:Hp):mk5 g [(.ptr aa ac)] H=g aa ac H:=rfl
def fC.cs (F:Nat) (cn:asA) (wt:asW):Cs:=[(58,mk2 cn),(59,mk4 wt)]
theorem fC.eqX (cn:asA) (wt:asW) (aa:Nat) (ac:Nat) (H:Hp):EX (bS (fC.cs F cn wt)) fC.pn lh0 F Try.f60 [(.ptr aa ac)] H=fC.twX F cn wt aa ac H:=by kernel_rfl
theorem fC.k:Ok Try.prog 60 (mk5 (fC.tw F)):=by
 intro args H v H' h
 unfold mk5 at h
 split at h
 ·exact okT (TB:=fC.tb) Try.func60 (bH (bI.k F) (bH (ca.k F) da)) af.no ((fC.eqX F (bI.tw F) (ca.tw F) _ _ H).trans h) (by kernel_rfl)
 ·cases h
def aV.j3 (F:Nat) (fZ:asE) (cn:asA) (f_:asM) (aT:asC) (ig:Nat) (iJ:Nat) (wu:Nat) (LG:Nat) (qu:Int) (iv:Nat) (iS:Nat) (H114:Hp):OA:=(cn wu LG 12 H114).bind λr115=>((r115.1).asI .i64).bind λn116=>(bif (n116==0) then ((bif (decide (qu>0)) then ((Hp.ldSl r115.2 iv (iS+2)).bind λs117=>(cn wu LG 12 r115.2).bind λr118=>((r118.1).asI .i64).bind λn119=>(Sl.idx s117 (wrap .i64 ((wrap .i64 (qu * qu)) - 1)) 1).bind λp120=>(Hp.st r118.2 p120.1 p120.2 (.int .i64 (wrap .i64 (100000000 * n119)))).bind λH121=>(ifW (((((Hp.ldSl r118.2 iv (iS+2)).bind λs122=>qj (.sl s117) r118.2 (.sl s122) r118.2)=some ())/\(((Hp.ldSl r115.2 iv (iS+2)).bind λs123=>qj (.sl s117) r115.2 (.sl s123) r115.2)=some ())/\True)/\True) ((Hp.ldI H121 .i64 iv iS).bind λn124=>(Hp.ldI H121 .i64 iv (iS+1)).bind λn125=>(Hp.ldSl H121 iv (iS+2)).bind λs126=>(Hp.st H121 ig iJ (.int .i64 n124)).bind λH127=>(Hp.st H127 ig (iJ+1) (.int .i64 n125)).bind λH128=>(Hp.st H128 ig (iJ+1+1) (.sl s126)).bind λH129=>(Hp.ldI H129 .i64 ig iJ).bind λn130=>(Hp.ldI H129 .i64 ig (iJ+1)).bind λn131=>(Hp.ldSl H129 ig (iJ+2)).bind λs132=>some ((.agg [(.int .i64 n130),(.int .i64 n131),(.sl s132)]),H129)))) else ((Hp.ldI r115.2 .i64 iv iS).bind λn133=>(Hp.ldI r115.2 .i64 iv (iS+1)).bind λn134=>(Hp.ldSl r115.2 iv (iS+2)).bind λs135=>(Hp.st r115.2 ig iJ (.int .i64 n133)).bind λH136=>(Hp.st H136 ig (iJ+1) (.int .i64 n134)).bind λH137=>(Hp.st H137 ig (iJ+1+1) (.sl s135)).bind λH138=>(Hp.ldI H138 .i64 ig iJ).bind λn139=>(Hp.ldI H138 .i64 ig (iJ+1)).bind λn140=>(Hp.ldSl H138 ig (iJ+2)).bind λs141=>some ((.agg [(.int .i64 n139),(.int .i64 n140),(.sl s141)]),H138)))) else ((bif (n116==1) then ((cn wu LG 2 r115.2).bind λr142=>((r142.1).asI .i64).bind λn143=>(aT (wrap .i64 (12+n143)) 12 r142.2).bind λr144=>((r144.1).asAgg 3).bind λl145=>(l145[0]?).bind λv146=>((v146).asI .i64).bind λn147=>(l145[1]?).bind λv148=>((v148).asI .i64).bind λn149=>(l145[2]?).bind λv150=>((v150).asSl).bind λs151=>(Hp.st r144.2 iv iS (.int .i64 n147)).bind λH152=>(Hp.st H152 iv (iS+1) (.int .i64 n149)).bind λH153=>(Hp.st H153 iv (iS+1+1) (.sl s151)).bind λH154=>(Hp.ldI H154 .i64 iv iS).bind λn155=>(Hp.ldI H154 .i64 iv iS).bind λn156=>(aT n155 n156 H154).bind λr157=>((r157.1).asAgg 3).bind λl158=>(l158[0]?).bind λv159=>((v159).asI .i64).bind λn160=>(l158[1]?).bind λv161=>((v161).asI .i64).bind λn162=>(l158[2]?).bind λv163=>((v163).asSl).bind λs164=>(Hp.st r157.2 iv iS (.int .i64 n160)).bind λH165=>(Hp.st H165 iv (iS+1) (.int .i64 n162)).bind λH166=>(Hp.st H166 iv (iS+1+1) (.sl s164)).bind λH167=>(Hp.ldI H167 .i64 iv iS).bind λn168=>(Hp.ldI H167 .i64 iv (iS+1)).bind λn169=>(Hp.ldSl H167 iv (iS+2)).bind λs170=>(Hp.st H167 ig iJ (.int .i64 n168)).bind λH171=>(Hp.st H171 ig (iJ+1) (.int .i64 n169)).bind λH172=>(Hp.st H172 ig (iJ+1+1) (.sl s170)).bind λH173=>(Hp.ldI H173 .i64 ig iJ).bind λn174=>(Hp.ldI H173 .i64 ig (iJ+1)).bind λn175=>(Hp.ldSl H173 ig (iJ+2)).bind λs176=>some ((.agg [(.int .i64 n174),(.int .i64 n175),(.sl s176)]),H173)) else ((Hp.ldI r115.2 .i64 iv iS).bind λn177=>(Hp.ldI r115.2 .i64 iv (iS+1)).bind λn178=>(Hp.ldSl r115.2 iv (iS+2)).bind λs179=>(Hp.st r115.2 ig iJ (.int .i64 n177)).bind λH180=>(Hp.st H180 ig (iJ+1) (.int .i64 n178)).bind λH181=>(Hp.st H181 ig (iJ+1+1) (.sl s179)).bind λH182=>(Hp.ldI H182 .i64 ig iJ).bind λn183=>(Hp.ldI H182 .i64 ig (iJ+1)).bind λn184=>(Hp.ldSl H182 ig (iJ+2)).bind λs185=>some ((.agg [(.int .i64 n183),(.int .i64 n184),(.sl s185)]),H182)))))
def aV.j4 (F:Nat) (fZ:asE) (cn:asA) (f_:asM) (aT:asC) (C253_:as_) (Ex:Nat) (afN:Nat) (Ey:Nat) (afO:Nat) (oa:Int) (Ez:Nat) (afP:Nat) (se:Int) (H234:Hp):OA:=C253_ Ex afN Ey afO oa Ez afP (wrap .i64 (se+1)) H234
def aV.j5 (fZ:asE) (cn:asA) (f_:asM) (aT:asC) (C253_:as_) (EA:Nat) (afQ:Nat) (EB:Nat) (afR:Nat) (wv:Int) (EC:Nat) (afS:Nat) (ww:Int) (H220:Hp):OA:=aV.j4 F fZ cn f_ aT C253_ EA afQ EB afR wv EC afS ww H220
def aV.l4053 (F:Nat) (fZ:asE) (cn:asA) (f_:asM) (aT:asC) (C253_:as_):Nat->Nat->Nat->Nat->Nat->Int->Nat->Nat->Int->Int->Hp->OA
 | 0,_,_,_,_,_,_,_,_,_,_=>none
 | LI+1,sf,ED,qS,BF,lj,qv,wx,kq,ll,H198=>(bif (decide (ll<=kq)) then ((cn qS BF 7 H198).bind λr235=>((r235.1).asI .i64).bind λn236=>(Hp.ldSl r235.2 qv (wx+2)).bind λs237=>(Sl.idx s237 (wrap .i64 ((wrap .i64 (kq * lj))+ll)) 1).bind λp238=>(Hp.st r235.2 p238.1 p238.2 (.int .i64 (wrap .i64 (n236 - 3)))).bind λH239=>(Hp.ldSl H239 qv (wx+2)).bind λs240=>(Sl.idx s240 (wrap .i64 ((wrap .i64 (ll * lj))+kq)) 1).bind λp241=>(Hp.st H239 p241.1 p241.2 (.int .i64 (wrap .i64 (n236 - 3)))).bind λH242=>aV.l4053 F fZ cn f_ aT C253_ LI sf ED qS BF lj qv wx kq (wrap .i64 (ll+1)) H242) else (aV.j5 F fZ cn f_ aT C253_ sf ED qS BF lj qv wx kq H198))
termination_by structural n=>n
def aV.l253 (F:Nat) (fZ:asE) (cn:asA) (f_:asM) (aT:asC) :Nat->Nat->Nat->Nat->Nat->Int->Nat->Nat->Int->Hp->OA
 | 0,_,_,_,_,_,_,_,_,_=>none
 | jt+1,jp,h_,si,lp,iI,sj,EE,ob,H45=>(bif (decide (ob<iI)) then (aV.l4053 F fZ cn f_ aT (aV.l253 F fZ cn f_ aT jt) F jp h_ si lp iI sj EE ob 0 H45) else (aV.j3 F fZ cn f_ aT jp h_ si lp iI sj EE H45))
termination_by structural n=>n
def aV.twX (fZ:asE) (cn:asA) (f_:asM) (aT:asC) (aa:Sl) (H:Hp):OA:=(Hp.new H [.int .i64 0,.int .i64 0,.sl ⟨none,0,.ex 0⟩]).bind λH2=>(fZ aa H2).bind λr3=>((r3.1).asP).bind λp4=>(cn p4.1 p4.2 8 r3.2).bind λr5=>((r5.1).asI .i64).bind λn6=>(bif (n6==0) then ((f_ p4.1 p4.2 r5.2).bind λr7=>((r7.1).asAgg 3).bind λl8=>(l8[0]?).bind λv9=>((v9).asI .i64).bind λn10=>(l8[1]?).bind λv11=>((v11).asI .i64).bind λn12=>(l8[2]?).bind λv13=>((v13).asSl).bind λs14=>(Hp.st r7.2 H.length 0 (.int .i64 n10)).bind λH15=>(Hp.st H15 H.length (0+1) (.int .i64 n12)).bind λH16=>(Hp.st H16 H.length (0+1+1) (.sl s14)).bind λH17=>(Hp.ldI H17 .i64 H.length 0).bind λn18=>(Hp.ldI H17 .i64 H.length (0+1)).bind λn19=>(Hp.ldSl H17 H.length (0+2)).bind λs20=>some ((.agg [(.int .i64 n18),(.int .i64 n19),(.sl s20)]),H17)) else ((cn p4.1 p4.2 5 r5.2).bind λr21=>((r21.1).asI .i64).bind λn22=>(aT n22 n22 r21.2).bind λr23=>((r23.1).asAgg 3).bind λl24=>(l24[0]?).bind λv25=>((v25).asI .i64).bind λn26=>(l24[1]?).bind λv27=>((v27).asI .i64).bind λn28=>(l24[2]?).bind λv29=>((v29).asSl).bind λs30=>(Hp.new r23.2 [.int .i64 0,.int .i64 0,.sl ⟨none,0,.ex 0⟩]).bind λH31=>(Hp.st H31 r23.2.length 0 (.int .i64 n26)).bind λH32=>(Hp.st H32 r23.2.length (0+1) (.int .i64 n28)).bind λH33=>(Hp.st H33 r23.2.length (0+1+1) (.sl s30)).bind λH34=>aV.l253 F fZ cn f_ aT F H.length 0 p4.1 p4.2 n22 r23.2.length 0 0 H34))
def aV.tw:=aV.twX F (cT.tw F) (bI.tw F) (fC.tw F) (cD.tw F)
def aV.lh253 (fZ:asE) (cn:asA) (f_:asM) (aT:asC) (ks:asD) (n:Nat) (tm:Tm) (H:Hp):OA:=match ks,tm 2,tm 3,tm 4,tm 5,tm 6 with
 | [],(.ptr jp h_),(.ptr si lp),(.int .i64 iI),(.ptr sj EE),(.int .i64 ob)=>aV.l253 F fZ cn f_ aT n jp h_ si lp iI sj EE ob H
 | _,_,_,_,_,_=>none
def aV.lh4053 (fZ:asE) (cn:asA) (f_:asM) (aT:asC) (ks:asD) (n:Nat) (tm:Tm) (H:Hp):OA:=match ks,tm 2,tm 3,tm 4,tm 5,tm 6,tm 7 with
 | [jt],(.ptr sf ED),(.ptr qS BF),(.int .i64 lj),(.ptr qv wx),(.int .i64 kq),(.int .i64 ll)=>aV.l4053 F fZ cn f_ aT (aV.l253 F fZ cn f_ aT jt) n sf ED qS BF lj qv wx kq ll H
 | _,_,_,_,_,_,_=>none
def aV.lh (fZ:asE) (cn:asA) (f_:asM) (aT:asC) (p:Nat) (ks:asD) (n:Nat) (tm:Tm) (H:Hp):OA:=bif p.beq 4053 then aV.lh4053 F fZ cn f_ aT ks n tm H else (bif p.beq 253 then aV.lh253 F fZ cn f_ aT ks n tm H else (none))
def aV.pn:Nat->List Nat:=dn [(18,[7,10,999,1001])]
def aV.tb:Nat->List (List Nat):=dn [(18,[[],[0],[],[],[2,3],[2,3,4],[],[6],[6,7],[0,1,2,3,4,5,6,7,8],[0,1,2,3,4,5,6,7,8,9]])]
def aV.cs (F:Nat) (fZ:asE) (cn:asA) (f_:asM) (aT:asC):Cs:=[(57,mk0 fZ),(58,mk2 cn),(60,mk5 f_),(63,mk3 aT)]
theorem aV.loops (fZ:asE) (cn:asA) (f_:asM) (aT:asC):LO (bS (aV.cs F fZ cn f_ aT)) aV.pn (aV.lh F fZ cn f_ aT) F Try.f33:=
 (af.rt (af.rt (af.rt (af.rt (af.rt (af.lt (af.rt (af.block (af.la (λn tm H r h=>by change aV.lh253 F fZ cn f_ aT [] n tm H=_ at h;unfold aV.lh253 at h;split at h;have e:cX tm [(2,_),(3,_),(4,_),(5,_),(6,_)]:=⟨‹_›,‹_›,‹_›,‹_›,‹_›,trivial⟩;obtain _ | k253:=n;cases h;exact ⟨_,rfl,by rw [<- db e];exact Eq.trans (by kernel_rfl) h⟩;cases h) λk253=>(af.rt (af.lt (af.block (af.rt (af.block (af.la (λn tm H r h=>by change aV.lh4053 F fZ cn f_ aT [k253] n tm H=_ at h;unfold aV.lh4053 at h;split at h;have e:cX tm [(2,_),(3,_),(4,_),(5,_),(6,_),(7,_)]:=⟨‹_›,‹_›,‹_›,‹_›,‹_›,‹_›,trivial⟩;cases (show [k253]=_ from ‹_›);obtain _ | k4053:=n;cases h;exact ⟨_,rfl,by rw [<- db e];exact Eq.trans (by kernel_rfl) h⟩;cases h) λk4053=>af.no)))))))))))))))
theorem aV.eqX (fZ:asE) (cn:asA) (f_:asM) (aT:asC) (aa:Sl) (H:Hp):EX (bS (aV.cs F fZ cn f_ aT)) aV.pn (aV.lh F fZ cn f_ aT) F Try.f33 [(.sl aa)] H=aV.twX F fZ cn f_ aT aa H:=by kernel_rfl
theorem aV.k:Ok Try.prog 33 (mk0 (aV.tw F)):=by
 intro args H v H' h
 unfold mk0 at h
 split at h
 ·exact okT (TB:=aV.tb) Try.func33 (bH (cT.k F) (bH (bI.k F) (bH (fC.k F) (bH (cD.k F) da)))) (aV.loops F (cT.tw F) (bI.tw F) (fC.tw F) (cD.tw F)) ((aV.eqX F (cT.tw F) (bI.tw F) (fC.tw F) (cD.tw F) _ H).trans h) (by kernel_rfl)
 ·cases h
def gQ.twX (F:Nat) (aa:Int) (aG:Int) (ga:Int) (H:Hp):OA:=(bif (decide (aG<=aa)) then (some ((.bool (decide (aa<=ga))),H)) else (some ((.bool false),H)))
def gQ.tw:=gQ.twX F
def mk6 (g:asL) (args:asJ) (H:Hp):OA:=match args with
 | [(.int .i64 aa),(.int .i64 aG),(.int .i64 ga)]=>g aa aG ga H
 | _=>none
theorem mk6_E (g:asL) (aa:Int) (aG:Int) (ga:Int) (H:Hp):mk6 g [(.int .i64 aa),(.int .i64 aG),(.int .i64 ga)] H=g aa aG ga H:=rfl
theorem gQ.k:Ok Try.prog 125 (mk6 (gQ.tw F)):=by
 intro args H v H' h
 unfold mk6 at h
 split at h
 ·exact ok0 Try.func125 (Eq.trans (by kernel_rfl) h) (by kernel_rfl) (by kernel_rfl)
 ·cases h
def gr.twX (F:Nat) (aa:Sl) (H:Hp):OA:=some ((.int .i64 (aa.n:Int)),H)
def gr.tw:=gr.twX F
theorem gr.k:Ok Try.prog 68 (mk0 (gr.tw F)):=by
 intro args H v H' h
 unfold mk0 at h
 split at h
 ·exact ok0 Try.func68 (Eq.trans (by kernel_rfl) h) (by kernel_rfl) (by kernel_rfl)
 ·cases h
def iw.twX (F:Nat) (ms:asL) (aa:Int) (H:Hp):OA:=(ms aa (-1000000000000) 1000000000000 H).bind λr2=>((r2.1).asB).bind λb3=>some ((.bool (!b3)),r2.2)
def iw.tw:=iw.twX F (gQ.tw F)
def mk7 (g:asF) (args:asJ) (H:Hp):OA:=match args with
 | [(.int .i64 aa)]=>g aa H
 | _=>none
theorem mk7_E (g:asF) (aa:Int) (H:Hp):mk7 g [(.int .i64 aa)] H=g aa H:=rfl
def iw.cs (F:Nat) (ms:asL):Cs:=[(125,mk6 ms)]
theorem iw.eqX (ms:asL) (aa:Int) (H:Hp):EX (bS (iw.cs F ms)) cf lh0 F Try.f127 [(.int .i64 aa)] H=iw.twX F ms aa H:=by kernel_rfl
theorem iw.k:Ok Try.prog 127 (mk7 (iw.tw F)):=by
 intro args H v H' h
 unfold mk7 at h
 split at h
 ·exact okT (TB:=cf) Try.func127 (bH (gQ.k F) da) af.no ((iw.eqX F (gQ.tw F) _ H).trans h) (by kernel_rfl)
 ·cases h
def cZ.l13 (F:Nat) (kd:asF) :Nat->Sl->Int->Int->Hp->OA
 | 0,_,_,_,_=>none
 | sk+1,iT,gR,eW,H6=>(bif (decide (eW<gR)) then ((Sl.idx iT eW 1).bind λp11=>(Hp.ldI H6 .i64 p11.1 p11.2).bind λn12=>(kd n12 H6).bind λr13=>((r13.1).asB).bind λb14=>(bif b14 then (some ((.int .i64 eW),r13.2)) else (cZ.l13 F kd sk iT gR (wrap .i64 (eW+1)) r13.2))) else (some ((.int .i64 (-1)),H6)))
def cZ.twX (kd:asF) (aa:Sl) (H:Hp):OA:=cZ.l13 F kd F aa (aa.n:Int) 0 H
def cZ.tw:=cZ.twX F (iw.tw F)
def cZ.lh13 (kd:asF) (ks:asD) (n:Nat) (tm:Tm) (H:Hp):OA:=match ks,tm 0,tm 1,tm 7,tm 8 with
 | [],(.sl iT),(.fn 127 []),(.int .i64 gR),(.int .i64 eW)=>cZ.l13 F kd n iT gR eW H
 | _,_,_,_,_=>none
def cZ.lh (kd:asF) (p:Nat) (ks:asD) (n:Nat) (tm:Tm) (H:Hp):OA:=bif p.beq 13 then cZ.lh13 F kd ks n tm H else (none)
def mk8 (g:asE) (args:asJ) (H:Hp):OA:=match args with
 | [(.sl aa),(.fn 127 [])]=>g aa H
 | _=>none
theorem mk8_E (g:asE) (aa:Sl) (H:Hp):mk8 g [(.sl aa),(.fn 127 [])] H=g aa H:=rfl
def cZ.cs (F:Nat) (kd:asF):Cs:=[(127,mk7 kd)]
theorem cZ.loops (kd:asF):LO (bS (cZ.cs F kd)) cf (cZ.lh F kd) F Try.f122:=
 (af.rt (af.lt (af.rt (af.block (af.la (λn tm H r h=>by change cZ.lh13 F kd [] n tm H=_ at h;unfold cZ.lh13 at h;split at h;have e:cX tm [(0,_),(1,_),(7,_),(8,_)]:=⟨‹_›,‹_›,‹_›,‹_›,trivial⟩;obtain _ | k13:=n;cases h;exact ⟨_,rfl,by rw [<- db e];exact Eq.trans (by kernel_rfl) h⟩;cases h) λk13=>af.no)))))
theorem cZ.eqX (kd:asF) (aa:Sl) (H:Hp):EX (bS (cZ.cs F kd)) cf (cZ.lh F kd) F Try.f122 [(.sl aa),(.fn 127 [])] H=cZ.twX F kd aa H:=by kernel_rfl
theorem cZ.k:Ok Try.prog 122 (mk8 (cZ.tw F)):=by
 intro args H v H' h
 unfold mk8 at h
 split at h
 ·exact okT (TB:=cf) Try.func122 (bH (iw.k F) da) (cZ.loops F (iw.tw F)) ((cZ.eqX F (iw.tw F) _ H).trans h) (by kernel_rfl)
 ·cases h
def iy.twX (F:Nat) (wy:asE) (aa:Sl) (H:Hp):OA:=(wy aa H).bind λr2=>((r2.1).asI .i64).bind λn3=>some ((.bool (decide (n3>=0))),r2.2)
def iy.tw:=iy.twX F (cZ.tw F)
def iy.cs (F:Nat) (wy:asE):Cs:=[(122,mk8 wy)]
theorem iy.eqX (wy:asE) (aa:Sl) (H:Hp):EX (bS (iy.cs F wy)) cf lh0 F Try.f65 [(.sl aa),(.fn 127 [])] H=iy.twX F wy aa H:=by kernel_rfl
theorem iy.k:Ok Try.prog 65 (mk8 (iy.tw F)):=by
 intro args H v H' h
 unfold mk8 at h
 split at h
 ·exact okT (TB:=cf) Try.func65 (bH (cZ.k F) da) af.no ((iy.eqX F (cZ.tw F) _ H).trans h) (by kernel_rfl)
 ·cases h
def c_.twX (F:Nat) (ms:asL) (mM:asE) (wz:asE) (aa:Int) (ac:Int) (aM:Sl) (H:Hp):OA:=(Hp.new H [(.int .i64 aa),(.int .i64 ac),(.sl aM)]).bind λH4=>(Hp.ldI H4 .i64 H.length 0).bind λn5=>(ms n5 0 48 H4).bind λr6=>((r6.1).asB).bind λb7=>(bif b7 then ((Hp.ldI r6.2 .i64 H.length 1).bind λn8=>(ms n8 0 48 r6.2).bind λr9=>((r9.1).asB).bind λb10=>(bif b10 then ((Hp.ldSl r9.2 H.length 2).bind λs11=>(mM s11 r9.2).bind λr12=>((r12.1).asI .i64).bind λn13=>(if aX r9.2 r12.2 then ((Hp.ldI r12.2 .i64 H.length 0).bind λn14=>(Hp.ldI r12.2 .i64 H.length 1).bind λn15=>(bif (n13==(wrap .i64 (n14 * n15))) then ((Hp.ldSl r12.2 H.length 2).bind λs16=>(wz s16 r12.2).bind λr17=>((r17.1).asB).bind λb18=>some ((.bool (!b18)),r17.2)) else (some ((.bool false),r12.2)))) else none)) else (some ((.bool false),r9.2)))) else (some ((.bool false),r6.2)))
def c_.tw:=c_.twX F (gQ.tw F) (gr.tw F) (iy.tw F)
def c_.pn:Nat->List Nat:=dn [(1,[2,6,22])]
def c_.tb:Nat->List (List Nat):=dn [(1,[[],[0],[0,1],[0,1,2],[0,1,2,3],[0,1,2,3,4],[0,1,2,3,4,5],[0,1,2,3,4,5,6],[0,1,2,3,4,5,6,7],[0,1,2,3,4,5,6,7,8],[0,1,2,3,4,5,6,7,8,9],[0,1,2,3,4,5,6,7,8,9,10],[0,1,2,3,4,5,6,7,8],[0,1,2,3,4,5,6,7,8,12],[0,1,2,3,4,5,6,7,8],[0,1,2,3,4,5,6,7,8,14],[0,1,2,3,4,5,6,7,8,12,13,14,15],[0,1,2,3,4,5,6,7,8,9,10,11,12,13,14,15,16],[0,1,2,3,4,5,6,7,8,9,10,11,12,13,14,15,16,17],[0,1,2,3,4,5,6,7,8,9,10,11,12,13,14,15,16,17,18],[0,1,2,3,4,5,6,7,8,9,10,11,12,13,14,15,16,17,18,19],[0,1,2,3,4,5,6,7,8,9,10,11,12,13,14,15,16,17,18,19,20],[0,1,2,3,4,5,6,7,8,9,10,11,12,13,14,15,16,17,18,19,20,21],[0,1,2,3,4,5,6,7,8,9,10,11,12,13,14,15,16,17,18,19,20,21,22],[0,1,2,3,4,5,6,7,8,9,10,11,12,13,14,15,16,17,18,19,20,21,22,23],[0,1,2,3,4,5,6,7,8,9,10,11,12,13,14,15,16,17,18,19,20,21,22,23,24]])]
def mk9 (g:asz) (args:asJ) (H:Hp):OA:=match args with
 | [(.agg [(.int .i64 aa),(.int .i64 ac),(.sl aM)])]=>g aa ac aM H
 | _=>none
theorem mk9_E (g:asz) (aa:Int) (ac:Int) (aM:Sl) (H:Hp):mk9 g [(.agg [(.int .i64 aa),(.int .i64 ac),(.sl aM)])] H=g aa ac aM H:=rfl
def c_.cs (F:Nat) (ms:asL) (mM:asE) (wz:asE):Cs:=[(125,mk6 ms),(68,mk0 mM),(65,mk8 wz)]
theorem c_.eqX (ms:asL) (mM:asE) (wz:asE) (aa:Int) (ac:Int) (aM:Sl) (H:Hp):EX (bS (c_.cs F ms mM wz)) c_.pn lh0 F Try.f76 [(.agg [(.int .i64 aa),(.int .i64 ac),(.sl aM)])] H=c_.twX F ms mM wz aa ac aM H:=by kernel_rfl
theorem c_.k:Ok Try.prog 76 (mk9 (c_.tw F)):=by
 intro args H v H' h
 unfold mk9 at h
 split at h
 ·exact okT (TB:=c_.tb) Try.func76 (bH (gQ.k F) (bH (gr.k F) (bH (iy.k F) da))) af.no ((c_.eqX F (gQ.tw F) (gr.tw F) (iy.tw F) _ _ _ H).trans h) (by kernel_rfl)
 ·cases h
def cO.twX (F:Nat) (aa:Int) (aG:Int) (H:Hp):OA:=(Hp.new H [.int .i64 0,.int .i64 0,.sl ⟨none,0,.ex 0⟩]).bind λH3=>(Hp.mk H3 [.int .i64 0] 8 (wrap .i64 (aa * aG)) (wrap .i64 (aa * aG))).bind λm4=>(Hp.st m4.2 H.length 0 (.int .i64 aa)).bind λH5=>(Hp.st H5 H.length (0+1) (.int .i64 aG)).bind λH6=>(Hp.st H6 H.length (0+1+1) (.sl m4.1)).bind λH7=>(Hp.ldI H7 .i64 H.length 0).bind λn8=>(Hp.ldI H7 .i64 H.length (0+1)).bind λn9=>(Hp.ldSl H7 H.length (0+2)).bind λs10=>some ((.agg [(.int .i64 n8),(.int .i64 n9),(.sl s10)]),H7)
def cO.tw:=cO.twX F
theorem cO.k:Ok Try.prog 74 (mk3 (cO.tw F)):=by
 intro args H v H' h
 unfold mk3 at h
 split at h
 ·exact ok0 Try.func74 (Eq.trans (by kernel_rfl) h) (by kernel_rfl) (by kernel_rfl)
 ·cases h
def bf.twX (F:Nat) (aa:Int) (ac:Int) (aM:Sl) (au:Int) (ci:Int) (H:Hp):OA:=(Hp.new H [(.int .i64 aa),(.int .i64 ac),(.sl aM)]).bind λH6=>(Hp.ldSl H6 H.length 2).bind λs7=>(Hp.ldI H6 .i64 H.length 1).bind λn8=>(Sl.idx s7 (wrap .i64 ((wrap .i64 (au * n8))+ci)) 1).bind λp9=>some ((.ptr p9.1 p9.2),H6)
def bf.tw:=bf.twX F
def mk10 (g:asx) (args:asJ) (H:Hp):OA:=match args with
 | [(.agg [(.int .i64 aa),(.int .i64 ac),(.sl aM)]),(.int .i64 au),(.int .i64 ci)]=>g aa ac aM au ci H
 | _=>none
theorem mk10_E (g:asx) (aa:Int) (ac:Int) (aM:Sl) (au:Int) (ci:Int) (H:Hp):mk10 g [(.agg [(.int .i64 aa),(.int .i64 ac),(.sl aM)]),(.int .i64 au),(.int .i64 ci)] H=g aa ac aM au ci H:=rfl
theorem bf.k:Ok Try.prog 75 (mk10 (bf.tw F)):=by
 intro args H v H' h
 unfold mk10 at h
 split at h
 ·exact ok0 Try.func75 (Eq.trans (by kernel_rfl) h) (by kernel_rfl) (by kernel_rfl)
 ·cases h
def bv.j3 (F:Nat) (eH:asz) (bi:asC) (ag:asx) (C61_:asY) (EF:Nat) (afT:Nat) (EG:Nat) (afU:Nat) (EH:Nat) (afV:Nat) (wA:Int) (wB:Int) (H197:Hp):OA:=C61_ EF afT EG afU EH afV wA (wrap .i64 (wB+1)) H197
def bv.j4 (eH:asz) (bi:asC) (ag:asx) (C61_:asY) (EI:Nat) (afW:Nat) (EJ:Nat) (afX:Nat) (EK:Nat) (afY:Nat) (wC:Int) (wD:Int) (H179:Hp):OA:=bv.j3 F eH bi ag C61_ EI afW EJ afX EK afY wC wD H179
def bv.l3931 (F:Nat) (eH:asz) (bi:asC) (ag:asx) (C61_:asY):Nat->Nat->Nat->Nat->Nat->Nat->Nat->Int->Int->Int->Int->Int->Hp->OA
 | 0,_,_,_,_,_,_,_,_,_,_,_,_=>none
 | afZ+1,oc,uk,sm,EL,od,ul,oe,og,mN,oh,lq,H149=>(bif (decide (lq<oh)) then ((Hp.ldI H149 .i64 od ul).bind λn198=>(Hp.ldI H149 .i64 od (ul+1)).bind λn199=>(Hp.ldSl H149 od (ul+2)).bind λs200=>(ag n198 n199 s200 lq mN H149).bind λr201=>((r201.1).asP).bind λp202=>(if aX H149 r201.2 then ((Hp.ldI r201.2 .i64 oc uk).bind λn203=>(Hp.ldI r201.2 .i64 oc (uk+1)).bind λn204=>(Hp.ldSl r201.2 oc (uk+2)).bind λs205=>(ag n203 n204 s205 mN lq r201.2).bind λr206=>((r206.1).asP).bind λp207=>(Hp.ldI r206.2 .i64 p207.1 p207.2).bind λn208=>(Hp.st r206.2 p202.1 p202.2 (.int .i64 n208)).bind λH209=>bv.l3931 F eH bi ag C61_ afZ oc uk sm EL od ul oe og mN oh (wrap .i64 (lq+1)) H209) else none)) else (bv.j4 F eH bi ag C61_ oc uk sm EL od ul oe og H149))
termination_by structural n=>n
def bv.l61 (F:Nat) (eH:asz) (bi:asC) (ag:asx) :Nat->Nat->Nat->Nat->Nat->Nat->Nat->Int->Int->Hp->OA
 | 0,_,_,_,_,_,_,_,_,_=>none
 | mr+1,mO,EM,h_,qT,kr,wE,om,mP,H44=>(bif (decide (mP<om)) then ((Hp.ldI H44 .i64 mO (EM+1)).bind λn132=>bv.l3931 F eH bi ag (bv.l61 F eH bi ag mr) F mO EM h_ qT kr wE om mP mP n132 0 H44) else ((Hp.ldI H44 .i64 kr wE).bind λn210=>(Hp.ldI H44 .i64 kr (wE+1)).bind λn211=>(Hp.ldSl H44 kr (wE+2)).bind λs212=>(Hp.st H44 h_ qT (.int .i64 n210)).bind λH213=>(Hp.st H213 h_ (qT+1) (.int .i64 n211)).bind λH214=>(Hp.st H214 h_ (qT+1+1) (.sl s212)).bind λH215=>(Hp.ldI H215 .i64 h_ qT).bind λn216=>(Hp.ldI H215 .i64 h_ (qT+1)).bind λn217=>(Hp.ldSl H215 h_ (qT+2)).bind λs218=>some ((.agg [(.int .i64 n216),(.int .i64 n217),(.sl s218)]),H215)))
termination_by structural n=>n
def bv.twX (eH:asz) (bi:asC) (ag:asx) (aa:Int) (ac:Int) (aM:Sl) (H:Hp):OA:=(Hp.new H [(.int .i64 aa),(.int .i64 ac),(.sl aM)]).bind λH4=>(Hp.new H4 [.int .i64 0,.int .i64 0,.sl ⟨none,0,.ex 0⟩]).bind λH5=>(Hp.ldI H5 .i64 H.length 0).bind λn6=>(Hp.ldI H5 .i64 H.length (0+1)).bind λn7=>(Hp.ldSl H5 H.length (0+2)).bind λs8=>(eH n6 n7 s8 H5).bind λr9=>((r9.1).asB).bind λb10=>(bif (!b10) then ((Hp.st r9.2 H4.length 0 (.int .i64 0)).bind λH11=>(Hp.st H11 H4.length (0+1) (.int .i64 0)).bind λH12=>(Hp.st H12 H4.length (0+1+1) (.sl (⟨none,0,.ex 0⟩:Sl))).bind λH13=>(Hp.ldI H13 .i64 H4.length 0).bind λn14=>(Hp.ldI H13 .i64 H4.length (0+1)).bind λn15=>(Hp.ldSl H13 H4.length (0+2)).bind λs16=>some ((.agg [(.int .i64 n14),(.int .i64 n15),(.sl s16)]),H13)) else ((Hp.ldI r9.2 .i64 H.length 1).bind λn17=>(Hp.ldI r9.2 .i64 H.length 0).bind λn18=>(bi n17 n18 r9.2).bind λr19=>((r19.1).asAgg 3).bind λl20=>(l20[0]?).bind λv21=>((v21).asI .i64).bind λn22=>(l20[1]?).bind λv23=>((v23).asI .i64).bind λn24=>(l20[2]?).bind λv25=>((v25).asSl).bind λs26=>(Hp.new r19.2 [.int .i64 0,.int .i64 0,.sl ⟨none,0,.ex 0⟩]).bind λH27=>(Hp.st H27 r19.2.length 0 (.int .i64 n22)).bind λH28=>(Hp.st H28 r19.2.length (0+1) (.int .i64 n24)).bind λH29=>(Hp.st H29 r19.2.length (0+1+1) (.sl s26)).bind λH30=>(Hp.ldI H30 .i64 H.length 0).bind λn31=>bv.l61 F eH bi ag F H.length 0 H4.length 0 r19.2.length 0 n31 0 H30))
def bv.tw:=bv.twX F (c_.tw F) (cO.tw F) (bf.tw F)
def bv.lh61 (eH:asz) (bi:asC) (ag:asx) (ks:asD) (n:Nat) (tm:Tm) (H:Hp):OA:=match ks,tm 1,tm 2,tm 3,tm 16,tm 17 with
 | [],(.ptr mO EM),(.ptr h_ qT),(.ptr kr wE),(.int .i64 om),(.int .i64 mP)=>bv.l61 F eH bi ag n mO EM h_ qT kr wE om mP H
 | _,_,_,_,_,_=>none
def bv.lh3931 (eH:asz) (bi:asC) (ag:asx) (ks:asD) (n:Nat) (tm:Tm) (H:Hp):OA:=match ks,tm 1,tm 2,tm 3,tm 4,tm 16,tm 17,tm 21,tm 22 with
 | [mr],(.ptr oc uk),(.ptr sm EL),(.ptr od ul),(.int .i64 mN),(.int .i64 oe),(.int .i64 og),(.int .i64 oh),(.int .i64 lq)=>bv.l3931 F eH bi ag (bv.l61 F eH bi ag mr) n oc uk sm EL od ul oe og mN oh lq H
 | _,_,_,_,_,_,_,_,_=>none
def bv.lh (eH:asz) (bi:asC) (ag:asx) (p:Nat) (ks:asD) (n:Nat) (tm:Tm) (H:Hp):OA:=bif p.beq 3931 then bv.lh3931 F eH bi ag ks n tm H else (bif p.beq 61 then bv.lh61 F eH bi ag ks n tm H else (none))
def bv.pn:Nat->List Nat:=dn [(10,[7,11])]
def bv.tb:Nat->List (List Nat):=dn [(10,[[],[],[],[0,1,2],[],[],[],[0,1,2,3,4,5,6],[0,1,2,3,4,5,6,7],[0,1,2,3,4,5,6,7,8],[0,1,2,3,4,5,6,7,8,9],[0,1,2,3,4,5,6,7,8,9,10]])]
def bv.cs (F:Nat) (eH:asz) (bi:asC) (ag:asx):Cs:=[(76,mk9 eH),(74,mk3 bi),(75,mk10 ag)]
theorem bv.loops (eH:asz) (bi:asC) (ag:asx):LO (bS (bv.cs F eH bi ag)) bv.pn (bv.lh F eH bi ag) F Try.f23:=
 (af.rt (af.rt (af.rt (af.lt (af.rt (af.block (af.la (λn tm H r h=>by change bv.lh61 F eH bi ag [] n tm H=_ at h;unfold bv.lh61 at h;split at h;have e:cX tm [(1,_),(2,_),(3,_),(16,_),(17,_)]:=⟨‹_›,‹_›,‹_›,‹_›,‹_›,trivial⟩;obtain _ | k61:=n;cases h;exact ⟨_,rfl,by rw [<- db e];exact Eq.trans (by kernel_rfl) h⟩;cases h) λk61=>(af.rt (af.rt (af.lt (af.block (af.rt (af.rt (af.block (af.la (λn tm H r h=>by change bv.lh3931 F eH bi ag [k61] n tm H=_ at h;unfold bv.lh3931 at h;split at h;have e:cX tm [(1,_),(2,_),(3,_),(4,_),(16,_),(17,_),(21,_),(22,_)]:=⟨‹_›,‹_›,‹_›,‹_›,‹_›,‹_›,‹_›,‹_›,trivial⟩;cases (show [k61]=_ from ‹_›);obtain _ | k3931:=n;cases h;exact ⟨_,rfl,by rw [<- db e];exact Eq.trans (by kernel_rfl) h⟩;cases h) λk3931=>af.no)))))))))))))))
theorem bv.eqX (eH:asz) (bi:asC) (ag:asx) (aa:Int) (ac:Int) (aM:Sl) (H:Hp):EX (bS (bv.cs F eH bi ag)) bv.pn (bv.lh F eH bi ag) F Try.f23 [(.agg [(.int .i64 aa),(.int .i64 ac),(.sl aM)])] H=bv.twX F eH bi ag aa ac aM H:=by kernel_rfl
theorem bv.k:Ok Try.prog 23 (mk9 (bv.tw F)):=by
 intro args H v H' h
 unfold mk9 at h
 split at h
 ·exact okT (TB:=bv.tb) Try.func23 (bH (c_.k F) (bH (cO.k F) (bH (bf.k F) da))) (bv.loops F (c_.tw F) (cO.tw F) (bf.tw F)) ((bv.eqX F (c_.tw F) (cO.tw F) (bf.tw F) _ _ _ H).trans h) (by kernel_rfl)
 ·cases h
def dc.l29 (F:Nat) :Nat->Sl->Sl->Int->Int->Hp->OA
 | 0,_,_,_,_,_=>none
 | dL+1,iq,EN,oq,lr,H9=>(bif (decide (lr<oq)) then ((Sl.idx iq lr 1).bind λp14=>(Hp.ldI H9 .i64 p14.1 p14.2).bind λn15=>(Sl.idx EN lr 1).bind λp16=>(Hp.ldI H9 .i64 p16.1 p16.2).bind λn17=>(bif (n15 != n17) then (some ((.bool false),H9)) else (dc.l29 F dL iq EN oq (wrap .i64 (lr+1)) H9))) else (some ((.bool true),H9)))
def dc.twX (aa:Sl) (aG:Sl) (H:Hp):OA:=(bif ((aa.n:Int) != (aG.n:Int)) then (some ((.bool false),H)) else (dc.l29 F F aa aG (aa.n:Int) 0 H))
def dc.tw:=dc.twX F
def dc.lh29 (ks:asD) (n:Nat) (tm:Tm) (H:Hp):OA:=match ks,tm 0,tm 1,tm 12,tm 13 with
 | [],(.sl iq),(.sl EN),(.int .i64 oq),(.int .i64 lr)=>dc.l29 F n iq EN oq lr H
 | _,_,_,_,_=>none
def dc.lh (p:Nat) (ks:asD) (n:Nat) (tm:Tm) (H:Hp):OA:=bif p.beq 29 then dc.lh29 F ks n tm H else (none)
def dc.tb:Nat->List (List Nat):=dn [(6,[[],[],[0,1],[0,1,2],[],[],[4,5],[4,5,6],[0,1,2,3,4,5,6,7]])]
def mk11 (g:aty) (args:asJ) (H:Hp):OA:=match args with
 | [(.sl aa),(.sl aG)]=>g aa aG H
 | _=>none
theorem mk11_E (g:aty) (aa:Sl) (aG:Sl) (H:Hp):mk11 g [(.sl aa),(.sl aG)] H=g aa aG H:=rfl
theorem dc.loops:LO (bS []) cf (dc.lh F) F Try.f135:=
 (af.rt (af.rt (af.lt (af.rt (af.block (af.la (λn tm H r h=>by change dc.lh29 F [] n tm H=_ at h;unfold dc.lh29 at h;split at h;have e:cX tm [(0,_),(1,_),(12,_),(13,_)]:=⟨‹_›,‹_›,‹_›,‹_›,trivial⟩;obtain _ | k29:=n;cases h;exact ⟨_,rfl,by rw [<- db e];exact Eq.trans (by kernel_rfl) h⟩;cases h) λk29=>af.no))))))
theorem dc.k:Ok Try.prog 135 (mk11 (dc.tw F)):=by
 intro args H v H' h
 unfold mk11 at h
 split at h
 ·exact okT (PN:=cf) (LH:=(dc.lh F)) (F:=F) (TB:=dc.tb) Try.func135 da (dc.loops F) (Eq.trans (by kernel_rfl) h) (by kernel_rfl)
 ·cases h
def iz.twX (F:Nat) (wF:aty) (aa:Int) (ac:Int) (aM:Sl) (au:Int) (ct:Int) (ou:Sl) (H:Hp):OA:=(Hp.new H [(.int .i64 aa),(.int .i64 ac),(.sl aM)]).bind λH7=>(Hp.new H7 [(.int .i64 au),(.int .i64 ct),(.sl ou)]).bind λH8=>(Hp.ldI H8 .i64 H.length 0).bind λn9=>(Hp.ldI H8 .i64 H7.length 0).bind λn10=>(bif (n9==n10) then ((Hp.ldI H8 .i64 H.length 1).bind λn11=>(Hp.ldI H8 .i64 H7.length 1).bind λn12=>(bif (n11==n12) then ((Hp.ldSl H8 H.length 2).bind λs13=>(Hp.ldSl H8 H7.length 2).bind λs14=>(wF s13 s14 H8).bind λr15=>((r15.1).asB).bind λb16=>some ((.bool b16),r15.2)) else (some ((.bool false),H8)))) else (some ((.bool false),H8)))
def iz.tw:=iz.twX F (dc.tw F)
def mk12 (g:as5) (args:asJ) (H:Hp):OA:=match args with
 | [(.agg [(.int .i64 aa),(.int .i64 ac),(.sl aM)]),(.agg [(.int .i64 au),(.int .i64 ct),(.sl ou)])]=>g aa ac aM au ct ou H
 | _=>none
theorem mk12_E (g:as5) (aa:Int) (ac:Int) (aM:Sl) (au:Int) (ct:Int) (ou:Sl) (H:Hp):mk12 g [(.agg [(.int .i64 aa),(.int .i64 ac),(.sl aM)]),(.agg [(.int .i64 au),(.int .i64 ct),(.sl ou)])] H=g aa ac aM au ct ou H:=rfl
def iz.cs (F:Nat) (wF:aty):Cs:=[(135,mk11 wF)]
theorem iz.eqX (wF:aty) (aa:Int) (ac:Int) (aM:Sl) (au:Int) (ct:Int) (ou:Sl) (H:Hp):EX (bS (iz.cs F wF)) cf lh0 F Try.f84 [(.agg [(.int .i64 aa),(.int .i64 ac),(.sl aM)]),(.agg [(.int .i64 au),(.int .i64 ct),(.sl ou)])] H=iz.twX F wF aa ac aM au ct ou H:=by kernel_rfl
theorem iz.k:Ok Try.prog 84 (mk12 (iz.tw F)):=by
 intro args H v H' h
 unfold mk12 at h
 split at h
 ·exact okT (TB:=cf) Try.func84 (bH (dc.k F) da) af.no ((iz.eqX F (dc.tw F) _ _ _ _ _ _ H).trans h) (by kernel_rfl)
 ·cases h
def dx.twX (F:Nat) (aa:Int) (ac:Int) (aM:Sl) (au:Int) (H:Hp):OA:=(Hp.new H [(.int .i64 aa),(.int .i64 ac),(.sl aM)]).bind λH5=>(Hp.ldSl H5 H.length 2).bind λs6=>(Hp.ldI H5 .i64 H.length 1).bind λn7=>(Hp.ldI H5 .i64 H.length 1).bind λn8=>(Sl.cut s6 1 (wrap .i64 (au * n7)) (wrap .i64 ((wrap .i64 (au+1)) * n8))).bind λs9=>some ((.sl s9),H5)
def dx.tw:=dx.twX F
def mk13 (g:asG) (args:asJ) (H:Hp):OA:=match args with
 | [(.agg [(.int .i64 aa),(.int .i64 ac),(.sl aM)]),(.int .i64 au)]=>g aa ac aM au H
 | _=>none
theorem mk13_E (g:asG) (aa:Int) (ac:Int) (aM:Sl) (au:Int) (H:Hp):mk13 g [(.agg [(.int .i64 aa),(.int .i64 ac),(.sl aM)]),(.int .i64 au)] H=g aa ac aM au H:=rfl
theorem dx.k:Ok Try.prog 128 (mk13 (dx.tw F)):=by
 intro args H v H' h
 unfold mk13 at h
 split at h
 ·exact ok0 Try.func128 (Eq.trans (by kernel_rfl) h) (by kernel_rfl) (by kernel_rfl)
 ·cases h
def cW.twX (F:Nat) (aa:Int) (H:Hp):OA:=(bif (decide (aa<0)) then (some ((.int .i64 (wrap .i64 (0 - aa))),H)) else (some ((.int .i64 aa),H)))
def cW.tw:=cW.twX F
theorem cW.k:Ok Try.prog 97 (mk7 (cW.tw F)):=by
 intro args H v H' h
 unfold mk7 at h
 split at h
 ·exact ok0 Try.func97 (Eq.trans (by kernel_rfl) h) (by kernel_rfl) (by kernel_rfl)
 ·cases h
def bw.j3 (F:Nat) (bC:asG) (bW:asF) (C29_:asH) (EO:Nat) (af0:Nat) (wG:Int) (wH:Int) (wI:Int) (H139:Hp):OA:=C29_ EO af0 wG wH (wrap .i64 (wI+1)) H139
def bw.j4 (bC:asG) (bW:asF) (C29_:asH) (EP:Nat) (af1:Nat) (qw:Int) (ia:Int) (wJ:Int) (wK:Int) (H121:Hp):OA:=(bif (decide ((wrap .i64 (qw * (if 1>(if 1000000001<ia then 1000000001 else ia) then 1 else (if 1000000001<ia then 1000000001 else ia))))>1000000000)) then (some ((.int .i64 (wrap .i64 (qw * (if 1>(if 1000000001<ia then 1000000001 else ia) then 1 else (if 1000000001<ia then 1000000001 else ia))))),H121)) else (bw.j3 F bC bW C29_ EP af1 (wrap .i64 (qw * (if 1>(if 1000000001<ia then 1000000001 else ia) then 1 else (if 1000000001<ia then 1000000001 else ia)))) wJ wK H121))
def bw.l7533 (F:Nat) (bC:asG) (bW:asF) (C29_:asH):Nat->Nat->Nat->Int->Int->Int->Int->Sl->Int->Int->Hp->OA
 | 0,_,_,_,_,_,_,_,_,_,_=>none
 | af2+1,sp,EQ,ov,ox,oy,oz,ER,oA,mQ,H100=>(bif (decide (mQ<oA)) then ((Sl.idx ER mQ 1).bind λp140=>(Hp.ldI H100 .i64 p140.1 p140.2).bind λn141=>(bW n141 H100).bind λr142=>((r142.1).asI .i64).bind λn143=>bw.l7533 F bC bW C29_ af2 sp EQ ov ox oy (wrap .i64 (oz+n143)) ER oA (wrap .i64 (mQ+1)) r142.2) else (bw.j4 F bC bW C29_ sp EQ ov oz ox oy H100))
termination_by structural n=>n
def bw.l29 (F:Nat) (bC:asG) (bW:asF) :Nat->Nat->Nat->Int->Int->Int->Hp->OA
 | 0,_,_,_,_,_,_=>none
 | dL+1,lu,fp,fV,oB,mR,H15=>(bif (decide (mR<oB)) then ((Hp.ldI H15 .i64 lu fp).bind λn80=>(Hp.ldI H15 .i64 lu (fp+1)).bind λn81=>(Hp.ldSl H15 lu (fp+2)).bind λs82=>(bC n80 n81 s82 mR H15).bind λr83=>((r83.1).asSl).bind λs84=>bw.l7533 F bC bW (bw.l29 F bC bW dL) F lu fp fV oB mR 0 s84 (s84.n:Int) 0 r83.2) else (some ((.int .i64 fV),H15)))
termination_by structural n=>n
def bw.twX (bC:asG) (bW:asF) (aa:Int) (ac:Int) (aM:Sl) (H:Hp):OA:=(Hp.new H [(.int .i64 aa),(.int .i64 ac),(.sl aM)]).bind λH4=>(Hp.ldI H4 .i64 H.length 0).bind λn5=>bw.l29 F bC bW F H.length 0 1 n5 0 H4
def bw.tw:=bw.twX F (dx.tw F) (cW.tw F)
def bw.lh29 (bC:asG) (bW:asF) (ks:asD) (n:Nat) (tm:Tm) (H:Hp):OA:=match ks,tm 1,tm 3,tm 9,tm 10 with
 | [],(.ptr lu fp),(.int .i64 fV),(.int .i64 oB),(.int .i64 mR)=>bw.l29 F bC bW n lu fp fV oB mR H
 | _,_,_,_,_=>none
def bw.lh7533 (bC:asG) (bW:asF) (ks:asD) (n:Nat) (tm:Tm) (H:Hp):OA:=match ks,tm 1,tm 3,tm 5,tm 9,tm 10,tm 15,tm 16,tm 17 with
 | [dL],(.ptr sp EQ),(.int .i64 ov),(.int .i64 oz),(.int .i64 ox),(.int .i64 oy),(.sl ER),(.int .i64 oA),(.int .i64 mQ)=>bw.l7533 F bC bW (bw.l29 F bC bW dL) n sp EQ ov ox oy oz ER oA mQ H
 | _,_,_,_,_,_,_,_,_=>none
def bw.lh (bC:asG) (bW:asF) (p:Nat) (ks:asD) (n:Nat) (tm:Tm) (H:Hp):OA:=bif p.beq 7533 then bw.lh7533 F bC bW ks n tm H else (bif p.beq 29 then bw.lh29 F bC bW ks n tm H else (none))
def bw.cs (F:Nat) (bC:asG) (bW:asF):Cs:=[(128,mk13 bC),(97,mk7 bW)]
theorem bw.loops (bC:asG) (bW:asF):LO (bS (bw.cs F bC bW)) cf (bw.lh F bC bW) F Try.f77:=
 (af.rt (af.rt (af.lt (af.rt (af.block (af.la (λn tm H r h=>by change bw.lh29 F bC bW [] n tm H=_ at h;unfold bw.lh29 at h;split at h;have e:cX tm [(1,_),(3,_),(9,_),(10,_)]:=⟨‹_›,‹_›,‹_›,‹_›,trivial⟩;obtain _ | k29:=n;cases h;exact ⟨_,rfl,by rw [<- db e];exact Eq.trans (by kernel_rfl) h⟩;cases h) λk29=>(af.rt (af.rt (af.lt (af.block (af.rt (af.rt (af.lt (af.rt (af.block (af.la (λn tm H r h=>by change bw.lh7533 F bC bW [k29] n tm H=_ at h;unfold bw.lh7533 at h;split at h;have e:cX tm [(1,_),(3,_),(5,_),(9,_),(10,_),(15,_),(16,_),(17,_)]:=⟨‹_›,‹_›,‹_›,‹_›,‹_›,‹_›,‹_›,‹_›,trivial⟩;cases (show [k29]=_ from ‹_›);obtain _ | k7533:=n;cases h;exact ⟨_,rfl,by rw [<- db e];exact Eq.trans (by kernel_rfl) h⟩;cases h) λk7533=>af.no))))))))))))))))
theorem bw.eqX (bC:asG) (bW:asF) (aa:Int) (ac:Int) (aM:Sl) (H:Hp):EX (bS (bw.cs F bC bW)) cf (bw.lh F bC bW) F Try.f77 [(.agg [(.int .i64 aa),(.int .i64 ac),(.sl aM)])] H=bw.twX F bC bW aa ac aM H:=by kernel_rfl
theorem bw.k:Ok Try.prog 77 (mk9 (bw.tw F)):=by
 intro args H v H' h
 unfold mk9 at h
 split at h
 ·exact okT (TB:=cf) Try.func77 (bH (dx.k F) (bH (cW.k F) da)) (bw.loops F (dx.tw F) (cW.tw F)) ((bw.eqX F (dx.tw F) (cW.tw F) _ _ _ H).trans h) (by kernel_rfl)
 ·cases h
def aj.j22 (F:Nat) (bi:asC) (ag:asx) (C253_:asO) (ES:Nat) (af3:Nat) (wL:Int) (af4:Sl) (ET:Nat) (af5:Nat) (wM:Int) (H1314:Hp):OA:=C253_ ES af3 wL af4 ET af5 (wrap .i64 (wM+1)) H1314
def aj.j23 (bi:asC) (ag:asx) (C253_:asO) (EU:Nat) (af6:Nat) (su:Int) (VS:Sl) (um:Nat) (EV:Nat) (nE:Int) (wO:Nat) (LJ:Nat) (wP:Int) (H1284:Hp):OA:=(if nE=0 then none else ((Sl.idx VS (wrap .i64 (su - nE)) 1).bind λp1285=>(Hp.st H1284 p1285.1 p1285.2 (.int .i64 (wrap .i64 (Int.tdiv (wrap .i64 (0 - wP)) nE)))).bind λH1286=>(Hp.ldI H1286 .i64 wO LJ).bind λn1287=>(Hp.ldI H1286 .i64 wO (LJ+1)).bind λn1288=>(Hp.ldSl H1286 wO (LJ+2)).bind λs1289=>(Hp.st H1286 um EV (.int .i64 n1287)).bind λH1290=>(Hp.st H1290 um (EV+1) (.int .i64 n1288)).bind λH1291=>(Hp.st H1291 um (EV+1+1) (.sl s1289)).bind λH1292=>aj.j22 F bi ag C253_ EU af6 su VS um EV nE H1292))
def aj.j26 (F:Nat) (bi:asC) (ag:asx) (C64861_:as1) (EW:Nat) (af7:Nat) (wQ:Int) (af8:Sl) (EY:Nat) (af9:Nat) (wR:Int) (EZ:Nat) (af_:Nat) (wS:Int) (wT:Int) (wU:Int) (H1524:Hp):OA:=C64861_ EW af7 wQ af8 EY af9 wR EZ af_ wS wT (wrap .i64 (wU+1)) H1524
def aj.j27 (bi:asC) (ag:asx) (C64861_:as1) (E_:Nat) (aga:Nat) (wV:Int) (agb:Sl) (Fa:Nat) (agc:Nat) (wW:Int) (uo:Nat) (Fb:Nat) (wX:Int) (sx:Int) (wY:Int) (wZ:Int) (H1492:Hp):OA:=(Hp.ldI H1492 .i64 uo Fb).bind λn1493=>(Hp.ldI H1492 .i64 uo (Fb+1)).bind λn1494=>(Hp.ldSl H1492 uo (Fb+2)).bind λs1495=>(ag n1493 n1494 s1495 sx sx H1492).bind λr1496=>((r1496.1).asP).bind λp1497=>(Hp.ldI r1496.2 .i64 p1497.1 p1497.2).bind λn1498=>aj.j26 F bi ag C64861_ E_ aga wV agb Fa agc wW uo Fb (wrap .i64 (wX+n1498)) wY wZ r1496.2
def aj.j28 (F:Nat) (bi:asC) (ag:asx) (C8302261_:ata) (Fc:Nat) (agd:Nat) (w_:Int) (age:Sl) (Fe:Nat) (agf:Nat) (xa:Int) (Ff:Nat) (agh:Nat) (xb:Int) (xc:Int) (xd:Int) (xe:Int) (xf:Int) (xh:Int) (H1632:Hp):OA:=C8302261_ Fc agd w_ age Fe agf xa Ff agh xb xd xe xc xf (wrap .i64 (xh+1)) H1632
def aj.j29 (bi:asC) (ag:asx) (C8302261_:ata) (Fg:Nat) (agi:Nat) (xi:Int) (agj:Sl) (Fh:Nat) (agk:Nat) (xj:Int) (Fi:Nat) (agl:Nat) (xm:Int) (xn:Int) (xo:Int) (xp:Int) (xq:Int) (xr:Int) (H1602:Hp):OA:=aj.j28 F bi ag C8302261_ Fg agi xi agj Fh agk xj Fi agl xm xn xo xp xq xr H1602
def aj.l531344731 (F:Nat) (bi:asC) (ag:asx) (C253_:asO) (C64861_:as1) (C8302261_:ata):Nat->Nat->Nat->Int->Sl->Nat->Nat->Int->Nat->Nat->Int->Int->Int->Int->Int->Int->Int->Int->Int->Hp->OA
 | 0,_,_,_,_,_,_,_,_,_,_,_,_,_,_,_,_,_,_,_=>none
 | agm+1,oC,uq,oD,Fj,oE,ur,oF,oG,ut,oH,oI,oJ,lw,oK,oM,mS,oN,lx,H1553=>(bif (decide (lx<oN)) then ((Hp.ldI H1553 .i64 oG ut).bind λn1633=>(Hp.ldI H1553 .i64 oG (ut+1)).bind λn1634=>(Hp.ldSl H1553 oG (ut+2)).bind λs1635=>(ag n1633 n1634 s1635 lw mS H1553).bind λr1636=>((r1636.1).asP).bind λp1637=>(if aX H1553 r1636.2 then ((Hp.ldI r1636.2 .i64 p1637.1 p1637.2).bind λn1638=>(Hp.ldI r1636.2 .i64 oC uq).bind λn1639=>(Hp.ldI r1636.2 .i64 oC (uq+1)).bind λn1640=>(Hp.ldSl r1636.2 oC (uq+2)).bind λs1641=>(ag n1639 n1640 s1641 lw lx r1636.2).bind λr1642=>((r1642.1).asP).bind λp1643=>(if aX r1636.2 r1642.2 then ((Hp.ldI r1642.2 .i64 p1643.1 p1643.2).bind λn1644=>(Hp.ldI r1642.2 .i64 oE ur).bind λn1645=>(Hp.ldI r1642.2 .i64 oE (ur+1)).bind λn1646=>(Hp.ldSl r1642.2 oE (ur+2)).bind λs1647=>(ag n1645 n1646 s1647 lx mS r1642.2).bind λr1648=>((r1648.1).asP).bind λp1649=>(if aX r1642.2 r1648.2 then ((Hp.ldI r1648.2 .i64 p1649.1 p1649.2).bind λn1650=>(Hp.st r1648.2 p1637.1 p1637.2 (.int .i64 (wrap .i64 (n1638+(wrap .i64 (n1644 * n1650)))))).bind λH1651=>aj.l531344731 F bi ag C253_ C64861_ C8302261_ agm oC uq oD Fj oE ur oF oG ut oH oI oJ lw oK oM mS oN (wrap .i64 (lx+1)) H1651) else none)) else none)) else none)) else (aj.j29 F bi ag C8302261_ oC uq oD Fj oE ur oF oG ut oH lw oI oJ oK oM H1553))
termination_by structural n=>n
def aj.l8302261 (F:Nat) (bi:asC) (ag:asx) (C253_:asO) (C64861_:as1):Nat->Nat->Nat->Int->Sl->Nat->Nat->Int->Nat->Nat->Int->Int->Int->Int->Int->Int->Hp->OA
 | 0,_,_,_,_,_,_,_,_,_,_,_,_,_,_,_,_=>none
 | LL+1,sy,Fk,mT,Fl,sA,Fm,oO,sB,Fo,oP,oQ,oR,oS,oT,mU,H1339=>(bif (decide (mU<oT)) then (aj.l531344731 F bi ag C253_ C64861_ (aj.l8302261 F bi ag C253_ C64861_ LL) F sy Fk mT Fl sA Fm oO sB Fo oP oQ oR oS oT mU mU mT 0 H1339) else (aj.j27 F bi ag C64861_ sy Fk mT Fl sA Fm oO sB Fo oP oS oQ oR H1339))
termination_by structural n=>n
def aj.l64861 (F:Nat) (bi:asC) (ag:asx) (C253_:asO):Nat->Nat->Nat->Int->Sl->Nat->Nat->Int->Nat->Nat->Int->Int->Int->Hp->OA
 | 0,_,_,_,_,_,_,_,_,_,_,_,_,_=>none
 | xt+1,sC,Fp,mV,Fq,sD,Fs,oU,sE,Ft,oV,oW,mW,H925=>(bif (decide (mW<oW)) then (aj.l8302261 F bi ag C253_ (aj.l64861 F bi ag C253_ xt) F sC Fp mV Fq sD Fs oU sE Ft oV oW mW mW mV 0 H925) else (aj.j23 F bi ag C253_ sC Fp mV Fq sD Fs oU sE Ft oV H925))
termination_by structural n=>n
def aj.j30 (bi:asC) (ag:asx) (C253_:asO) (Fu:Nat) (agn:Nat) (sF:Int) (ago:Sl) (Fv:Nat) (agp:Nat) (xu:Int) (Fw:Nat) (agq:Nat) (xv:Int) (H904:Hp):OA:=aj.l64861 F bi ag C253_ F Fu agn sF ago Fv agp xu Fw agq xv sF 0 H904
def aj.l32429 (F:Nat) (bi:asC) (ag:asx) (C253_:asO):Nat->Nat->Nat->Int->Sl->Nat->Nat->Int->Nat->Nat->Int->Int->Int->Hp->OA
 | 0,_,_,_,_,_,_,_,_,_,_,_,_,_=>none
 | agr+1,sG,Fx,mX,BG,oX,uu,mY,sH,Fy,oY,oZ,ly,H876=>(bif (decide (ly<oZ)) then ((Hp.ldI H876 .i64 oX uu).bind λn1652=>(Hp.ldI H876 .i64 oX (uu+1)).bind λn1653=>(Hp.ldSl H876 oX (uu+2)).bind λs1654=>(ag n1652 n1653 s1654 ly ly H876).bind λr1655=>((r1655.1).asP).bind λp1656=>(if aX H876 r1655.2 then ((Hp.ldI r1655.2 .i64 p1656.1 p1656.2).bind λn1657=>(Sl.idx BG (wrap .i64 ((wrap .i64 (mX - mY))+1)) 1).bind λp1658=>(Hp.ldI r1655.2 .i64 p1658.1 p1658.2).bind λn1659=>(Hp.st r1655.2 p1656.1 p1656.2 (.int .i64 (wrap .i64 (n1657+n1659)))).bind λH1660=>aj.l32429 F bi ag C253_ agr sG Fx mX BG oX uu mY sH Fy oY oZ (wrap .i64 (ly+1)) H1660) else none)) else (aj.j30 F bi ag C253_ sG Fx mX BG oX uu mY sH Fy oY H876))
termination_by structural n=>n
def aj.l253 (F:Nat) (bi:asC) (ag:asx) :Nat->Nat->Nat->Int->Sl->Nat->Nat->Int->Hp->OA
 | 0,_,_,_,_,_,_,_,_=>none
 | jt+1,uv,xw,kt,Fz,uw,LM,o_,H32=>(bif (decide (o_<=kt)) then ((bi kt kt H32).bind λr847=>((r847.1).asAgg 3).bind λl848=>(l848[0]?).bind λv849=>((v849).asI .i64).bind λn850=>(l848[1]?).bind λv851=>((v851).asI .i64).bind λn852=>(l848[2]?).bind λv853=>((v853).asSl).bind λs854=>(Hp.new r847.2 [.int .i64 0,.int .i64 0,.sl ⟨none,0,.ex 0⟩]).bind λH855=>(Hp.st H855 r847.2.length 0 (.int .i64 n850)).bind λH856=>(Hp.st H856 r847.2.length (0+1) (.int .i64 n852)).bind λH857=>(Hp.st H857 r847.2.length (0+1+1) (.sl s854)).bind λH858=>aj.l32429 F bi ag (aj.l253 F bi ag jt) F uv xw kt Fz uw LM o_ r847.2.length 0 0 kt 0 H858) else (some ((.sl Fz),H32)))
termination_by structural n=>n
def aj.twX (bi:asC) (ag:asx) (aa:Int) (ac:Int) (aM:Sl) (H:Hp):OA:=(Hp.new H [(.int .i64 aa),(.int .i64 ac),(.sl aM)]).bind λH4=>(Hp.ldI H4 .i64 H.length 0).bind λn5=>(Hp.mk H4 [.int .i64 0] 8 (wrap .i64 (n5+1)) (wrap .i64 (n5+1))).bind λm6=>(Sl.idx m6.1 n5 1).bind λp7=>(Hp.st m6.2 p7.1 p7.2 (.int .i64 1)).bind λH8=>(bi n5 n5 H8).bind λr9=>((r9.1).asAgg 3).bind λl10=>(l10[0]?).bind λv11=>((v11).asI .i64).bind λn12=>(l10[1]?).bind λv13=>((v13).asI .i64).bind λn14=>(l10[2]?).bind λv15=>((v15).asSl).bind λs16=>(Hp.new r9.2 [.int .i64 0,.int .i64 0,.sl ⟨none,0,.ex 0⟩]).bind λH17=>(Hp.st H17 r9.2.length 0 (.int .i64 n12)).bind λH18=>(Hp.st H18 r9.2.length (0+1) (.int .i64 n14)).bind λH19=>(Hp.st H19 r9.2.length (0+1+1) (.sl s16)).bind λH20=>aj.l253 F bi ag F H.length 0 n5 m6.1 r9.2.length 0 1 H20
def aj.tw:=aj.twX F (cO.tw F) (bf.tw F)
def aj.lh253 (bi:asC) (ag:asx) (ks:asD) (n:Nat) (tm:Tm) (H:Hp):OA:=match ks,tm 1,tm 3,tm 4,tm 5,tm 6 with
 | [],(.ptr uv xw),(.int .i64 kt),(.sl Fz),(.ptr uw LM),(.int .i64 o_)=>aj.l253 F bi ag n uv xw kt Fz uw LM o_ H
 | _,_,_,_,_,_=>none
def aj.lh32429 (bi:asC) (ag:asx) (ks:asD) (n:Nat) (tm:Tm) (H:Hp):OA:=match ks,tm 1,tm 3,tm 4,tm 5,tm 6,tm 7,tm 8,tm 32,tm 33 with
 | [jt],(.ptr sG Fx),(.int .i64 mX),(.sl BG),(.ptr oX uu),(.int .i64 mY),(.ptr sH Fy),(.int .i64 oY),(.int .i64 oZ),(.int .i64 ly)=>aj.l32429 F bi ag (aj.l253 F bi ag jt) n sG Fx mX BG oX uu mY sH Fy oY oZ ly H
 | _,_,_,_,_,_,_,_,_,_=>none
def aj.lh64861 (bi:asC) (ag:asx) (ks:asD) (n:Nat) (tm:Tm) (H:Hp):OA:=match ks,tm 1,tm 3,tm 4,tm 5,tm 6,tm 7,tm 8,tm 52,tm 53 with
 | [jt],(.ptr sC Fp),(.int .i64 mV),(.sl Fq),(.ptr sD Fs),(.int .i64 oU),(.ptr sE Ft),(.int .i64 oV),(.int .i64 oW),(.int .i64 mW)=>aj.l64861 F bi ag (aj.l253 F bi ag jt) n sC Fp mV Fq sD Fs oU sE Ft oV oW mW H
 | _,_,_,_,_,_,_,_,_,_=>none
def aj.lh8302261 (bi:asC) (ag:asx) (ks:asD) (n:Nat) (tm:Tm) (H:Hp):OA:=match ks,tm 1,tm 3,tm 4,tm 5,tm 6,tm 7,tm 8,tm 10,tm 52,tm 53,tm 56,tm 57 with
 | [xt,jt],(.ptr sy Fk),(.int .i64 mT),(.sl Fl),(.ptr sA Fm),(.int .i64 oO),(.ptr sB Fo),(.int .i64 oP),(.int .i64 oS),(.int .i64 oQ),(.int .i64 oR),(.int .i64 oT),(.int .i64 mU)=>aj.l8302261 F bi ag (aj.l253 F bi ag jt) (aj.l64861 F bi ag (aj.l253 F bi ag jt) xt) n sy Fk mT Fl sA Fm oO sB Fo oP oQ oR oS oT mU H
 | _,_,_,_,_,_,_,_,_,_,_,_,_=>none
def aj.lh531344731 (bi:asC) (ag:asx) (ks:asD) (n:Nat) (tm:Tm) (H:Hp):OA:=match ks,tm 1,tm 3,tm 4,tm 5,tm 6,tm 7,tm 8,tm 10,tm 11,tm 52,tm 53,tm 56,tm 57,tm 60,tm 61 with
 | [LL,xt,jt],(.ptr oC uq),(.int .i64 oD),(.sl Fj),(.ptr oE ur),(.int .i64 oF),(.ptr oG ut),(.int .i64 oH),(.int .i64 lw),(.int .i64 mS),(.int .i64 oI),(.int .i64 oJ),(.int .i64 oK),(.int .i64 oM),(.int .i64 oN),(.int .i64 lx)=>aj.l531344731 F bi ag (aj.l253 F bi ag jt) (aj.l64861 F bi ag (aj.l253 F bi ag jt) xt) (aj.l8302261 F bi ag (aj.l253 F bi ag jt) (aj.l64861 F bi ag (aj.l253 F bi ag jt) xt) LL) n oC uq oD Fj oE ur oF oG ut oH oI oJ lw oK oM mS oN lx H
 | _,_,_,_,_,_,_,_,_,_,_,_,_,_,_,_=>none
def aj.lh (bi:asC) (ag:asx) (p:Nat) (ks:asD) (n:Nat) (tm:Tm) (H:Hp):OA:=bif p.beq 531344731 then aj.lh531344731 F bi ag ks n tm H else (bif p.beq 8302261 then aj.lh8302261 F bi ag ks n tm H else (bif p.beq 64861 then aj.lh64861 F bi ag ks n tm H else (bif p.beq 32429 then aj.lh32429 F bi ag ks n tm H else (bif p.beq 253 then aj.lh253 F bi ag ks n tm H else (none)))))
def aj.pn:Nat->List Nat:=dn [(13,[15]),(24,[21])]
def aj.tb:Nat->List (List Nat):=dn [(13,[[],[],[],[0,1,2],[0,1,2,3],[0,1,2,3,4],[],[],[],[7,8],[7,8,9],[6,7,8,9,10],[6,7,8,9,10,11],[0,1,2,3,4,5,6,7,8,9,10,11,12],[0,1,2,3,4,5,6,7,8,9,10,11,12,13],[0,1,2,3,4,5,6,7,8,9,10,11,12,13,14]]),(24,[[],[],[],[0,1,2],[0,1,2,3],[0,1,2,3,4],[],[],[],[0,1,2,3,6,7,8],[0,1,2,3,6,7,8,9],[0,1,2,3,6,7,8,9,10],[],[],[],[0,1,2,3,6,7,8,9,12,13,14],[0,1,2,3,6,7,8,9,12,13,14,15],[0,1,2,3,6,7,8,9,12,13,14,15,16],[0,1,2,3,6,7,8,9,10,11,12,13,14,15,16,17],[0,1,2,3,4,5,6,7,8,9,10,11,12,13,14,15,16,17,18],[0,1,2,3,4,5,6,7,8,9,10,11,12,13,14,15,16,17,18,19],[0,1,2,3,4,5,6,7,8,9,10,11,12,13,14,15,16,17,18,19,20]])]
def aj.cs (F:Nat) (bi:asC) (ag:asx):Cs:=[(74,mk3 bi),(75,mk10 ag)]
theorem aj.loops (bi:asC) (ag:asx):LO (bS (aj.cs F bi ag)) aj.pn (aj.lh F bi ag) F Try.f137:=
 (af.rt (af.rt (af.rt (af.rt (af.rt (af.lt (af.rt (af.block (af.la (λn tm H r h=>by change aj.lh253 F bi ag [] n tm H=_ at h;unfold aj.lh253 at h;split at h;have e:cX tm [(1,_),(3,_),(4,_),(5,_),(6,_)]:=⟨‹_›,‹_›,‹_›,‹_›,‹_›,trivial⟩;obtain _ | k253:=n;cases h;exact ⟨_,rfl,by rw [<- db e];exact Eq.trans (by kernel_rfl) h⟩;cases h) λk253=>(af.rt (af.lt (af.block (af.rt (af.rt (af.seq (af.rt (af.block (af.la (λn tm H r h=>by change aj.lh32429 F bi ag [k253] n tm H=_ at h;unfold aj.lh32429 at h;split at h;have e:cX tm [(1,_),(3,_),(4,_),(5,_),(6,_),(7,_),(8,_),(32,_),(33,_)]:=⟨‹_›,‹_›,‹_›,‹_›,‹_›,‹_›,‹_›,‹_›,‹_›,trivial⟩;cases (show [k253]=_ from ‹_›);obtain _ | k32429:=n;cases h;exact ⟨_,rfl,by rw [<- db e];exact Eq.trans (by kernel_rfl) h⟩;cases h) λk32429=>af.no))) (af.lt (af.rt (af.block (af.la (λn tm H r h=>by change aj.lh64861 F bi ag [k253] n tm H=_ at h;unfold aj.lh64861 at h;split at h;have e:cX tm [(1,_),(3,_),(4,_),(5,_),(6,_),(7,_),(8,_),(52,_),(53,_)]:=⟨‹_›,‹_›,‹_›,‹_›,‹_›,‹_›,‹_›,‹_›,‹_›,trivial⟩;cases (show [k253]=_ from ‹_›);obtain _ | k64861:=n;cases h;exact ⟨_,rfl,by rw [<- db e];exact Eq.trans (by kernel_rfl) h⟩;cases h) λk64861=>(af.rt (af.rt (af.lt (af.block (af.rt (af.lt (af.rt (af.block (af.la (λn tm H r h=>by change aj.lh8302261 F bi ag [k64861,k253] n tm H=_ at h;unfold aj.lh8302261 at h;split at h;have e:cX tm [(1,_),(3,_),(4,_),(5,_),(6,_),(7,_),(8,_),(10,_),(52,_),(53,_),(56,_),(57,_)]:=⟨‹_›,‹_›,‹_›,‹_›,‹_›,‹_›,‹_›,‹_›,‹_›,‹_›,‹_›,‹_›,trivial⟩;cases (show [k64861,k253]=_ from ‹_›);obtain _ | k8302261:=n;cases h;exact ⟨_,rfl,by rw [<- db e];exact Eq.trans (by kernel_rfl) h⟩;cases h) λk8302261=>(af.rt (af.rt (af.lt (af.block (af.rt (af.rt (af.block (af.la (λn tm H r h=>by change aj.lh531344731 F bi ag [k8302261,k64861,k253] n tm H=_ at h;unfold aj.lh531344731 at h;split at h;have e:cX tm [(1,_),(3,_),(4,_),(5,_),(6,_),(7,_),(8,_),(10,_),(11,_),(52,_),(53,_),(56,_),(57,_),(60,_),(61,_)]:=⟨‹_›,‹_›,‹_›,‹_›,‹_›,‹_›,‹_›,‹_›,‹_›,‹_›,‹_›,‹_›,‹_›,‹_›,‹_›,trivial⟩;cases (show [k8302261,k64861,k253]=_ from ‹_›);obtain _ | k531344731:=n;cases h;exact ⟨_,rfl,by rw [<- db e];exact Eq.trans (by kernel_rfl) h⟩;cases h) λk531344731=>af.no))))))))))))))))))))))))))))))))))))
theorem aj.eqX (bi:asC) (ag:asx) (aa:Int) (ac:Int) (aM:Sl) (H:Hp):EX (bS (aj.cs F bi ag)) aj.pn (aj.lh F bi ag) F Try.f137 [(.agg [(.int .i64 aa),(.int .i64 ac),(.sl aM)])] H=aj.twX F bi ag aa ac aM H:=by kernel_rfl
theorem aj.k:Ok Try.prog 137 (mk9 (aj.tw F)):=by
 intro args H v H' h
 unfold mk9 at h
 split at h
 ·exact okT (TB:=aj.tb) Try.func137 (bH (cO.k F) (bH (bf.k F) da)) (aj.loops F (cO.tw F) (bf.tw F)) ((aj.eqX F (cO.tw F) (bf.tw F) _ _ _ H).trans h) (by kernel_rfl)
 ·cases h
def gS.twX (F:Nat) (aa:Int) (H:Hp):OA:=(bif (decide (aa<0)) then (some ((.int .i64 (-1)),H)) else (some ((.int .i64 1),H)))
def gS.tw:=gS.twX F
theorem gS.k:Ok Try.prog 178 (mk7 (gS.tw F)):=by
 intro args H v H' h
 unfold mk7 at h
 split at h
 ·exact ok0 Try.func178 (Eq.trans (by kernel_rfl) h) (by kernel_rfl) (by kernel_rfl)
 ·cases h
def bD.j4 (F:Nat) (gu:asF) (C29_:asx) (xx:Int) (xy:Int) (ags:Sl) (xz:Int) (xA:Int) (H65:Hp):OA:=C29_ xx xy ags xz (wrap .i64 (xA+1)) H65
def bD.j5 (F:Nat) (gu:asF) (C29_:asx) (xB:Int) (xC:Int) (agt:Sl) (xD:Int) (xE:Int) (H93:Hp):OA:=C29_ xB xC agt xD (wrap .i64 (xE+1)) H93
def bD.j6 (gu:asF) (C29_:asx) (xF:Int) (xG:Int) (agu:Sl) (xH:Int) (xI:Int) (H79:Hp):OA:=(gu xG H79).bind λr80=>((r80.1).asI .i64).bind λn81=>bD.j5 F gu C29_ xF n81 agu xH xI r80.2
def bD.l29 (F:Nat) (gu:asF) :Nat->Int->Int->Sl->Int->Int->Hp->OA
 | 0,_,_,_,_,_,_=>none
 | dL+1,dr,eX,ux,ku,jQ,H9=>(bif (decide (jQ<ku)) then ((Sl.idx ux jQ 1).bind λp53=>(Hp.ldI H9 .i64 p53.1 p53.2).bind λn54=>(bif (n54==0) then (bD.j4 F gu (bD.l29 F gu dL) dr eX ux ku jQ H9) else ((bif (eX != 0) then ((gu n54 H9).bind λr66=>((r66.1).asI .i64).bind λn67=>(bif (n67 != eX) then (bD.j6 F gu (bD.l29 F gu dL) (wrap .i64 (dr+1)) n54 ux ku jQ r66.2) else (bD.j6 F gu (bD.l29 F gu dL) dr n54 ux ku jQ r66.2))) else ((gu n54 H9).bind λr94=>((r94.1).asI .i64).bind λn95=>bD.j5 F gu (bD.l29 F gu dL) dr n95 ux ku jQ r94.2))))) else (some ((.int .i64 dr),H9)))
def bD.twX (gu:asF) (aa:Sl) (H:Hp):OA:=bD.l29 F gu F 0 0 aa (aa.n:Int) 0 H
def bD.tw:=bD.twX F (gS.tw F)
def bD.lh29 (gu:asF) (ks:asD) (n:Nat) (tm:Tm) (H:Hp):OA:=match ks,tm 3,tm 4,tm 7,tm 8,tm 9 with
 | [],(.int .i64 dr),(.int .i64 eX),(.sl ux),(.int .i64 ku),(.int .i64 jQ)=>bD.l29 F gu n dr eX ux ku jQ H
 | _,_,_,_,_,_=>none
def bD.lh (gu:asF) (p:Nat) (ks:asD) (n:Nat) (tm:Tm) (H:Hp):OA:=bif p.beq 29 then bD.lh29 F gu ks n tm H else (none)
def bD.cs (F:Nat) (gu:asF):Cs:=[(178,mk7 gu)]
theorem bD.loops (gu:asF):LO (bS (bD.cs F gu)) cf (bD.lh F gu) F Try.f138:=
 (af.rt (af.rt (af.lt (af.rt (af.block (af.la (λn tm H r h=>by change bD.lh29 F gu [] n tm H=_ at h;unfold bD.lh29 at h;split at h;have e:cX tm [(3,_),(4,_),(7,_),(8,_),(9,_)]:=⟨‹_›,‹_›,‹_›,‹_›,‹_›,trivial⟩;obtain _ | k29:=n;cases h;exact ⟨_,rfl,by rw [<- db e];exact Eq.trans (by kernel_rfl) h⟩;cases h) λk29=>af.no))))))
theorem bD.eqX (gu:asF) (aa:Sl) (H:Hp):EX (bS (bD.cs F gu)) cf (bD.lh F gu) F Try.f138 [(.sl aa)] H=bD.twX F gu aa H:=by kernel_rfl
theorem bD.k:Ok Try.prog 138 (mk0 (bD.tw F)):=by
 intro args H v H' h
 unfold mk0 at h
 split at h
 ·exact okT (TB:=cf) Try.func138 (bH (gS.k F) da) (bD.loops F (gS.tw F)) ((bD.eqX F (gS.tw F) _ H).trans h) (by kernel_rfl)
 ·cases h
def iU.twX (F:Nat) (aa:Int) (H:Hp):OA:=some ((.int .i64 (wrap .i64 (1 - (wrap .i64 (2 * (Int.tmod aa 2)))))),H)
def iU.tw:=iU.twX F
theorem iU.k:Ok Try.prog 139 (mk7 (iU.tw F)):=by
 intro args H v H' h
 unfold mk7 at h
 split at h
 ·exact ok0 Try.func139 (Eq.trans (by kernel_rfl) h) (by kernel_rfl) (by kernel_rfl)
 ·cases h
def co.j1 (F:Nat) (jH:asz) (ju:asE) (jI:asF) (agv:Sl) (xJ:Int) (H40:Hp):OA:=(ju agv H40).bind λr41=>((r41.1).asI .i64).bind λn42=>some ((.int .i64 (wrap .i64 (xJ - n42))),r41.2)
def co.l61 (F:Nat) (jH:asz) (ju:asE) (jI:asF) :Nat->Sl->Int->Int->Int->Hp->OA
 | 0,_,_,_,_,_=>none
 | mr+1,jJ,pc,pd,dT,H22=>(bif (decide (dT<pd)) then ((Sl.idx jJ dT 1).bind λp43=>(Hp.ldI H22 .i64 p43.1 p43.2).bind λn44=>(jI dT H22).bind λr45=>((r45.1).asI .i64).bind λn46=>(if aX H22 r45.2 then ((Sl.idx jJ dT 1).bind λp47=>(Hp.st r45.2 p47.1 p47.2 (.int .i64 (wrap .i64 (n44 * n46)))).bind λH48=>co.l61 F jH ju jI mr jJ pc pd (wrap .i64 (dT+1)) H48) else none)) else (co.j1 F jH ju jI jJ pc H22))
def co.twX (jH:asz) (ju:asE) (jI:asF) (aa:Int) (ac:Int) (aM:Sl) (H:Hp):OA:=(Hp.new H [(.int .i64 aa),(.int .i64 ac),(.sl aM)]).bind λH4=>(Hp.ldI H4 .i64 H.length 0).bind λn5=>(Hp.ldI H4 .i64 H.length (0+1)).bind λn6=>(Hp.ldSl H4 H.length (0+2)).bind λs7=>(jH n5 n6 s7 H4).bind λr8=>((r8.1).asSl).bind λs9=>(ju s9 r8.2).bind λr10=>((r10.1).asI .i64).bind λn11=>co.l61 F jH ju jI F s9 n11 (s9.n:Int) 0 r10.2
def co.tw:=co.twX F (aj.tw F) (bD.tw F) (iU.tw F)
def co.lh61 (jH:asz) (ju:asE) (jI:asF) (ks:asD) (n:Nat) (tm:Tm) (H:Hp):OA:=match ks,tm 3,tm 4,tm 11,tm 12 with
 | [],(.sl jJ),(.int .i64 pc),(.int .i64 pd),(.int .i64 dT)=>co.l61 F jH ju jI n jJ pc pd dT H
 | _,_,_,_,_=>none
def co.lh (jH:asz) (ju:asE) (jI:asF) (p:Nat) (ks:asD) (n:Nat) (tm:Tm) (H:Hp):OA:=bif p.beq 61 then co.lh61 F jH ju jI ks n tm H else (none)
def co.pn:Nat->List Nat:=dn [(6,[8])]
def co.tb:Nat->List (List Nat):=dn [(6,[[],[],[0,1],[0,1,2],[],[4],[0,1,2,3,4,5],[0,1,2,3,4,5,6],[0,1,2,3,4,5,6,7]])]
def co.cs (F:Nat) (jH:asz) (ju:asE) (jI:asF):Cs:=[(137,mk9 jH),(138,mk0 ju),(139,mk7 jI)]
theorem co.loops (jH:asz) (ju:asE) (jI:asF):LO (bS (co.cs F jH ju jI)) co.pn (co.lh F jH ju jI) F Try.f88:=
 (af.rt (af.rt (af.rt (af.lt (af.rt (af.block (af.la (λn tm H r h=>by change co.lh61 F jH ju jI [] n tm H=_ at h;unfold co.lh61 at h;split at h;have e:cX tm [(3,_),(4,_),(11,_),(12,_)]:=⟨‹_›,‹_›,‹_›,‹_›,trivial⟩;obtain _ | k61:=n;cases h;exact ⟨_,rfl,by rw [<- db e];exact Eq.trans (by kernel_rfl) h⟩;cases h) λk61=>af.no)))))))
theorem co.eqX (jH:asz) (ju:asE) (jI:asF) (aa:Int) (ac:Int) (aM:Sl) (H:Hp):EX (bS (co.cs F jH ju jI)) co.pn (co.lh F jH ju jI) F Try.f88 [(.agg [(.int .i64 aa),(.int .i64 ac),(.sl aM)])] H=co.twX F jH ju jI aa ac aM H:=by kernel_rfl
theorem co.k:Ok Try.prog 88 (mk9 (co.tw F)):=by
 intro args H v H' h
 unfold mk9 at h
 split at h
 ·exact okT (TB:=co.tb) Try.func88 (bH (aj.k F) (bH (bD.k F) (bH (iU.k F) da))) (co.loops F (aj.tw F) (bD.tw F) (iU.tw F)) ((co.eqX F (aj.tw F) (bD.tw F) (iU.tw F) _ _ _ H).trans h) (by kernel_rfl)
 ·cases h
def eJ.twX (F:Nat) (eH:asz) (xK:asz) (xL:as5) (xM:asz) (xN:asz) (aa:Int) (ac:Int) (aM:Sl) (H:Hp):OA:=(Hp.new H [(.int .i64 aa),(.int .i64 ac),(.sl aM)]).bind λH4=>(Hp.ldI H4 .i64 H.length 0).bind λn5=>(Hp.ldI H4 .i64 H.length (0+1)).bind λn6=>(Hp.ldSl H4 H.length (0+2)).bind λs7=>(eH n5 n6 s7 H4).bind λr8=>((r8.1).asB).bind λb9=>(bif (!b9) then (some ((.tup [(.int .i64 0),(.int .i64 1)]),r8.2)) else ((Hp.ldI r8.2 .i64 H.length 0).bind λn10=>(Hp.ldI r8.2 .i64 H.length 1).bind λn11=>(bif (n10 != n11) then (some ((.tup [(.int .i64 0),(.int .i64 2)]),r8.2)) else ((Hp.ldI r8.2 .i64 H.length 0).bind λn12=>(Hp.ldI r8.2 .i64 H.length (0+1)).bind λn13=>(Hp.ldSl r8.2 H.length (0+2)).bind λs14=>(Hp.ldI r8.2 .i64 H.length 0).bind λn15=>(Hp.ldI r8.2 .i64 H.length (0+1)).bind λn16=>(Hp.ldSl r8.2 H.length (0+2)).bind λs17=>(xK n15 n16 s17 r8.2).bind λr18=>((r18.1).asAgg 3).bind λl19=>(l19[0]?).bind λv20=>((v20).asI .i64).bind λn21=>(l19[1]?).bind λv22=>((v22).asI .i64).bind λn23=>(l19[2]?).bind λv24=>((v24).asSl).bind λs25=>(if aX r8.2 r18.2 then ((xL n12 n13 s14 n21 n23 s25 r18.2).bind λr26=>((r26.1).asB).bind λb27=>(bif (!b27) then (some ((.tup [(.int .i64 0),(.int .i64 2)]),r26.2)) else ((Hp.ldI r26.2 .i64 H.length 0).bind λn28=>(bif (decide (n28>12)) then (some ((.tup [(.int .i64 0),(.int .i64 3)]),r26.2)) else ((Hp.ldI r26.2 .i64 H.length 0).bind λn29=>(Hp.ldI r26.2 .i64 H.length (0+1)).bind λn30=>(Hp.ldSl r26.2 H.length (0+2)).bind λs31=>(xM n29 n30 s31 r26.2).bind λr32=>((r32.1).asI .i64).bind λn33=>(bif (decide (n33>1000000000)) then (some ((.tup [(.int .i64 0),(.int .i64 3)]),r32.2)) else ((Hp.ldI r32.2 .i64 H.length 0).bind λn34=>(Hp.ldI r32.2 .i64 H.length (0+1)).bind λn35=>(Hp.ldSl r32.2 H.length (0+2)).bind λs36=>(xN n34 n35 s36 r32.2).bind λr37=>((r37.1).asI .i64).bind λn38=>some ((.tup [(.int .i64 n38),(.int .i64 0)]),r37.2)))))))) else none)))))
def eJ.tw:=eJ.twX F (c_.tw F) (bv.tw F) (iz.tw F) (bw.tw F) (co.tw F)
def eJ.pn:Nat->List Nat:=dn [(3,[9])]
def eJ.tb:Nat->List (List Nat):=dn [(3,[[],[0],[],[2],[0,1,2,3],[0,1,2,3,4],[0,1,2,3,4,5],[0,1,2,3,4,5],[0,1,2,3,4,5,7],[0,1,2,3,4,5,6,7,8],[0,1,2,3,4,5,6,7,8,9],[0,1,2,3,4,5,6,7,8,9,10],[0,1,2,3,4,5,6,7,8,9,10,11]])]
def eJ.cs (F:Nat) (eH:asz) (xK:asz) (xL:as5) (xM:asz) (xN:asz):Cs:=[(76,mk9 eH),(23,mk9 xK),(84,mk12 xL),(77,mk9 xM),(88,mk9 xN)]
theorem eJ.eqX (eH:asz) (xK:asz) (xL:as5) (xM:asz) (xN:asz) (aa:Int) (ac:Int) (aM:Sl) (H:Hp):EX (bS (eJ.cs F eH xK xL xM xN)) eJ.pn lh0 F Try.f34 [(.agg [(.int .i64 aa),(.int .i64 ac),(.sl aM)])] H=eJ.twX F eH xK xL xM xN aa ac aM H:=by kernel_rfl
theorem eJ.k:Ok Try.prog 34 (mk9 (eJ.tw F)):=by
 intro args H v H' h
 unfold mk9 at h
 split at h
 ·exact okT (TB:=eJ.tb) Try.func34 (bH (c_.k F) (bH (bv.k F) (bH (iz.k F) (bH (bw.k F) (bH (co.k F) da))))) af.no ((eJ.eqX F (c_.tw F) (bv.tw F) (iz.tw F) (bw.tw F) (co.tw F) _ _ _ H).trans h) (by kernel_rfl)
 ·cases h
def iA.twX (F:Nat) (aa:Int) (aG:Int) (ga:Int) (H:Hp):OA:=(bif (decide (aa>=aG)) then (some ((.bool (decide (aa<=ga))),H)) else (some ((.bool false),H)))
def iA.tw:=iA.twX F
theorem iA.k:Ok Try.prog 70 (mk6 (iA.tw F)):=by
 intro args H v H' h
 unfold mk6 at h
 split at h
 ·exact ok0 Try.func70 (Eq.trans (by kernel_rfl) h) (by kernel_rfl) (by kernel_rfl)
 ·cases h
def cz.l29 (F:Nat) (jK:asL) :Nat->Nat->Nat->Int->Hp->OA
 | 0,_,_,_,_=>none
 | dL+1,qU,BH,mZ,H22=>(Hp.ldSl H22 qU (BH+2)).bind λs29=>(bif (decide (mZ<(s29.n:Int))) then ((Hp.ldSl H22 qU (BH+2)).bind λs30=>(Sl.idx s30 mZ 1).bind λp31=>(Hp.ldI H22 .i64 p31.1 p31.2).bind λn32=>(jK n32 (-1000000000000) 1000000000000 H22).bind λr33=>((r33.1).asB).bind λb34=>(bif (!b34) then (some ((.bool false),r33.2)) else (cz.l29 F jK dL qU BH (wrap .i64 (mZ+1)) r33.2))) else (some ((.bool true),H22)))
termination_by structural n=>n
def cz.twX (jK:asL) (aa:Int) (ac:Int) (aM:Sl) (H:Hp):OA:=(Hp.new H [(.int .i64 aa),(.int .i64 ac),(.sl aM)]).bind λH4=>(Hp.ldI H4 .i64 H.length 0).bind λn5=>(jK n5 0 48 H4).bind λr6=>((r6.1).asB).bind λb7=>(bif (!b7) then (some ((.bool false),r6.2)) else ((Hp.ldI r6.2 .i64 H.length 1).bind λn8=>(jK n8 0 48 r6.2).bind λr9=>((r9.1).asB).bind λb10=>(bif (!b10) then (some ((.bool false),r9.2)) else ((Hp.ldSl r9.2 H.length 2).bind λs11=>(Hp.ldI r9.2 .i64 H.length 0).bind λn12=>(Hp.ldI r9.2 .i64 H.length 1).bind λn13=>(bif ((s11.n:Int) != (wrap .i64 (n12 * n13))) then (some ((.bool false),r9.2)) else (cz.l29 F jK F H.length 0 0 r9.2))))))
def cz.tw:=cz.twX F (iA.tw F)
def cz.lh29 (jK:asL) (ks:asD) (n:Nat) (tm:Tm) (H:Hp):OA:=match ks,tm 1,tm 3 with
 | [],(.ptr qU BH),(.int .i64 mZ)=>cz.l29 F jK n qU BH mZ H
 | _,_,_=>none
def cz.lh (jK:asL) (p:Nat) (ks:asD) (n:Nat) (tm:Tm) (H:Hp):OA:=bif p.beq 29 then cz.lh29 F jK ks n tm H else (none)
def cz.cs (F:Nat) (jK:asL):Cs:=[(70,mk6 jK)]
theorem cz.loops (jK:asL):LO (bS (cz.cs F jK)) cf (cz.lh F jK) F Try.f29:=
 (af.rt (af.rt (af.lt (af.rt (af.block (af.la (λn tm H r h=>by change cz.lh29 F jK [] n tm H=_ at h;unfold cz.lh29 at h;split at h;have e:cX tm [(1,_),(3,_)]:=⟨‹_›,‹_›,trivial⟩;obtain _ | k29:=n;cases h;exact ⟨_,rfl,by rw [<- db e];exact Eq.trans (by kernel_rfl) h⟩;cases h) λk29=>af.no))))))
theorem cz.eqX (jK:asL) (aa:Int) (ac:Int) (aM:Sl) (H:Hp):EX (bS (cz.cs F jK)) cf (cz.lh F jK) F Try.f29 [(.agg [(.int .i64 aa),(.int .i64 ac),(.sl aM)])] H=cz.twX F jK aa ac aM H:=by kernel_rfl
theorem cz.k:Ok Try.prog 29 (mk9 (cz.tw F)):=by
 intro args H v H' h
 unfold mk9 at h
 split at h
 ·exact okT (TB:=cf) Try.func29 (bH (iA.k F) da) (cz.loops F (iA.tw F)) ((cz.eqX F (iA.tw F) _ _ _ H).trans h) (by kernel_rfl)
 ·cases h
def bJ.twX (F:Nat) (aa:Int) (ac:Int) (aM:Sl) (au:Int) (ci:Int) (H:Hp):OA:=(Hp.new H [(.int .i64 aa),(.int .i64 ac),(.sl aM)]).bind λH6=>(Hp.ldSl H6 H.length 2).bind λs7=>(Hp.ldI H6 .i64 H.length 1).bind λn8=>(Sl.idx s7 (wrap .i64 ((wrap .i64 (au * n8))+ci)) 1).bind λp9=>(Hp.ldI H6 .i64 p9.1 p9.2).bind λn10=>some ((.int .i64 n10),H6)
def bJ.tw:=bJ.twX F
theorem bJ.k:Ok Try.prog 62 (mk10 (bJ.tw F)):=by
 intro args H v H' h
 unfold mk10 at h
 split at h
 ·exact ok0 Try.func62 (Eq.trans (by kernel_rfl) h) (by kernel_rfl) (by kernel_rfl)
 ·cases h
def bz.j3 (F:Nat) (fl:asz) (aT:asC) (ax:asx) (C61_:atb) (FA:Nat) (agw:Nat) (FB:Nat) (agx:Nat) (FC:Nat) (agy:Nat) (xO:Int) (H171:Hp):OA:=C61_ FA agw FB agx FC agy (wrap .i64 (xO+1)) H171
def bz.j4 (fl:asz) (aT:asC) (ax:asx) (C61_:atb) (FD:Nat) (agz:Nat) (FE:Nat) (agA:Nat) (FF:Nat) (agB:Nat) (xP:Int) (H156:Hp):OA:=bz.j3 F fl aT ax C61_ FD agz FE agA FF agB xP H156
def bz.l981 (F:Nat) (fl:asz) (aT:asC) (ax:asx) (C61_:atb):Nat->Nat->Nat->Nat->Nat->Nat->Nat->Int->Int->Hp->OA
 | 0,_,_,_,_,_,_,_,_,_=>none
 | agC+1,m_,qV,sI,FG,qW,BI,lz,lA,H131=>(Hp.ldI H131 .i64 m_ (qV+1)).bind λn172=>(bif (decide (lA<n172)) then ((Hp.ldSl H131 qW (BI+2)).bind λs173=>(Hp.ldI H131 .i64 m_ qV).bind λn174=>(Hp.ldI H131 .i64 m_ qV).bind λn175=>(Hp.ldI H131 .i64 m_ (qV+1)).bind λn176=>(Hp.ldSl H131 m_ (qV+2)).bind λs177=>(ax n175 n176 s177 lz lA H131).bind λr178=>((r178.1).asI .i64).bind λn179=>(if aX H131 r178.2 then ((Sl.idx s173 (wrap .i64 ((wrap .i64 (lA * n174))+lz)) 1).bind λp180=>(Hp.st r178.2 p180.1 p180.2 (.int .i64 n179)).bind λH181=>bz.l981 F fl aT ax C61_ agC m_ qV sI FG qW BI lz (wrap .i64 (lA+1)) H181) else none)) else (bz.j4 F fl aT ax C61_ m_ qV sI FG qW BI lz H131))
termination_by structural n=>n
def bz.l61 (F:Nat) (fl:asz) (aT:asC) (ax:asx) :Nat->Nat->Nat->Nat->Nat->Nat->Nat->Int->Hp->OA
 | 0,_,_,_,_,_,_,_,_=>none
 | mr+1,sJ,mO,jp,h_,lp,kr,iI,H42=>(Hp.ldI H42 .i64 sJ mO).bind λn117=>(bif (decide (iI<n117)) then (bz.l981 F fl aT ax (bz.l61 F fl aT ax mr) F sJ mO jp h_ lp kr iI 0 H42) else ((Hp.ldI H42 .i64 lp kr).bind λn182=>(Hp.ldI H42 .i64 lp (kr+1)).bind λn183=>(Hp.ldSl H42 lp (kr+2)).bind λs184=>(Hp.st H42 jp h_ (.int .i64 n182)).bind λH185=>(Hp.st H185 jp (h_+1) (.int .i64 n183)).bind λH186=>(Hp.st H186 jp (h_+1+1) (.sl s184)).bind λH187=>(Hp.ldI H187 .i64 jp h_).bind λn188=>(Hp.ldI H187 .i64 jp (h_+1)).bind λn189=>(Hp.ldSl H187 jp (h_+2)).bind λs190=>some ((.agg [(.int .i64 n188),(.int .i64 n189),(.sl s190)]),H187)))
termination_by structural n=>n
def bz.twX (fl:asz) (aT:asC) (ax:asx) (aa:Int) (ac:Int) (aM:Sl) (H:Hp):OA:=(Hp.new H [(.int .i64 aa),(.int .i64 ac),(.sl aM)]).bind λH4=>(Hp.new H4 [.int .i64 0,.int .i64 0,.sl ⟨none,0,.ex 0⟩]).bind λH5=>(Hp.ldI H5 .i64 H.length 0).bind λn6=>(Hp.ldI H5 .i64 H.length (0+1)).bind λn7=>(Hp.ldSl H5 H.length (0+2)).bind λs8=>(fl n6 n7 s8 H5).bind λr9=>((r9.1).asB).bind λb10=>(bif (!b10) then ((Hp.st r9.2 H4.length 0 (.int .i64 0)).bind λH11=>(Hp.st H11 H4.length (0+1) (.int .i64 0)).bind λH12=>(Hp.st H12 H4.length (0+1+1) (.sl (⟨none,0,.ex 0⟩:Sl))).bind λH13=>(Hp.ldI H13 .i64 H4.length 0).bind λn14=>(Hp.ldI H13 .i64 H4.length (0+1)).bind λn15=>(Hp.ldSl H13 H4.length (0+2)).bind λs16=>some ((.agg [(.int .i64 n14),(.int .i64 n15),(.sl s16)]),H13)) else ((Hp.ldI r9.2 .i64 H.length 1).bind λn17=>(Hp.ldI r9.2 .i64 H.length 0).bind λn18=>(aT n17 n18 r9.2).bind λr19=>((r19.1).asAgg 3).bind λl20=>(l20[0]?).bind λv21=>((v21).asI .i64).bind λn22=>(l20[1]?).bind λv23=>((v23).asI .i64).bind λn24=>(l20[2]?).bind λv25=>((v25).asSl).bind λs26=>(Hp.new r19.2 [.int .i64 0,.int .i64 0,.sl ⟨none,0,.ex 0⟩]).bind λH27=>(Hp.st H27 r19.2.length 0 (.int .i64 n22)).bind λH28=>(Hp.st H28 r19.2.length (0+1) (.int .i64 n24)).bind λH29=>(Hp.st H29 r19.2.length (0+1+1) (.sl s26)).bind λH30=>bz.l61 F fl aT ax F H.length 0 H4.length 0 r19.2.length 0 0 H30))
def bz.tw:=bz.twX F (cz.tw F) (cD.tw F) (bJ.tw F)
def bz.lh61 (fl:asz) (aT:asC) (ax:asx) (ks:asD) (n:Nat) (tm:Tm) (H:Hp):OA:=match ks,tm 1,tm 2,tm 3,tm 4 with
 | [],(.ptr sJ mO),(.ptr jp h_),(.ptr lp kr),(.int .i64 iI)=>bz.l61 F fl aT ax n sJ mO jp h_ lp kr iI H
 | _,_,_,_,_=>none
def bz.lh981 (fl:asz) (aT:asC) (ax:asx) (ks:asD) (n:Nat) (tm:Tm) (H:Hp):OA:=match ks,tm 1,tm 2,tm 3,tm 4,tm 5 with
 | [mr],(.ptr m_ qV),(.ptr sI FG),(.ptr qW BI),(.int .i64 lz),(.int .i64 lA)=>bz.l981 F fl aT ax (bz.l61 F fl aT ax mr) n m_ qV sI FG qW BI lz lA H
 | _,_,_,_,_,_=>none
def bz.lh (fl:asz) (aT:asC) (ax:asx) (p:Nat) (ks:asD) (n:Nat) (tm:Tm) (H:Hp):OA:=bif p.beq 981 then bz.lh981 F fl aT ax ks n tm H else (bif p.beq 61 then bz.lh61 F fl aT ax ks n tm H else (none))
def bz.pn:Nat->List Nat:=dn [(10,[13])]
def bz.tb:Nat->List (List Nat):=dn [(10,[[],[0],[],[],[3],[2,3,4],[],[2,3,4,5,6],[],[],[],[8,9,10],[0,1,2,3,4,5,6,7,8,9,10,11],[0,1,2,3,4,5,6,7,8,9,10,11,12]])]
def bz.cs (F:Nat) (fl:asz) (aT:asC) (ax:asx):Cs:=[(29,mk9 fl),(63,mk3 aT),(62,mk10 ax)]
theorem bz.loops (fl:asz) (aT:asC) (ax:asx):LO (bS (bz.cs F fl aT ax)) bz.pn (bz.lh F fl aT ax) F Try.f90:=
 (af.rt (af.rt (af.rt (af.lt (af.rt (af.block (af.la (λn tm H r h=>by change bz.lh61 F fl aT ax [] n tm H=_ at h;unfold bz.lh61 at h;split at h;have e:cX tm [(1,_),(2,_),(3,_),(4,_)]:=⟨‹_›,‹_›,‹_›,‹_›,trivial⟩;obtain _ | k61:=n;cases h;exact ⟨_,rfl,by rw [<- db e];exact Eq.trans (by kernel_rfl) h⟩;cases h) λk61=>(af.rt (af.lt (af.block (af.rt (af.block (af.la (λn tm H r h=>by change bz.lh981 F fl aT ax [k61] n tm H=_ at h;unfold bz.lh981 at h;split at h;have e:cX tm [(1,_),(2,_),(3,_),(4,_),(5,_)]:=⟨‹_›,‹_›,‹_›,‹_›,‹_›,trivial⟩;cases (show [k61]=_ from ‹_›);obtain _ | k981:=n;cases h;exact ⟨_,rfl,by rw [<- db e];exact Eq.trans (by kernel_rfl) h⟩;cases h) λk981=>af.no)))))))))))))
theorem bz.eqX (fl:asz) (aT:asC) (ax:asx) (aa:Int) (ac:Int) (aM:Sl) (H:Hp):EX (bS (bz.cs F fl aT ax)) bz.pn (bz.lh F fl aT ax) F Try.f90 [(.agg [(.int .i64 aa),(.int .i64 ac),(.sl aM)])] H=bz.twX F fl aT ax aa ac aM H:=by kernel_rfl
theorem bz.k:Ok Try.prog 90 (mk9 (bz.tw F)):=by
 intro args H v H' h
 unfold mk9 at h
 split at h
 ·exact okT (TB:=bz.tb) Try.func90 (bH (cz.k F) (bH (cD.k F) (bH (bJ.k F) da))) (bz.loops F (cz.tw F) (cD.tw F) (bJ.tw F)) ((bz.eqX F (cz.tw F) (cD.tw F) (bJ.tw F) _ _ _ H).trans h) (by kernel_rfl)
 ·cases h
def dC.l29 (F:Nat) :Nat->Nat->Nat->Nat->Nat->Int->Hp->OA
 | 0,_,_,_,_,_,_=>none
 | dL+1,qX,BJ,sK,FH,iK,H28=>(Hp.ldSl H28 qX (BJ+2)).bind λs36=>(bif (decide (iK<(s36.n:Int))) then ((Hp.ldSl H28 qX (BJ+2)).bind λs37=>(Sl.idx s37 iK 1).bind λp38=>(Hp.ldI H28 .i64 p38.1 p38.2).bind λn39=>(Hp.ldSl H28 sK (FH+2)).bind λs40=>(Sl.idx s40 iK 1).bind λp41=>(Hp.ldI H28 .i64 p41.1 p41.2).bind λn42=>(bif (n39 != n42) then (some ((.bool false),H28)) else (dC.l29 F dL qX BJ sK FH (wrap .i64 (iK+1)) H28))) else (some ((.bool true),H28)))
termination_by structural n=>n
def dC.twX (aa:Int) (ac:Int) (aM:Sl) (au:Int) (ct:Int) (ou:Sl) (H:Hp):OA:=(Hp.new H [(.int .i64 aa),(.int .i64 ac),(.sl aM)]).bind λH7=>(Hp.new H7 [(.int .i64 au),(.int .i64 ct),(.sl ou)]).bind λH8=>(Hp.ldI H8 .i64 H.length 0).bind λn9=>(Hp.ldI H8 .i64 H7.length 0).bind λn10=>(bif (n9 != n10) then (some ((.bool false),H8)) else ((Hp.ldI H8 .i64 H.length 1).bind λn11=>(Hp.ldI H8 .i64 H7.length 1).bind λn12=>(bif (n11 != n12) then (some ((.bool false),H8)) else ((Hp.ldSl H8 H.length 2).bind λs13=>(Hp.ldSl H8 H7.length 2).bind λs14=>(bif ((s13.n:Int) != (s14.n:Int)) then (some ((.bool false),H8)) else (dC.l29 F F H.length 0 H7.length 0 0 H8))))))
def dC.tw:=dC.twX F
def dC.lh29 (ks:asD) (n:Nat) (tm:Tm) (H:Hp):OA:=match ks,tm 2,tm 3,tm 5 with
 | [],(.ptr qX BJ),(.ptr sK FH),(.int .i64 iK)=>dC.l29 F n qX BJ sK FH iK H
 | _,_,_,_=>none
def dC.lh (p:Nat) (ks:asD) (n:Nat) (tm:Tm) (H:Hp):OA:=bif p.beq 29 then dC.lh29 F ks n tm H else (none)
def dC.tb:Nat->List (List Nat):=dn [(6,[[],[0],[],[0,1,2],[0,1,2,3],[],[5],[],[5,6,7],[5,6,7,8],[0,1,2,3,4,5,6,7,8,9]])]
theorem dC.loops:LO (bS []) cf (dC.lh F) F Try.f89:=
 (af.rt (af.rt (af.lt (af.rt (af.block (af.la (λn tm H r h=>by change dC.lh29 F [] n tm H=_ at h;unfold dC.lh29 at h;split at h;have e:cX tm [(2,_),(3,_),(5,_)]:=⟨‹_›,‹_›,‹_›,trivial⟩;obtain _ | k29:=n;cases h;exact ⟨_,rfl,by rw [<- db e];exact Eq.trans (by kernel_rfl) h⟩;cases h) λk29=>af.no))))))
theorem dC.k:Ok Try.prog 89 (mk12 (dC.tw F)):=by
 intro args H v H' h
 unfold mk12 at h
 split at h
 ·exact okT (PN:=cf) (LH:=(dC.lh F)) (F:=F) (TB:=dC.tb) Try.func89 da (dC.loops F) (Eq.trans (by kernel_rfl) h) (by kernel_rfl)
 ·cases h
def fW.twX (F:Nat) (aa:Int) (H:Hp):OA:=some ((.int .i64 (if (wrap .i64 (0 - aa))>aa then (wrap .i64 (0 - aa)) else aa)),H)
def fW.tw:=fW.twX F
theorem fW.k:Ok Try.prog 130 (mk7 (fW.tw F)):=by
 intro args H v H' h
 unfold mk7 at h
 split at h
 ·exact ok0 Try.func130 (Eq.trans (by kernel_rfl) h) (by kernel_rfl) (by kernel_rfl)
 ·cases h
def bF.j3 (F:Nat) (ax:asx) (gF:asF) (C29_:asW) (FI:Nat) (agD:Nat) (xQ:Int) (xR:Int) (H115:Hp):OA:=C29_ FI agD xQ (wrap .i64 (xR+1)) H115
def bF.j4 (ax:asx) (gF:asF) (C29_:asW) (FJ:Nat) (agE:Nat) (xS:Int) (xT:Int) (nF:Int) (H102:Hp):OA:=(if (if nF>1 then nF else 1)=0 then none else (bF.j3 F ax gF C29_ FJ agE (wrap .i64 (Int.tdiv xS (if nF>1 then nF else 1))) xT H102))
def bF.l1877 (F:Nat) (ax:asx) (gF:asF) (C29_:asW):Nat->Nat->Nat->Int->Int->Int->Int->Hp->OA
 | 0,_,_,_,_,_,_,_=>none
 | agF+1,nG,sL,pe,na,pf,nb,H81=>(Hp.ldI H81 .i64 nG (sL+1)).bind λn116=>(bif (decide (nb<n116)) then ((Hp.ldI H81 .i64 nG sL).bind λn117=>(Hp.ldI H81 .i64 nG (sL+1)).bind λn118=>(Hp.ldSl H81 nG (sL+2)).bind λs119=>(ax n117 n118 s119 na nb H81).bind λr120=>((r120.1).asI .i64).bind λn121=>(gF n121 r120.2).bind λr122=>((r122.1).asI .i64).bind λn123=>bF.l1877 F ax gF C29_ agF nG sL pe na (wrap .i64 (pf+n123)) (wrap .i64 (nb+1)) r122.2) else (bF.j4 F ax gF C29_ nG sL pe na pf H81))
termination_by structural n=>n
def bF.l29 (F:Nat) (ax:asx) (gF:asF) :Nat->Nat->Nat->Int->Int->Hp->OA
 | 0,_,_,_,_,_=>none
 | dL+1,kV,lu,pg,ph,H13=>(Hp.ldI H13 .i64 kV lu).bind λn69=>(bif (decide (ph<n69)) then (bF.l1877 F ax gF (bF.l29 F ax gF dL) F kV lu pg ph 0 0 H13) else (some ((.bool (decide (pg>0))),H13)))
termination_by structural n=>n
def bF.twX (ax:asx) (gF:asF) (aa:Int) (ac:Int) (aM:Sl) (H:Hp):OA:=(Hp.new H [(.int .i64 aa),(.int .i64 ac),(.sl aM)]).bind λH4=>bF.l29 F ax gF F H.length 0 1000000000 0 H4
def bF.tw:=bF.twX F (bJ.tw F) (fW.tw F)
def bF.lh29 (ax:asx) (gF:asF) (ks:asD) (n:Nat) (tm:Tm) (H:Hp):OA:=match ks,tm 1,tm 3,tm 4 with
 | [],(.ptr kV lu),(.int .i64 pg),(.int .i64 ph)=>bF.l29 F ax gF n kV lu pg ph H
 | _,_,_,_=>none
def bF.lh1877 (ax:asx) (gF:asF) (ks:asD) (n:Nat) (tm:Tm) (H:Hp):OA:=match ks,tm 1,tm 3,tm 4,tm 5,tm 6 with
 | [dL],(.ptr nG sL),(.int .i64 pe),(.int .i64 na),(.int .i64 pf),(.int .i64 nb)=>bF.l1877 F ax gF (bF.l29 F ax gF dL) n nG sL pe na pf nb H
 | _,_,_,_,_,_=>none
def bF.lh (ax:asx) (gF:asF) (p:Nat) (ks:asD) (n:Nat) (tm:Tm) (H:Hp):OA:=bif p.beq 1877 then bF.lh1877 F ax gF ks n tm H else (bif p.beq 29 then bF.lh29 F ax gF ks n tm H else (none))
def bF.cs (F:Nat) (ax:asx) (gF:asF):Cs:=[(62,mk10 ax),(130,mk7 gF)]
theorem bF.loops (ax:asx) (gF:asF):LO (bS (bF.cs F ax gF)) cf (bF.lh F ax gF) F Try.f80:=
 (af.rt (af.rt (af.lt (af.rt (af.block (af.la (λn tm H r h=>by change bF.lh29 F ax gF [] n tm H=_ at h;unfold bF.lh29 at h;split at h;have e:cX tm [(1,_),(3,_),(4,_)]:=⟨‹_›,‹_›,‹_›,trivial⟩;obtain _ | k29:=n;cases h;exact ⟨_,rfl,by rw [<- db e];exact Eq.trans (by kernel_rfl) h⟩;cases h) λk29=>(af.rt (af.lt (af.block (af.rt (af.lt (af.rt (af.block (af.la (λn tm H r h=>by change bF.lh1877 F ax gF [k29] n tm H=_ at h;unfold bF.lh1877 at h;split at h;have e:cX tm [(1,_),(3,_),(4,_),(5,_),(6,_)]:=⟨‹_›,‹_›,‹_›,‹_›,‹_›,trivial⟩;cases (show [k29]=_ from ‹_›);obtain _ | k1877:=n;cases h;exact ⟨_,rfl,by rw [<- db e];exact Eq.trans (by kernel_rfl) h⟩;cases h) λk1877=>af.no))))))))))))))
theorem bF.eqX (ax:asx) (gF:asF) (aa:Int) (ac:Int) (aM:Sl) (H:Hp):EX (bS (bF.cs F ax gF)) cf (bF.lh F ax gF) F Try.f80 [(.agg [(.int .i64 aa),(.int .i64 ac),(.sl aM)])] H=bF.twX F ax gF aa ac aM H:=by kernel_rfl
theorem bF.k:Ok Try.prog 80 (mk9 (bF.tw F)):=by
 intro args H v H' h
 unfold mk9 at h
 split at h
 ·exact okT (TB:=cf) Try.func80 (bH (bJ.k F) (bH (fW.k F) da)) (bF.loops F (bJ.tw F) (fW.tw F)) ((bF.eqX F (bJ.tw F) (fW.tw F) _ _ _ H).trans h) (by kernel_rfl)
 ·cases h
def aC.j4 (F:Nat) (aT:asC) (ax:asx) (qY:Nat) (xU:Nat) (xV:Int) (xW:Nat) (LN:Nat) (H180:Hp):OA:=(Hp.ldI H180 .i64 xW LN).bind λn181=>(Hp.ldI H180 .i64 xW (LN+1)).bind λn182=>(Hp.ldSl H180 xW (LN+2)).bind λs183=>(Hp.st H180 qY xU (.int .i64 n181)).bind λH184=>(Hp.st H184 qY (xU+1) (.int .i64 n182)).bind λH185=>(Hp.st H185 qY (xU+1+1) (.sl s183)).bind λH186=>(Hp.ldI H186 .i64 qY xU).bind λn187=>(Hp.ldI H186 .i64 qY (xU+1)).bind λn188=>(Hp.ldSl H186 qY (xU+2)).bind λs189=>some ((.tup [(.agg [(.int .i64 n187),(.int .i64 n188),(.sl s189)]),(.int .i64 xV)]),H186)
def aC.j5 (F:Nat) (aT:asC) (ax:asx) (C253_:atc) (FK:Nat) (agG:Nat) (FL:Nat) (agH:Nat) (agI:Sl) (xX:Int) (FM:Nat) (agJ:Nat) (xY:Int) (H260:Hp):OA:=C253_ FK agG FL agH agI xX FM agJ (wrap .i64 (xY+1)) H260
def aC.j6 (aT:asC) (ax:asx) (C253_:atc) (FN:Nat) (agK:Nat) (oa:Nat) (agL:Nat) (se:Sl) (xZ:Int) (FO:Nat) (agM:Nat) (x_:Int) (H240:Hp):OA:=aC.j5 F aT ax C253_ FN agK oa agL se xZ FO agM x_ H240
def aC.l4053 (F:Nat) (aT:asC) (ax:asx) (C253_:atc):Nat->Nat->Nat->Nat->Nat->Sl->Int->Nat->Nat->Int->Int->Hp->OA
 | 0,_,_,_,_,_,_,_,_,_,_,_=>none
 | LI+1,pi,uy,sM,FP,ya,lC,qZ,BK,lD,lE,H208=>(bif (decide (lE<lC)) then ((Hp.ldSl H208 qZ (BK+2)).bind λs261=>(Hp.ldI H208 .i64 pi uy).bind λn262=>(Hp.ldI H208 .i64 pi (uy+1)).bind λn263=>(Hp.ldSl H208 pi (uy+2)).bind λs264=>(Sl.idx ya lD 1).bind λp265=>(Hp.ldI H208 .i64 p265.1 p265.2).bind λn266=>(Sl.idx ya lE 1).bind λp267=>(Hp.ldI H208 .i64 p267.1 p267.2).bind λn268=>(ax n262 n263 s264 n266 n268 H208).bind λr269=>((r269.1).asI .i64).bind λn270=>(if aX H208 r269.2 then ((Sl.idx s261 (wrap .i64 ((wrap .i64 (lD * lC))+lE)) 1).bind λp271=>(Hp.st r269.2 p271.1 p271.2 (.int .i64 n270)).bind λH272=>aC.l4053 F aT ax C253_ LI pi uy sM FP ya lC qZ BK lD (wrap .i64 (lE+1)) H272) else none)) else (aC.j6 F aT ax C253_ pi uy sM FP ya lC qZ BK lD H208))
termination_by structural n=>n
def aC.l253 (F:Nat) (aT:asC) (ax:asx) :Nat->Nat->Nat->Nat->Nat->Sl->Int->Nat->Nat->Int->Hp->OA
 | 0,_,_,_,_,_,_,_,_,_,_=>none
 | jt+1,uz,LP,jL,nH,LQ,ne,sN,FQ,pj,H79=>(bif (decide (pj<ne)) then (aC.l4053 F aT ax (aC.l253 F aT ax jt) F uz LP jL nH LQ ne sN FQ pj 0 H79) else (aC.j4 F aT ax jL nH ne sN FQ H79))
termination_by structural n=>n
def aC.j7 (aT:asC) (ax:asx) (FR:Nat) (agN:Nat) (FS:Nat) (agO:Nat) (FT:Sl) (H50:Hp):OA:=(aT (FT.n:Int) (FT.n:Int) H50).bind λr51=>((r51.1).asAgg 3).bind λl52=>(l52[0]?).bind λv53=>((v53).asI .i64).bind λn54=>(l52[1]?).bind λv55=>((v55).asI .i64).bind λn56=>(l52[2]?).bind λv57=>((v57).asSl).bind λs58=>(Hp.new r51.2 [.int .i64 0,.int .i64 0,.sl ⟨none,0,.ex 0⟩]).bind λH59=>(Hp.st H59 r51.2.length 0 (.int .i64 n54)).bind λH60=>(Hp.st H60 r51.2.length (0+1) (.int .i64 n56)).bind λH61=>(Hp.st H61 r51.2.length (0+1+1) (.sl s58)).bind λH62=>aC.l253 F aT ax F FR agN FS agO FT (FT.n:Int) r51.2.length 0 0 H62
def aC.j8 (F:Nat) (aT:asC) (ax:asx) (C29_:atD) (yb:Int) (FU:Nat) (agP:Nat) (FW:Nat) (agQ:Nat) (agR:Sl) (yc:Int) (H290:Hp):OA:=C29_ yb FU agP FW agQ agR (wrap .i64 (yc+1)) H290
def aC.l29 (F:Nat) (aT:asC) (ax:asx) :Nat->Int->Nat->Nat->Nat->Nat->Sl->Int->Hp->OA
 | 0,_,_,_,_,_,_,_,_=>none
 | dL+1,dU,fN,yd,du,jR,jS,iB,H19=>(Hp.ldI H19 .i64 fN yd).bind λn273=>(bif (decide (iB<n273)) then ((if (IntKind.u64.wrap iB)<0 then none else ((bif ((Go.bits .and .i64 (Int.fdiv dU (2 ^ (min ((IntKind.u64.wrap iB):Int).toNat (IntKind.i64).bits))) 1)==1) then ((Hp.new H19 [(.int .i64 iB)]).bind λH274=>(Sl.row H274 (⟨some (H19.length,0),1,.ex 1⟩:Sl) 1).bind λxs276=>(Hp.app H274 1 8 jS (⟨some (H19.length,0),1,.ex 1⟩:Sl).n xs276).bind λa275=>aC.j8 F aT ax (aC.l29 F aT ax dL) dU fN yd du jR a275.1 iB a275.2) else (aC.j8 F aT ax (aC.l29 F aT ax dL) dU fN yd du jR jS iB H19))))) else (aC.j7 F aT ax fN yd du jR jS H19))
termination_by structural n=>n
def aC.twX (aT:asC) (ax:asx) (aa:Int) (ac:Int) (aM:Sl) (au:Int) (H:Hp):OA:=(Hp.new H [(.int .i64 aa),(.int .i64 ac),(.sl aM)]).bind λH5=>(Hp.new H5 [.int .i64 0,.int .i64 0,.sl ⟨none,0,.ex 0⟩]).bind λH6=>(Hp.new H6 []).bind λH7=>aC.l29 F aT ax F au H.length 0 H5.length 0 (⟨some (H6.length,0),0,.ex 0⟩:Sl) 0 H7
def aC.tw:=aC.twX F (cD.tw F) (bJ.tw F)
def aC.lh29 (aT:asC) (ax:asx) (ks:asD) (n:Nat) (tm:Tm) (H:Hp):OA:=match ks,tm 1,tm 2,tm 4,tm 6,tm 7 with
 | [],(.int .i64 dU),(.ptr fN yd),(.ptr du jR),(.sl jS),(.int .i64 iB)=>aC.l29 F aT ax n dU fN yd du jR jS iB H
 | _,_,_,_,_,_=>none
def aC.lh253 (aT:asC) (ax:asx) (ks:asD) (n:Nat) (tm:Tm) (H:Hp):OA:=match ks,tm 2,tm 4,tm 6,tm 8,tm 9,tm 10 with
 | [],(.ptr uz LP),(.ptr jL nH),(.sl LQ),(.int .i64 ne),(.ptr sN FQ),(.int .i64 pj)=>aC.l253 F aT ax n uz LP jL nH LQ ne sN FQ pj H
 | _,_,_,_,_,_,_=>none
def aC.lh4053 (aT:asC) (ax:asx) (ks:asD) (n:Nat) (tm:Tm) (H:Hp):OA:=match ks,tm 2,tm 4,tm 6,tm 8,tm 9,tm 10,tm 11 with
 | [jt],(.ptr pi uy),(.ptr sM FP),(.sl ya),(.int .i64 lC),(.ptr qZ BK),(.int .i64 lD),(.int .i64 lE)=>aC.l4053 F aT ax (aC.l253 F aT ax jt) n pi uy sM FP ya lC qZ BK lD lE H
 | _,_,_,_,_,_,_,_=>none
def aC.lh (aT:asC) (ax:asx) (p:Nat) (ks:asD) (n:Nat) (tm:Tm) (H:Hp):OA:=bif p.beq 4053 then aC.lh4053 F aT ax ks n tm H else (bif p.beq 253 then aC.lh253 F aT ax ks n tm H else (bif p.beq 29 then aC.lh29 F aT ax ks n tm H else (none)))
def aC.pn:Nat->List Nat:=dn [(15,[18])]
def aC.tb:Nat->List (List Nat):=dn [(15,[[],[0],[],[],[2,3],[],[2,3,4,5],[],[],[],[8,9],[8,9,10],[],[],[12,13],[12,13,14],[7,8,9,10,11,12,13,14,15],[0,1,2,3,4,5,6,7,8,9,10,11,12,13,14,15,16],[0,1,2,3,4,5,6,7,8,9,10,11,12,13,14,15,16,17]])]
def aC.cs (F:Nat) (aT:asC) (ax:asx):Cs:=[(63,mk3 aT),(62,mk10 ax)]
theorem aC.loops (aT:asC) (ax:asx):LO (bS (aC.cs F aT ax)) aC.pn (aC.lh F aT ax) F Try.f140:=
 (af.rt (af.rt (af.seq (af.rt (af.block (af.la (λn tm H r h=>by change aC.lh29 F aT ax [] n tm H=_ at h;unfold aC.lh29 at h;split at h;have e:cX tm [(1,_),(2,_),(4,_),(6,_),(7,_)]:=⟨‹_›,‹_›,‹_›,‹_›,‹_›,trivial⟩;obtain _ | k29:=n;cases h;exact ⟨_,rfl,by rw [<- db e];exact Eq.trans (by kernel_rfl) h⟩;cases h) λk29=>af.no))) (af.rt (af.rt (af.lt (af.rt (af.block (af.la (λn tm H r h=>by change aC.lh253 F aT ax [] n tm H=_ at h;unfold aC.lh253 at h;split at h;have e:cX tm [(2,_),(4,_),(6,_),(8,_),(9,_),(10,_)]:=⟨‹_›,‹_›,‹_›,‹_›,‹_›,‹_›,trivial⟩;obtain _ | k253:=n;cases h;exact ⟨_,rfl,by rw [<- db e];exact Eq.trans (by kernel_rfl) h⟩;cases h) λk253=>(af.rt (af.lt (af.block (af.rt (af.block (af.la (λn tm H r h=>by change aC.lh4053 F aT ax [k253] n tm H=_ at h;unfold aC.lh4053 at h;split at h;have e:cX tm [(2,_),(4,_),(6,_),(8,_),(9,_),(10,_),(11,_)]:=⟨‹_›,‹_›,‹_›,‹_›,‹_›,‹_›,‹_›,trivial⟩;cases (show [k253]=_ from ‹_›);obtain _ | k4053:=n;cases h;exact ⟨_,rfl,by rw [<- db e];exact Eq.trans (by kernel_rfl) h⟩;cases h) λk4053=>af.no)))))))))))))))
theorem aC.eqX (aT:asC) (ax:asx) (aa:Int) (ac:Int) (aM:Sl) (au:Int) (H:Hp):EX (bS (aC.cs F aT ax)) aC.pn (aC.lh F aT ax) F Try.f140 [(.agg [(.int .i64 aa),(.int .i64 ac),(.sl aM)]),(.int .i64 au)] H=aC.twX F aT ax aa ac aM au H:=by kernel_rfl
theorem aC.k:Ok Try.prog 140 (mk13 (aC.tw F)):=by
 intro args H v H' h
 unfold mk13 at h
 split at h
 ·exact okT (TB:=aC.tb) Try.func140 (bH (cD.k F) (bH (bJ.k F) da)) (aC.loops F (cD.tw F) (bJ.tw F)) ((aC.eqX F (cD.tw F) (bJ.tw F) _ _ _ _ H).trans h) (by kernel_rfl)
 ·cases h
def cl.l7 (F:Nat) (ax:asx) :Nat->Int->Int->Nat->Nat->Int->Hp->OA
 | 0,_,_,_,_,_,_=>none
 | q_+1,fp,kw,fV,dD,iC,H15=>(Hp.ldI H15 .i64 fV (dD+1)).bind λn35=>(bif (decide (iC<n35)) then ((Hp.ldI H15 .i64 fV dD).bind λn36=>(Hp.ldI H15 .i64 fV (dD+1)).bind λn37=>(Hp.ldSl H15 fV (dD+2)).bind λs38=>(ax n36 n37 s38 fp iC H15).bind λr39=>((r39.1).asI .i64).bind λn40=>(Hp.ldSl r39.2 fV (dD+2)).bind λs41=>(Hp.ldI r39.2 .i64 fV (dD+1)).bind λn42=>(Hp.ldI r39.2 .i64 fV dD).bind λn43=>(Hp.ldI r39.2 .i64 fV (dD+1)).bind λn44=>(Hp.ldSl r39.2 fV (dD+2)).bind λs45=>(ax n43 n44 s45 kw iC r39.2).bind λr46=>((r46.1).asI .i64).bind λn47=>(if aX r39.2 r46.2 then ((Sl.idx s41 (wrap .i64 ((wrap .i64 (fp * n42))+iC)) 1).bind λp48=>(Hp.st r46.2 p48.1 p48.2 (.int .i64 n47)).bind λH49=>(Hp.ldSl H49 fV (dD+2)).bind λs50=>(Hp.ldI H49 .i64 fV (dD+1)).bind λn51=>(Sl.idx s50 (wrap .i64 ((wrap .i64 (kw * n51))+iC)) 1).bind λp52=>(Hp.st H49 p52.1 p52.2 (.int .i64 n40)).bind λH53=>cl.l7 F ax q_ fp kw fV dD (wrap .i64 (iC+1)) H53) else none)) else (some ((.tup []),H15)))
termination_by structural n=>n
def cl.twX (ax:asx) (aa:Int) (ac:Int) (aM:Sl) (au:Int) (ci:Int) (H:Hp):OA:=(Hp.new H [(.int .i64 aa),(.int .i64 ac),(.sl aM)]).bind λH6=>cl.l7 F ax F au ci H.length 0 0 H6
def cl.tw:=cl.twX F (bJ.tw F)
def cl.lh7 (ax:asx) (ks:asD) (n:Nat) (tm:Tm) (H:Hp):OA:=match ks,tm 1,tm 2,tm 3,tm 6 with
 | [],(.int .i64 fp),(.int .i64 kw),(.ptr fV dD),(.int .i64 iC)=>cl.l7 F ax n fp kw fV dD iC H
 | _,_,_,_,_=>none
def cl.lh (ax:asx) (p:Nat) (ks:asD) (n:Nat) (tm:Tm) (H:Hp):OA:=bif p.beq 7 then cl.lh7 F ax ks n tm H else (none)
def cl.pn:Nat->List Nat:=dn [(5,[13])]
def cl.tb:Nat->List (List Nat):=dn [(5,[[],[0],[],[],[3],[2,3,4],[],[2,3,4,5,6],[],[],[],[8,9,10],[0,1,2,3,4,5,6,7,8,9,10,11],[0,1,2,3,4,5,6,7,8,9,10,11,12]])]
def cl.cs (F:Nat) (ax:asx):Cs:=[(62,mk10 ax)]
theorem cl.loops (ax:asx):LO (bS (cl.cs F ax)) cl.pn (cl.lh F ax) F Try.f131:=
 (af.rt (af.rt (af.block (af.la (λn tm H r h=>by change cl.lh7 F ax [] n tm H=_ at h;unfold cl.lh7 at h;split at h;have e:cX tm [(1,_),(2,_),(3,_),(6,_)]:=⟨‹_›,‹_›,‹_›,‹_›,trivial⟩;obtain _ | k7:=n;cases h;exact ⟨_,rfl,by rw [<- db e];exact Eq.trans (by kernel_rfl) h⟩;cases h) λk7=>af.no))))
theorem cl.eqX (ax:asx) (aa:Int) (ac:Int) (aM:Sl) (au:Int) (ci:Int) (H:Hp):EX (bS (cl.cs F ax)) cl.pn (cl.lh F ax) F Try.f131 [(.agg [(.int .i64 aa),(.int .i64 ac),(.sl aM)]),(.int .i64 au),(.int .i64 ci)] H=cl.twX F ax aa ac aM au ci H:=by kernel_rfl
theorem cl.k:Ok Try.prog 131 (mk10 (cl.tw F)):=by
 intro args H v H' h
 unfold mk10 at h
 split at h
 ·exact okT (TB:=cl.tb) Try.func131 (bH (bJ.k F) da) (cl.loops F (bJ.tw F)) ((cl.eqX F (bJ.tw F) _ _ _ _ _ H).trans h) (by kernel_rfl)
 ·cases h
def ak.j9 (F:Nat) (ax:asx) (cU:asx) (ye:Int) (yf:Int) (H389:Hp):OA:=some ((.int .i64 (wrap .i64 (ye * yf))),H389)
def ak.j12 (F:Nat) (ax:asx) (cU:asx) (C125_:asQ) (yh:Int) (FX:Nat) (agS:Nat) (yi:Int) (yj:Int) (yk:Int) (H622:Hp):OA:=C125_ yh FX agS yi yj (wrap .i64 (yk+1)) H622
def ak.j13 (ax:asx) (cU:asx) (C125_:asQ) (ym:Int) (uA:Nat) (FY:Nat) (yn:Int) (qx:Int) (H597:Hp):OA:=(Hp.ldI H597 .i64 uA FY).bind λn598=>(Hp.ldI H597 .i64 uA (FY+1)).bind λn599=>(Hp.ldSl H597 uA (FY+2)).bind λs600=>(ax n598 n599 s600 qx qx H597).bind λr601=>((r601.1).asI .i64).bind λn602=>ak.j12 F ax cU C125_ ym uA FY yn n602 qx r601.2
def ak.j14 (F:Nat) (ax:asx) (cU:asx) (C64189_:as6) (yo:Int) (FZ:Nat) (agT:Nat) (yp:Int) (yq:Int) (yr:Int) (ys:Int) (H710:Hp):OA:=C64189_ yo FZ agT yp yq yr (wrap .i64 (ys+1)) H710
def ak.j15 (ax:asx) (cU:asx) (C64189_:as6) (yt:Int) (F_:Nat) (agU:Nat) (yu:Int) (yw:Int) (yx:Int) (yy:Int) (H688:Hp):OA:=ak.j14 F ax cU C64189_ yt F_ agU yu yw yx yy H688
def ak.l1027029 (F:Nat) (ax:asx) (cU:asx) (C125_:asQ) (C64189_:as6):Nat->Int->Nat->Nat->Int->Int->Int->Int->Int->Hp->OA
 | 0,_,_,_,_,_,_,_,_,_=>none
 | agV+1,lF,jv,kx,pm,lG,jT,ky,kz,H643=>(bif (decide (kz<lF)) then ((Hp.ldSl H643 jv (kx+2)).bind λs711=>(Hp.ldI H643 .i64 jv kx).bind λn712=>(Hp.ldI H643 .i64 jv (kx+1)).bind λn713=>(Hp.ldSl H643 jv (kx+2)).bind λs714=>(ax n712 n713 s714 ky kz H643).bind λr715=>((r715.1).asI .i64).bind λn716=>(if aX H643 r715.2 then ((Hp.ldI r715.2 .i64 jv kx).bind λn717=>(Hp.ldI r715.2 .i64 jv (kx+1)).bind λn718=>(Hp.ldSl r715.2 jv (kx+2)).bind λs719=>(ax n717 n718 s719 jT jT r715.2).bind λr720=>((r720.1).asI .i64).bind λn721=>(if aX r715.2 r720.2 then ((Hp.ldI r720.2 .i64 jv kx).bind λn722=>(Hp.ldI r720.2 .i64 jv (kx+1)).bind λn723=>(Hp.ldSl r720.2 jv (kx+2)).bind λs724=>(ax n722 n723 s724 ky jT r720.2).bind λr725=>((r725.1).asI .i64).bind λn726=>(if aX r720.2 r725.2 then ((Hp.ldI r725.2 .i64 jv kx).bind λn727=>(Hp.ldI r725.2 .i64 jv (kx+1)).bind λn728=>(Hp.ldSl r725.2 jv (kx+2)).bind λs729=>(ax n727 n728 s729 jT kz r725.2).bind λr730=>((r730.1).asI .i64).bind λn731=>(if aX r725.2 r730.2 then ((if lG=0 then none else ((Sl.idx s711 (wrap .i64 ((wrap .i64 (ky * lF))+kz)) 1).bind λp732=>(Hp.st r730.2 p732.1 p732.2 (.int .i64 (wrap .i64 (Int.tdiv (wrap .i64 ((wrap .i64 (n716 * n721)) - (wrap .i64 (n726 * n731)))) lG)))).bind λH733=>ak.l1027029 F ax cU C125_ C64189_ agV lF jv kx pm lG jT ky (wrap .i64 (kz+1)) H733))) else none)) else none)) else none)) else none)) else (ak.j15 F ax cU C64189_ lF jv kx pm lG jT ky H643))
termination_by structural n=>n
def ak.l64189 (F:Nat) (ax:asx) (cU:asx) (C125_:asQ):Nat->Int->Nat->Nat->Int->Int->Int->Int->Hp->OA
 | 0,_,_,_,_,_,_,_,_=>none
 | LR+1,nh,sR,Ga,po,rc,ni,pu,H466=>(bif (decide (pu<nh)) then (ak.l1027029 F ax cU C125_ (ak.l64189 F ax cU C125_ LR) F nh sR Ga po rc ni pu (wrap .i64 (ni+1)) H466) else (ak.j13 F ax cU C125_ nh sR Ga po ni H466))
termination_by structural n=>n
def ak.j16 (ax:asx) (cU:asx) (C125_:asQ) (yz:Int) (Gb:Nat) (agW:Nat) (yA:Int) (yB:Int) (sS:Int) (H447:Hp):OA:=ak.l64189 F ax cU C125_ F yz Gb agW yA yB sS (wrap .i64 (sS+1)) H447
def ak.j17 (ax:asx) (cU:asx) (C125_:asQ) (qy:Int) (sT:Nat) (BL:Nat) (sU:Int) (sV:Int) (nI:Int) (qz:Int) (H425:Hp):OA:=(bif (qz==qy) then (some ((.int .i64 0),H425)) else ((bif (qz != nI) then ((Hp.ldI H425 .i64 sT BL).bind λn426=>(Hp.ldI H425 .i64 sT (BL+1)).bind λn427=>(Hp.ldSl H425 sT (BL+2)).bind λs428=>(cU n426 n427 s428 qz nI H425).bind λr429=>ak.j16 F ax cU C125_ qy sT BL (wrap .i64 (0 - sU)) sV nI r429.2) else (ak.j16 F ax cU C125_ qy sT BL sU sV nI H425))))
def ak.l4010 (F:Nat) (ax:asx) (cU:asx) (C125_:asQ):Nat->Int->Nat->Nat->Int->Int->Int->Int->Hp->OA
 | 0,_,_,_,_,_,_,_,_=>none
 | agX+1,lH,nJ,sW,nj,nk,lJ,kA,H404=>(bif (decide (kA<lH)) then ((Hp.ldI H404 .i64 nJ sW).bind λn734=>(Hp.ldI H404 .i64 nJ (sW+1)).bind λn735=>(Hp.ldSl H404 nJ (sW+2)).bind λs736=>(ax n734 n735 s736 kA lJ H404).bind λr737=>((r737.1).asI .i64).bind λn738=>(bif (n738==0) then (ak.l4010 F ax cU C125_ agX lH nJ sW nj nk lJ (wrap .i64 (kA+1)) r737.2) else (ak.j17 F ax cU C125_ lH nJ sW nj nk lJ kA r737.2))) else (ak.j17 F ax cU C125_ lH nJ sW nj nk lJ kA H404))
termination_by structural n=>n
def ak.l125 (F:Nat) (ax:asx) (cU:asx) :Nat->Int->Nat->Nat->Int->Int->Int->Hp->OA
 | 0,_,_,_,_,_,_,_=>none
 | nl+1,pv,uB,LS,pw,iu,nm,H26=>(bif (decide (nm<pv)) then (ak.l4010 F ax cU (ak.l125 F ax cU nl) F pv uB LS pw iu nm nm H26) else (ak.j9 F ax cU pw iu H26))
termination_by structural n=>n
def ak.twX (ax:asx) (cU:asx) (aa:Int) (ac:Int) (aM:Sl) (H:Hp):OA:=(Hp.new H [(.int .i64 aa),(.int .i64 ac),(.sl aM)]).bind λH4=>(Hp.ldI H4 .i64 H.length 0).bind λn5=>(Hp.new H4 []).bind λH6=>(Hp.ldSl H6 H.length 2).bind λs7=>(Sl.row H6 s7 1).bind λxs9=>(Hp.app H6 1 8 (⟨some (H4.length,0),0,.ex 0⟩:Sl) s7.n xs9).bind λa8=>(Hp.new a8.2 [.int .i64 0,.int .i64 0,.sl ⟨none,0,.ex 0⟩]).bind λH10=>(Hp.st H10 a8.2.length 0 (.int .i64 n5)).bind λH11=>(Hp.st H11 a8.2.length (0+1) (.int .i64 n5)).bind λH12=>(Hp.st H12 a8.2.length (0+1+1) (.sl a8.1)).bind λH13=>ak.l125 F ax cU F n5 a8.2.length 0 1 1 0 H13
def ak.tw:=ak.twX F (bJ.tw F) (cl.tw F)
def ak.lh125 (ax:asx) (cU:asx) (ks:asD) (n:Nat) (tm:Tm) (H:Hp):OA:=match ks,tm 3,tm 4,tm 5,tm 6,tm 7 with
 | [],(.int .i64 pv),(.ptr uB LS),(.int .i64 pw),(.int .i64 iu),(.int .i64 nm)=>ak.l125 F ax cU n pv uB LS pw iu nm H
 | _,_,_,_,_,_=>none
def ak.lh4010 (ax:asx) (cU:asx) (ks:asD) (n:Nat) (tm:Tm) (H:Hp):OA:=match ks,tm 3,tm 4,tm 5,tm 6,tm 7,tm 8 with
 | [nl],(.int .i64 lH),(.ptr nJ sW),(.int .i64 nj),(.int .i64 nk),(.int .i64 lJ),(.int .i64 kA)=>ak.l4010 F ax cU (ak.l125 F ax cU nl) n lH nJ sW nj nk lJ kA H
 | _,_,_,_,_,_,_=>none
def ak.lh64189 (ax:asx) (cU:asx) (ks:asD) (n:Nat) (tm:Tm) (H:Hp):OA:=match ks,tm 3,tm 4,tm 5,tm 6,tm 7,tm 9 with
 | [nl],(.int .i64 nh),(.ptr sR Ga),(.int .i64 po),(.int .i64 rc),(.int .i64 ni),(.int .i64 pu)=>ak.l64189 F ax cU (ak.l125 F ax cU nl) n nh sR Ga po rc ni pu H
 | _,_,_,_,_,_,_=>none
def ak.lh1027029 (ax:asx) (cU:asx) (ks:asD) (n:Nat) (tm:Tm) (H:Hp):OA:=match ks,tm 3,tm 4,tm 5,tm 6,tm 7,tm 9,tm 10 with
 | [LR,nl],(.int .i64 lF),(.ptr jv kx),(.int .i64 pm),(.int .i64 lG),(.int .i64 jT),(.int .i64 ky),(.int .i64 kz)=>ak.l1027029 F ax cU (ak.l125 F ax cU nl) (ak.l64189 F ax cU (ak.l125 F ax cU nl) LR) n lF jv kx pm lG jT ky kz H
 | _,_,_,_,_,_,_,_=>none
def ak.lh (ax:asx) (cU:asx) (p:Nat) (ks:asD) (n:Nat) (tm:Tm) (H:Hp):OA:=bif p.beq 1027029 then ak.lh1027029 F ax cU ks n tm H else (bif p.beq 64189 then ak.lh64189 F ax cU ks n tm H else (bif p.beq 4010 then ak.lh4010 F ax cU ks n tm H else (bif p.beq 125 then ak.lh125 F ax cU ks n tm H else (none))))
def ak.pn:Nat->List Nat:=dn [(21,[29])]
def ak.tb:Nat->List (List Nat):=dn [(21,[[],[0],[],[],[2,3],[],[2,3,4,5],[],[],[],[7,8,9],[],[],[],[7,8,9,10,11,12,13],[7,8,9,10,11,12,13,14],[],[],[],[7,8,9,10,11,12,13,14,16,17,18],[],[],[],[7,8,9,10,11,12,13,14,16,17,18,19,20,21,22],[7,8,9,10,11,12,13,14,16,17,18,19,20,21,22,23],[7,8,9,10,11,12,13,14,15,16,17,18,19,20,21,22,23,24],[],[7,8,9,10,11,12,13,14,15,16,17,18,19,20,21,22,23,24,25,26],[0,1,2,3,4,5,6,7,8,9,10,11,12,13,14,15,16,17,18,19,20,21,22,23,24,25,26,27],[0,1,2,3,4,5,6,7,8,9,10,11,12,13,14,15,16,17,18,19,20,21,22,23,24,25,26,27,28]])]
def ak.cs (F:Nat) (ax:asx) (cU:asx):Cs:=[(62,mk10 ax),(131,mk10 cU)]
theorem ak.loops (ax:asx) (cU:asx):LO (bS (ak.cs F ax cU)) ak.pn (ak.lh F ax cU) F Try.f81:=
 (af.rt (af.rt (af.rt (af.rt (af.lt (af.rt (af.block (af.la (λn tm H r h=>by change ak.lh125 F ax cU [] n tm H=_ at h;unfold ak.lh125 at h;split at h;have e:cX tm [(3,_),(4,_),(5,_),(6,_),(7,_)]:=⟨‹_›,‹_›,‹_›,‹_›,‹_›,trivial⟩;obtain _ | k125:=n;cases h;exact ⟨_,rfl,by rw [<- db e];exact Eq.trans (by kernel_rfl) h⟩;cases h) λk125=>(af.rt (af.lt (af.block (af.rt (af.seq (af.block (af.la (λn tm H r h=>by change ak.lh4010 F ax cU [k125] n tm H=_ at h;unfold ak.lh4010 at h;split at h;have e:cX tm [(3,_),(4,_),(5,_),(6,_),(7,_),(8,_)]:=⟨‹_›,‹_›,‹_›,‹_›,‹_›,‹_›,trivial⟩;cases (show [k125]=_ from ‹_›);obtain _ | k4010:=n;cases h;exact ⟨_,rfl,by rw [<- db e];exact Eq.trans (by kernel_rfl) h⟩;cases h) λk4010=>af.no)) (af.rt (af.rt (af.lt (af.rt (af.block (af.la (λn tm H r h=>by change ak.lh64189 F ax cU [k125] n tm H=_ at h;unfold ak.lh64189 at h;split at h;have e:cX tm [(3,_),(4,_),(5,_),(6,_),(7,_),(9,_)]:=⟨‹_›,‹_›,‹_›,‹_›,‹_›,‹_›,trivial⟩;cases (show [k125]=_ from ‹_›);obtain _ | k64189:=n;cases h;exact ⟨_,rfl,by rw [<- db e];exact Eq.trans (by kernel_rfl) h⟩;cases h) λk64189=>(af.rt (af.lt (af.block (af.rt (af.block (af.la (λn tm H r h=>by change ak.lh1027029 F ax cU [k64189,k125] n tm H=_ at h;unfold ak.lh1027029 at h;split at h;have e:cX tm [(3,_),(4,_),(5,_),(6,_),(7,_),(9,_),(10,_)]:=⟨‹_›,‹_›,‹_›,‹_›,‹_›,‹_›,‹_›,trivial⟩;cases (show [k64189,k125]=_ from ‹_›);obtain _ | k1027029:=n;cases h;exact ⟨_,rfl,by rw [<- db e];exact Eq.trans (by kernel_rfl) h⟩;cases h) λk1027029=>af.no)))))))))))))))))))))))))
theorem ak.eqX (ax:asx) (cU:asx) (aa:Int) (ac:Int) (aM:Sl) (H:Hp):EX (bS (ak.cs F ax cU)) ak.pn (ak.lh F ax cU) F Try.f81 [(.agg [(.int .i64 aa),(.int .i64 ac),(.sl aM)])] H=ak.twX F ax cU aa ac aM H:=by kernel_rfl
theorem ak.k:Ok Try.prog 81 (mk9 (ak.tw F)):=by
 intro args H v H' h
 unfold mk9 at h
 split at h
 ·exact okT (TB:=ak.tb) Try.func81 (bH (bJ.k F) (bH (cl.k F) da)) (ak.loops F (bJ.tw F) (cl.tw F)) ((ak.eqX F (bJ.tw F) (cl.tw F) _ _ _ H).trans h) (by kernel_rfl)
 ·cases h
def bK.j3 (F:Nat) (C29_:atq) (agY:Sl) (yC:Int) (yD:Int) (yE:Int) (H41:Hp):OA:=C29_ agY yC yD (wrap .i64 (yE+1)) H41
def bK.j4 (F:Nat) (C29_:atq) (agZ:Sl) (yF:Int) (yG:Int) (yH:Int) (H51:Hp):OA:=C29_ agZ yF yG (wrap .i64 (yH+1)) H51
def bK.l29 (F:Nat) :Nat->Sl->Int->Int->Int->Hp->OA
 | 0,_,_,_,_,_=>none
 | dL+1,iT,dr,eX,dS,H7=>(bif (decide (dS<(iT.n:Int))) then ((Sl.idx iT dS 1).bind λp30=>(Hp.ldI H7 .i64 p30.1 p30.2).bind λn31=>(bif (decide (n31>0)) then ((bif (decide (eX<0)) then (bK.l29 F dL iT (wrap .i64 (dr+1)) (wrap .i64 (0 - eX)) (wrap .i64 (dS+1)) H7) else ((Sl.idx iT dS 1).bind λp32=>(Hp.ldI H7 .i64 p32.1 p32.2).bind λn33=>(bif (decide (n33<0)) then ((bif (decide (eX>0)) then (bK.j3 F (bK.l29 F dL) iT (wrap .i64 (dr+1)) (wrap .i64 (0 - eX)) dS H7) else (bK.j3 F (bK.l29 F dL) iT dr eX dS H7))) else (bK.l29 F dL iT dr eX (wrap .i64 (dS+1)) H7))))) else ((Sl.idx iT dS 1).bind λp42=>(Hp.ldI H7 .i64 p42.1 p42.2).bind λn43=>(bif (decide (n43<0)) then ((bif (decide (eX>0)) then (bK.j4 F (bK.l29 F dL) iT (wrap .i64 (dr+1)) (wrap .i64 (0 - eX)) dS H7) else (bK.j4 F (bK.l29 F dL) iT dr eX dS H7))) else (bK.l29 F dL iT dr eX (wrap .i64 (dS+1)) H7))))) else (some ((.int .i64 dr),H7)))
def bK.twX (aa:Sl) (H:Hp):OA:=bK.l29 F F aa 0 1 0 H
def bK.tw:=bK.twX F
def bK.lh29 (ks:asD) (n:Nat) (tm:Tm) (H:Hp):OA:=match ks,tm 0,tm 3,tm 4,tm 5 with
 | [],(.sl iT),(.int .i64 dr),(.int .i64 eX),(.int .i64 dS)=>bK.l29 F n iT dr eX dS H
 | _,_,_,_,_=>none
def bK.lh (p:Nat) (ks:asD) (n:Nat) (tm:Tm) (H:Hp):OA:=bif p.beq 29 then bK.lh29 F ks n tm H else (none)
theorem bK.loops:LO (bS []) cf (bK.lh F) F Try.f141:=
 (af.rt (af.rt (af.lt (af.rt (af.block (af.la (λn tm H r h=>by change bK.lh29 F [] n tm H=_ at h;unfold bK.lh29 at h;split at h;have e:cX tm [(0,_),(3,_),(4,_),(5,_)]:=⟨‹_›,‹_›,‹_›,‹_›,trivial⟩;obtain _ | k29:=n;cases h;exact ⟨_,rfl,by rw [<- db e];exact Eq.trans (by kernel_rfl) h⟩;cases h) λk29=>af.no))))))
theorem bK.k:Ok Try.prog 141 (mk0 (bK.tw F)):=by
 intro args H v H' h
 unfold mk0 at h
 split at h
 ·exact okT (PN:=cf) (LH:=(bK.lh F)) (F:=F) (TB:=cf) Try.func141 da (bK.loops F) (Eq.trans (by kernel_rfl) h) (by kernel_rfl)
 ·cases h
def bE.j1 (F:Nat) (gT:asG) (gU:asz) (gG:asE) (ag0:Sl) (ag2:Sl) (H85:Hp):OA:=(gG ag2 H85).bind λr86=>((r86.1).asI .i64).bind λn87=>(gG ag0 r86.2).bind λr88=>((r88.1).asI .i64).bind λn89=>some ((.int .i64 (wrap .i64 (n87 - n89))),r88.2)
def bE.l125 (F:Nat) (gT:asG) (gU:asz) (gG:asE) :Nat->Sl->Sl->Int->Hp->OA
 | 0,_,_,_,_=>none
 | nl+1,yI,Gc,kB,H67=>(bif (decide (kB<(yI.n:Int))) then ((Sl.idx yI kB 1).bind λp90=>(Hp.ldI H67 .i64 p90.1 p90.2).bind λn91=>(Hp.new H67 [(.int .i64 (wrap .i64 (n91 * (wrap .i64 (1 - (wrap .i64 (2 * (Int.tmod kB 2))))))))]).bind λH92=>(Sl.row H92 (⟨some (H67.length,0),1,.ex 1⟩:Sl) 1).bind λxs94=>(Hp.app H92 1 8 Gc (⟨some (H67.length,0),1,.ex 1⟩:Sl).n xs94).bind λa93=>bE.l125 F gT gU gG nl yI a93.1 (wrap .i64 (kB+1)) a93.2) else (bE.j1 F gT gU gG yI Gc H67))
def bE.j2 (gT:asG) (gU:asz) (gG:asE) (ag3:Sl) (H54:Hp):OA:=(Hp.new H54 []).bind λH55=>bE.l125 F gT gU gG F ag3 (⟨some (H54.length,0),0,.ex 0⟩:Sl) 0 H55
def bE.l29 (F:Nat) (gT:asG) (gU:asz) (gG:asE) :Nat->Nat->Nat->Sl->Int->Hp->OA
 | 0,_,_,_,_,_=>none
 | dL+1,fp,dU,dD,du,H15=>(Hp.ldI H15 .i64 fp dU).bind λn95=>(if (IntKind.u64.wrap n95)<0 then none else ((bif (decide (du<(wrap .i64 (1 * 2 ^ (min ((IntKind.u64.wrap n95):Int).toNat (IntKind.i64).bits))))) then ((Hp.ldI H15 .i64 fp dU).bind λn96=>(Hp.ldI H15 .i64 fp (dU+1)).bind λn97=>(Hp.ldSl H15 fp (dU+2)).bind λs98=>(gT n96 n97 s98 du H15).bind λr99=>((r99.1).asTup 2).bind λl100=>(l100[0]?).bind λv101=>((v101).asAgg 3).bind λl102=>(l102[0]?).bind λv103=>((v103).asI .i64).bind λn104=>(l102[1]?).bind λv105=>((v105).asI .i64).bind λn106=>(l102[2]?).bind λv107=>((v107).asSl).bind λs108=>(l100[1]?).bind λv109=>((v109).asI .i64).bind λn110=>(Hp.new r99.2 [.int .i64 0,.int .i64 0,.sl ⟨none,0,.ex 0⟩]).bind λH111=>(Hp.st H111 r99.2.length 0 (.int .i64 n104)).bind λH112=>(Hp.st H112 r99.2.length (0+1) (.int .i64 n106)).bind λH113=>(Hp.st H113 r99.2.length (0+1+1) (.sl s108)).bind λH114=>(Sl.idx dD n110 1).bind λp115=>(Hp.ldI H114 .i64 p115.1 p115.2).bind λn116=>(Hp.ldI H114 .i64 r99.2.length 0).bind λn117=>(Hp.ldI H114 .i64 r99.2.length (0+1)).bind λn118=>(Hp.ldSl H114 r99.2.length (0+2)).bind λs119=>(gU n117 n118 s119 H114).bind λr120=>((r120.1).asI .i64).bind λn121=>(if aX H114 r120.2 then ((Sl.idx dD n110 1).bind λp122=>(Hp.st r120.2 p122.1 p122.2 (.int .i64 (wrap .i64 (n116+n121)))).bind λH123=>bE.l29 F gT gU gG dL fp dU dD (wrap .i64 (du+1)) H123) else none)) else (bE.j2 F gT gU gG dD H15))))
termination_by structural n=>n
def bE.twX (gT:asG) (gU:asz) (gG:asE) (aa:Int) (ac:Int) (aM:Sl) (H:Hp):OA:=(Hp.new H [(.int .i64 aa),(.int .i64 ac),(.sl aM)]).bind λH4=>(Hp.ldI H4 .i64 H.length 0).bind λn5=>(Hp.mk H4 [.int .i64 0] 8 (wrap .i64 (n5+1)) (wrap .i64 (n5+1))).bind λm6=>bE.l29 F gT gU gG F H.length 0 m6.1 0 m6.2
def bE.tw:=bE.twX F (aC.tw F) (ak.tw F) (bK.tw F)
def bE.lh29 (gT:asG) (gU:asz) (gG:asE) (ks:asD) (n:Nat) (tm:Tm) (H:Hp):OA:=match ks,tm 1,tm 3,tm 4 with
 | [],(.ptr fp dU),(.sl dD),(.int .i64 du)=>bE.l29 F gT gU gG n fp dU dD du H
 | _,_,_,_=>none
def bE.lh125 (gT:asG) (gU:asz) (gG:asE) (ks:asD) (n:Nat) (tm:Tm) (H:Hp):OA:=match ks,tm 3,tm 7,tm 8 with
 | [],(.sl yI),(.sl Gc),(.int .i64 kB)=>bE.l125 F gT gU gG n yI Gc kB H
 | _,_,_,_=>none
def bE.lh (gT:asG) (gU:asz) (gG:asE) (p:Nat) (ks:asD) (n:Nat) (tm:Tm) (H:Hp):OA:=bif p.beq 125 then bE.lh125 F gT gU gG ks n tm H else (bif p.beq 29 then bE.lh29 F gT gU gG ks n tm H else (none))
def bE.pn:Nat->List Nat:=dn [(6,[10])]
def bE.tb:Nat->List (List Nat):=dn [(6,[[],[],[],[],[2,3],[2,3,4],[],[6],[2,3,4,5,6,7],[0,1,2,3,4,5,6,7,8],[0,1,2,3,4,5,6,7,8,9]])]
def bE.cs (F:Nat) (gT:asG) (gU:asz) (gG:asE):Cs:=[(140,mk13 gT),(81,mk9 gU),(141,mk0 gG)]
theorem bE.loops (gT:asG) (gU:asz) (gG:asE):LO (bS (bE.cs F gT gU gG)) bE.pn (bE.lh F gT gU gG) F Try.f91:=
 (af.rt (af.rt (af.seq (af.rt (af.block (af.la (λn tm H r h=>by change bE.lh29 F gT gU gG [] n tm H=_ at h;unfold bE.lh29 at h;split at h;have e:cX tm [(1,_),(3,_),(4,_)]:=⟨‹_›,‹_›,‹_›,trivial⟩;obtain _ | k29:=n;cases h;exact ⟨_,rfl,by rw [<- db e];exact Eq.trans (by kernel_rfl) h⟩;cases h) λk29=>af.no))) (af.rt (af.lt (af.rt (af.block (af.la (λn tm H r h=>by change bE.lh125 F gT gU gG [] n tm H=_ at h;unfold bE.lh125 at h;split at h;have e:cX tm [(3,_),(7,_),(8,_)]:=⟨‹_›,‹_›,‹_›,trivial⟩;obtain _ | k125:=n;cases h;exact ⟨_,rfl,by rw [<- db e];exact Eq.trans (by kernel_rfl) h⟩;cases h) λk125=>af.no))))))))
theorem bE.eqX (gT:asG) (gU:asz) (gG:asE) (aa:Int) (ac:Int) (aM:Sl) (H:Hp):EX (bS (bE.cs F gT gU gG)) bE.pn (bE.lh F gT gU gG) F Try.f91 [(.agg [(.int .i64 aa),(.int .i64 ac),(.sl aM)])] H=bE.twX F gT gU gG aa ac aM H:=by kernel_rfl
theorem bE.k:Ok Try.prog 91 (mk9 (bE.tw F)):=by
 intro args H v H' h
 unfold mk9 at h
 split at h
 ·exact okT (TB:=bE.tb) Try.func91 (bH (aC.k F) (bH (ak.k F) (bH (bK.k F) da))) (bE.loops F (aC.tw F) (ak.tw F) (bK.tw F)) ((bE.eqX F (aC.tw F) (ak.tw F) (bK.tw F) _ _ _ H).trans h) (by kernel_rfl)
 ·cases h
def fq.twX (F:Nat) (fl:asz) (yJ:asz) (yK:as5) (yL:asz) (yM:asz) (aa:Int) (ac:Int) (aM:Sl) (H:Hp):OA:=(Hp.new H [(.int .i64 aa),(.int .i64 ac),(.sl aM)]).bind λH4=>(Hp.ldI H4 .i64 H.length 0).bind λn5=>(Hp.ldI H4 .i64 H.length (0+1)).bind λn6=>(Hp.ldSl H4 H.length (0+2)).bind λs7=>(fl n5 n6 s7 H4).bind λr8=>((r8.1).asB).bind λb9=>(bif (!b9) then (some ((.tup [(.int .i64 0),(.int .i64 1)]),r8.2)) else ((Hp.ldI r8.2 .i64 H.length 0).bind λn10=>(Hp.ldI r8.2 .i64 H.length (0+1)).bind λn11=>(Hp.ldSl r8.2 H.length (0+2)).bind λs12=>(Hp.ldI r8.2 .i64 H.length 0).bind λn13=>(Hp.ldI r8.2 .i64 H.length (0+1)).bind λn14=>(Hp.ldSl r8.2 H.length (0+2)).bind λs15=>(yJ n13 n14 s15 r8.2).bind λr16=>((r16.1).asAgg 3).bind λl17=>(l17[0]?).bind λv18=>((v18).asI .i64).bind λn19=>(l17[1]?).bind λv20=>((v20).asI .i64).bind λn21=>(l17[2]?).bind λv22=>((v22).asSl).bind λs23=>(if aX r8.2 r16.2 then ((yK n10 n11 s12 n19 n21 s23 r16.2).bind λr24=>((r24.1).asB).bind λb25=>(bif (!b25) then (some ((.tup [(.int .i64 0),(.int .i64 2)]),r24.2)) else ((Hp.ldI r24.2 .i64 H.length 0).bind λn26=>(bif (decide (n26>12)) then (some ((.tup [(.int .i64 0),(.int .i64 3)]),r24.2)) else ((Hp.ldI r24.2 .i64 H.length 0).bind λn27=>(Hp.ldI r24.2 .i64 H.length (0+1)).bind λn28=>(Hp.ldSl r24.2 H.length (0+2)).bind λs29=>(yL n27 n28 s29 r24.2).bind λr30=>((r30.1).asB).bind λb31=>(bif (!b31) then (some ((.tup [(.int .i64 0),(.int .i64 3)]),r30.2)) else ((Hp.ldI r30.2 .i64 H.length 0).bind λn32=>(Hp.ldI r30.2 .i64 H.length (0+1)).bind λn33=>(Hp.ldSl r30.2 H.length (0+2)).bind λs34=>(yM n32 n33 s34 r30.2).bind λr35=>((r35.1).asI .i64).bind λn36=>some ((.tup [(.int .i64 n36),(.int .i64 0)]),r35.2)))))))) else none)))
def fq.tw:=fq.twX F (cz.tw F) (bz.tw F) (dC.tw F) (bF.tw F) (bE.tw F)
def fq.pn:Nat->List Nat:=dn [(3,[3])]
def fq.tb:Nat->List (List Nat):=dn [(3,[[],[],[1],[0,1,2],[0,1,2,3]])]
def fq.cs (F:Nat) (fl:asz) (yJ:asz) (yK:as5) (yL:asz) (yM:asz):Cs:=[(29,mk9 fl),(90,mk9 yJ),(89,mk12 yK),(80,mk9 yL),(91,mk9 yM)]
theorem fq.eqX (fl:asz) (yJ:asz) (yK:as5) (yL:asz) (yM:asz) (aa:Int) (ac:Int) (aM:Sl) (H:Hp):EX (bS (fq.cs F fl yJ yK yL yM)) fq.pn lh0 F Try.f35 [(.agg [(.int .i64 aa),(.int .i64 ac),(.sl aM)])] H=fq.twX F fl yJ yK yL yM aa ac aM H:=by kernel_rfl
theorem fq.k:Ok Try.prog 35 (mk9 (fq.tw F)):=by
 intro args H v H' h
 unfold mk9 at h
 split at h
 ·exact okT (TB:=fq.tb) Try.func35 (bH (cz.k F) (bH (bz.k F) (bH (dC.k F) (bH (bF.k F) (bH (bE.k F) da))))) af.no ((fq.eqX F (cz.tw F) (bz.tw F) (dC.tw F) (bF.tw F) (bE.tw F) _ _ _ H).trans h) (by kernel_rfl)
 ·cases h
def eY.j1 (F:Nat) (lK:Int) (sX:Int) (H21:Hp):OA:=(if lK=0 then none else (some ((.int .i64 (Int.tmod sX lK)),H21)))
def eY.twX (aa:Nat) (ac:Nat) (ai:Int) (H:Hp):OA:=(Hp.ldI H .u64 aa (ac+2)).bind λn4=>(Hp.st H aa (ac+2) (.int .u64 (IntKind.u64.wrap ((IntKind.u64.wrap (n4 * 6364136223846793005))+1442695040888963407)))).bind λH5=>(Hp.ldI H5 .u64 aa (ac+2)).bind λn6=>(Hp.ldI H5 .i64 aa (ac+1)).bind λn7=>(Hp.ldSl H5 aa ac).bind λs8=>(bif (decide (n7<(s8.n:Int))) then ((Hp.ldSl H5 aa ac).bind λs9=>(Hp.ldI H5 .i64 aa (ac+1)).bind λn10=>(Sl.idx s9 n10 1).bind λp11=>(Hp.ldI H5 .u8 p11.1 p11.2).bind λn12=>(Hp.ldI H5 .i64 aa (ac+1)).bind λn13=>(Hp.st H5 aa (ac+1) (.int .i64 (wrap .i64 (n13+1)))).bind λH14=>eY.j1 F ai (wrap .i64 ((wrap .i64 (Go.bits .and .u64 (Int.fdiv n6 (2 ^ (min (33:Int).toNat (IntKind.u64).bits))) 16777215))+(wrap .i64 n12))) H14) else (eY.j1 F ai (wrap .i64 (Go.bits .and .u64 (Int.fdiv n6 (2 ^ (min (33:Int).toNat (IntKind.u64).bits))) 16777215)) H5))
def eY.tw:=eY.twX F
def eY.tb:Nat->List (List Nat):=dn [(3,[[],[0],[0,1],[0,1,2],[],[4],[4,5],[4,5,6],[4,5,6,7],[0,1,2,3,4,5,6,7,8]]),(4,[[],[],[1],[1,2],[1,2,3],[],[5],[5,6],[5,6,7],[1,2,3,4,5,6,7,8],[1,2,3,4,5,6,7,8,9],[1,2,3,4,5,6,7,8,9,10],[0,1,2,3,4,5,6,7,8,9,10,11],[0,1,2,3,4,5,6,7,8,9,10,11,12]])]
theorem eY.k:Ok Try.prog 87 (mk2 (eY.tw F)):=by
 intro args H v H' h
 unfold mk2 at h
 split at h
 ·exact okT (PN:=cf) (LH:=lh0) (F:=F) (TB:=eY.tb) Try.func87 da af.no (Eq.trans (by kernel_rfl) h) (by kernel_rfl)
 ·cases h
def bO.l61 (F:Nat) (ii:asA) :Nat->Nat->Nat->Sl->Int->Hp->OA
 | 0,_,_,_,_,_=>none
 | mr+1,Gd,Ge,iK,kC,H31=>(bif (decide (kC>0)) then ((ii Gd Ge (wrap .i64 (kC+1)) H31).bind λr42=>((r42.1).asI .i64).bind λn43=>(Sl.idx iK kC 1).bind λp44=>(Hp.ldI r42.2 .i64 p44.1 p44.2).bind λn45=>(Sl.idx iK n43 1).bind λp46=>(Hp.ldI r42.2 .i64 p46.1 p46.2).bind λn47=>(Sl.idx iK kC 1).bind λp48=>(Hp.st r42.2 p48.1 p48.2 (.int .i64 n47)).bind λH49=>(Sl.idx iK n43 1).bind λp50=>(Hp.st H49 p50.1 p50.2 (.int .i64 n45)).bind λH51=>bO.l61 F ii mr Gd Ge iK (wrap .i64 (kC - 1)) H51) else (some ((.sl iK),H31)))
termination_by structural n=>n
def bO.j1 (ii:asA) (ag4:Nat) (ag5:Nat) (lK:Int) (sX:Sl) (H22:Hp):OA:=bO.l61 F ii F ag4 ag5 sX (wrap .i64 (lK - 1)) H22
def bO.l29 (F:Nat) (ii:asA) :Nat->Nat->Nat->Int->Sl->Int->Hp->OA
 | 0,_,_,_,_,_,_=>none
 | dL+1,Gf,rh,np,Gg,lL,H11=>(bif (decide (lL<np)) then ((Hp.new H11 [(.int .i64 lL)]).bind λH52=>(Sl.row H52 (⟨some (H11.length,0),1,.ex 1⟩:Sl) 1).bind λxs54=>(Hp.app H52 1 8 Gg (⟨some (H11.length,0),1,.ex 1⟩:Sl).n xs54).bind λa53=>bO.l29 F ii dL Gf rh np a53.1 (wrap .i64 (lL+1)) a53.2) else (bO.j1 F ii Gf rh np Gg H11))
termination_by structural n=>n
def bO.twX (ii:asA) (aa:Nat) (ac:Nat) (ai:Int) (H:Hp):OA:=(Hp.new H []).bind λH4=>bO.l29 F ii F aa ac ai (⟨some (H.length,0),0,.ex 0⟩:Sl) 0 H4
def bO.tw:=bO.twX F (eY.tw F)
def bO.lh29 (ii:asA) (ks:asD) (n:Nat) (tm:Tm) (H:Hp):OA:=match ks,tm 0,tm 1,tm 5,tm 6 with
 | [],(.ptr Gf rh),(.int .i64 np),(.sl Gg),(.int .i64 lL)=>bO.l29 F ii n Gf rh np Gg lL H
 | _,_,_,_,_=>none
def bO.lh61 (ii:asA) (ks:asD) (n:Nat) (tm:Tm) (H:Hp):OA:=match ks,tm 0,tm 5,tm 7 with
 | [],(.ptr Gd Ge),(.sl iK),(.int .i64 kC)=>bO.l61 F ii n Gd Ge iK kC H
 | _,_,_,_=>none
def bO.lh (ii:asA) (p:Nat) (ks:asD) (n:Nat) (tm:Tm) (H:Hp):OA:=bif p.beq 61 then bO.lh61 F ii ks n tm H else (bif p.beq 29 then bO.lh29 F ii ks n tm H else (none))
def bO.cs (F:Nat) (ii:asA):Cs:=[(87,mk2 ii)]
theorem bO.loops (ii:asA):LO (bS (bO.cs F ii)) cf (bO.lh F ii) F Try.f32:=
 (af.rt (af.rt (af.seq (af.rt (af.block (af.la (λn tm H r h=>by change bO.lh29 F ii [] n tm H=_ at h;unfold bO.lh29 at h;split at h;have e:cX tm [(0,_),(1,_),(5,_),(6,_)]:=⟨‹_›,‹_›,‹_›,‹_›,trivial⟩;obtain _ | k29:=n;cases h;exact ⟨_,rfl,by rw [<- db e];exact Eq.trans (by kernel_rfl) h⟩;cases h) λk29=>af.no))) (af.lt (af.rt (af.block (af.la (λn tm H r h=>by change bO.lh61 F ii [] n tm H=_ at h;unfold bO.lh61 at h;split at h;have e:cX tm [(0,_),(5,_),(7,_)]:=⟨‹_›,‹_›,‹_›,trivial⟩;obtain _ | k61:=n;cases h;exact ⟨_,rfl,by rw [<- db e];exact Eq.trans (by kernel_rfl) h⟩;cases h) λk61=>af.no)))))))
theorem bO.eqX (ii:asA) (aa:Nat) (ac:Nat) (ai:Int) (H:Hp):EX (bS (bO.cs F ii)) cf (bO.lh F ii) F Try.f32 [(.ptr aa ac),(.int .i64 ai)] H=bO.twX F ii aa ac ai H:=by kernel_rfl
theorem bO.k:Ok Try.prog 32 (mk2 (bO.tw F)):=by
 intro args H v H' h
 unfold mk2 at h
 split at h
 ·exact okT (TB:=cf) Try.func32 (bH (eY.k F) da) (bO.loops F (eY.tw F)) ((bO.eqX F (eY.tw F) _ _ _ H).trans h) (by kernel_rfl)
 ·cases h
def cK.l29 (F:Nat) (bi:asC) (ag:asx) :Nat->Nat->Nat->Nat->Nat->Int->Int->Hp->OA
 | 0,_,_,_,_,_,_,_=>none
 | dL+1,eZ,ri,jJ,nK,pz,lM,H22=>(bif (decide (lM<pz)) then ((Hp.ldI H22 .i64 jJ nK).bind λn38=>(Hp.ldI H22 .i64 jJ (nK+1)).bind λn39=>(Hp.ldSl H22 jJ (nK+2)).bind λs40=>(ag n38 n39 s40 lM lM H22).bind λr41=>((r41.1).asP).bind λp42=>(Hp.st r41.2 p42.1 p42.2 (.int .i64 1)).bind λH43=>cK.l29 F bi ag dL eZ ri jJ nK pz (wrap .i64 (lM+1)) H43) else ((Hp.ldI H22 .i64 jJ nK).bind λn44=>(Hp.ldI H22 .i64 jJ (nK+1)).bind λn45=>(Hp.ldSl H22 jJ (nK+2)).bind λs46=>(Hp.st H22 eZ ri (.int .i64 n44)).bind λH47=>(Hp.st H47 eZ (ri+1) (.int .i64 n45)).bind λH48=>(Hp.st H48 eZ (ri+1+1) (.sl s46)).bind λH49=>(Hp.ldI H49 .i64 eZ ri).bind λn50=>(Hp.ldI H49 .i64 eZ (ri+1)).bind λn51=>(Hp.ldSl H49 eZ (ri+2)).bind λs52=>some ((.agg [(.int .i64 n50),(.int .i64 n51),(.sl s52)]),H49)))
termination_by structural n=>n
def cK.twX (bi:asC) (ag:asx) (aa:Int) (H:Hp):OA:=(Hp.new H [.int .i64 0,.int .i64 0,.sl ⟨none,0,.ex 0⟩]).bind λH2=>(bi aa aa H2).bind λr3=>((r3.1).asAgg 3).bind λl4=>(l4[0]?).bind λv5=>((v5).asI .i64).bind λn6=>(l4[1]?).bind λv7=>((v7).asI .i64).bind λn8=>(l4[2]?).bind λv9=>((v9).asSl).bind λs10=>(Hp.new r3.2 [.int .i64 0,.int .i64 0,.sl ⟨none,0,.ex 0⟩]).bind λH11=>(Hp.st H11 r3.2.length 0 (.int .i64 n6)).bind λH12=>(Hp.st H12 r3.2.length (0+1) (.int .i64 n8)).bind λH13=>(Hp.st H13 r3.2.length (0+1+1) (.sl s10)).bind λH14=>cK.l29 F bi ag F H.length 0 r3.2.length 0 aa 0 H14
def cK.tw:=cK.twX F (cO.tw F) (bf.tw F)
def cK.lh29 (bi:asC) (ag:asx) (ks:asD) (n:Nat) (tm:Tm) (H:Hp):OA:=match ks,tm 2,tm 3,tm 8,tm 9 with
 | [],(.ptr eZ ri),(.ptr jJ nK),(.int .i64 pz),(.int .i64 lM)=>cK.l29 F bi ag n eZ ri jJ nK pz lM H
 | _,_,_,_,_=>none
def cK.lh (bi:asC) (ag:asx) (p:Nat) (ks:asD) (n:Nat) (tm:Tm) (H:Hp):OA:=bif p.beq 29 then cK.lh29 F bi ag ks n tm H else (none)
def cK.cs (F:Nat) (bi:asC) (ag:asx):Cs:=[(74,mk3 bi),(75,mk10 ag)]
theorem cK.loops (bi:asC) (ag:asx):LO (bS (cK.cs F bi ag)) cf (cK.lh F bi ag) F Try.f134:=
 (af.rt (af.rt (af.lt (af.rt (af.block (af.la (λn tm H r h=>by change cK.lh29 F bi ag [] n tm H=_ at h;unfold cK.lh29 at h;split at h;have e:cX tm [(2,_),(3,_),(8,_),(9,_)]:=⟨‹_›,‹_›,‹_›,‹_›,trivial⟩;obtain _ | k29:=n;cases h;exact ⟨_,rfl,by rw [<- db e];exact Eq.trans (by kernel_rfl) h⟩;cases h) λk29=>af.no))))))
theorem cK.eqX (bi:asC) (ag:asx) (aa:Int) (H:Hp):EX (bS (cK.cs F bi ag)) cf (cK.lh F bi ag) F Try.f134 [(.int .i64 aa)] H=cK.twX F bi ag aa H:=by kernel_rfl
theorem cK.k:Ok Try.prog 134 (mk7 (cK.tw F)):=by
 intro args H v H' h
 unfold mk7 at h
 split at h
 ·exact okT (TB:=cf) Try.func134 (bH (cO.k F) (bH (bf.k F) da)) (cK.loops F (cO.tw F) (bf.tw F)) ((cK.eqX F (cO.tw F) (bf.tw F) _ H).trans h) (by kernel_rfl)
 ·cases h
def jw.twX (F:Nat) (aa:Sl) (H:Hp):OA:=(bif (aa.a.isNone) then (some ((.sl (⟨none,0,.ex 0⟩:Sl)),H)) else ((Hp.new H []).bind λH2=>(Sl.row H2 aa 1).bind λxs4=>(Hp.app H2 1 8 (⟨some (H.length,0),0,.ex 0⟩:Sl) aa.n xs4).bind λa3=>some ((.sl a3.1),a3.2)))
def jw.tw:=jw.twX F
theorem jw.k:Ok Try.prog 129 (mk0 (jw.tw F)):=by
 intro args H v H' h
 unfold mk0 at h
 split at h
 ·exact ok0 Try.func129 (Eq.trans (by kernel_rfl) h) (by kernel_rfl) (by kernel_rfl)
 ·cases h
def ib.twX (F:Nat) (yN:asE) (aa:Int) (ac:Int) (aM:Sl) (H:Hp):OA:=(Hp.new H [(.int .i64 aa),(.int .i64 ac),(.sl aM)]).bind λH4=>(Hp.new H4 [.int .i64 0,.int .i64 0,.sl ⟨none,0,.ex 0⟩]).bind λH5=>(Hp.ldSl H5 H.length 2).bind λs6=>(yN s6 H5).bind λr7=>((r7.1).asSl).bind λs8=>(Hp.st r7.2 H.length 2 (.sl s8)).bind λH9=>(Hp.ldI H9 .i64 H.length 0).bind λn10=>(Hp.ldI H9 .i64 H.length (0+1)).bind λn11=>(Hp.ldSl H9 H.length (0+2)).bind λs12=>(Hp.st H9 H4.length 0 (.int .i64 n10)).bind λH13=>(Hp.st H13 H4.length (0+1) (.int .i64 n11)).bind λH14=>(Hp.st H14 H4.length (0+1+1) (.sl s12)).bind λH15=>(Hp.ldI H15 .i64 H4.length 0).bind λn16=>(Hp.ldI H15 .i64 H4.length (0+1)).bind λn17=>(Hp.ldSl H15 H4.length (0+2)).bind λs18=>some ((.agg [(.int .i64 n16),(.int .i64 n17),(.sl s18)]),H15)
def ib.tw:=ib.twX F (jw.tw F)
def ib.cs (F:Nat) (yN:asE):Cs:=[(129,mk0 yN)]
theorem ib.eqX (yN:asE) (aa:Int) (ac:Int) (aM:Sl) (H:Hp):EX (bS (ib.cs F yN)) cf lh0 F Try.f79 [(.agg [(.int .i64 aa),(.int .i64 ac),(.sl aM)])] H=ib.twX F yN aa ac aM H:=by kernel_rfl
theorem ib.k:Ok Try.prog 79 (mk9 (ib.tw F)):=by
 intro args H v H' h
 unfold mk9 at h
 split at h
 ·exact okT (TB:=cf) Try.func79 (bH (jw.k F) da) af.no ((ib.eqX F (jw.tw F) _ _ _ H).trans h) (by kernel_rfl)
 ·cases h
def jU.twX (F:Nat) (rj:asF) (yO:asz) (aa:Int) (ac:Int) (aM:Sl) (H:Hp):OA:=(Hp.new H [(.int .i64 aa),(.int .i64 ac),(.sl aM)]).bind λH4=>(Hp.ldI H4 .i64 H.length 0).bind λn5=>(rj n5 H4).bind λr6=>((r6.1).asAgg 3).bind λl7=>(l7[0]?).bind λv8=>((v8).asI .i64).bind λn9=>(l7[1]?).bind λv10=>((v10).asI .i64).bind λn11=>(l7[2]?).bind λv12=>((v12).asSl).bind λs13=>(if aX H4 r6.2 then ((Hp.ldI r6.2 .i64 H.length 0).bind λn14=>(rj n14 r6.2).bind λr15=>((r15.1).asAgg 3).bind λl16=>(l16[0]?).bind λv17=>((v17).asI .i64).bind λn18=>(l16[1]?).bind λv19=>((v19).asI .i64).bind λn20=>(l16[2]?).bind λv21=>((v21).asSl).bind λs22=>(if aX r6.2 r15.2 then ((Hp.ldI r15.2 .i64 H.length 0).bind λn23=>(Hp.ldI r15.2 .i64 H.length (0+1)).bind λn24=>(Hp.ldSl r15.2 H.length (0+2)).bind λs25=>(yO n23 n24 s25 r15.2).bind λr26=>((r26.1).asAgg 3).bind λl27=>(l27[0]?).bind λv28=>((v28).asI .i64).bind λn29=>(l27[1]?).bind λv30=>((v30).asI .i64).bind λn31=>(l27[2]?).bind λv32=>((v32).asSl).bind λs33=>(if aX r15.2 r26.2 then ((Hp.ldI r26.2 .i64 H.length 1).bind λn34=>(rj n34 r26.2).bind λr35=>((r35.1).asAgg 3).bind λl36=>(l36[0]?).bind λv37=>((v37).asI .i64).bind λn38=>(l36[1]?).bind λv39=>((v39).asI .i64).bind λn40=>(l36[2]?).bind λv41=>((v41).asSl).bind λs42=>(if aX r26.2 r35.2 then ((Hp.ldI r35.2 .i64 H.length 1).bind λn43=>(rj n43 r35.2).bind λr44=>((r44.1).asAgg 3).bind λl45=>(l45[0]?).bind λv46=>((v46).asI .i64).bind λn47=>(l45[1]?).bind λv48=>((v48).asI .i64).bind λn49=>(l45[2]?).bind λv50=>((v50).asSl).bind λs51=>(Hp.new r44.2 [(.int .i64 n9),(.int .i64 n11),(.sl s13),(.int .i64 n18),(.int .i64 n20),(.sl s22),(.int .i64 n29),(.int .i64 n31),(.sl s33),(.int .i64 n38),(.int .i64 n40),(.sl s42),(.int .i64 n47),(.int .i64 n49),(.sl s51),(.bool false)]).bind λH52=>some ((.ptr r44.2.length 0),H52)) else none)) else none)) else none)) else none)
def jU.tw:=jU.twX F (cK.tw F) (ib.tw F)
def jU.pn:Nat->List Nat:=dn [(1,[13])]
def jU.tb:Nat->List (List Nat):=dn [(1,[[],[0],[0,1],[],[3],[0,1,2,3,4],[],[0,1,2,3,4,5,6],[],[8],[0,1,2,3,4,5,6,7,8,9],[],[11],[0,1,2,3,4,5,6,7,8,9,10,11,12],[0,1,2,3,4,5,6,7,8,9,10,11,12,13],[0,1,2,3,4,5,6,7,8,9,10,11,12,13,14],[0,1,2,3,4,5,6,7,8,9,10,11,12,13,14,15],[0,1,2,3,4,5,6,7,8,9,10,11,12,13,14,15,16]])]
def jU.cs (F:Nat) (rj:asF) (yO:asz):Cs:=[(134,mk7 rj),(79,mk9 yO)]
theorem jU.eqX (rj:asF) (yO:asz) (aa:Int) (ac:Int) (aM:Sl) (H:Hp):EX (bS (jU.cs F rj yO)) jU.pn lh0 F Try.f132 [(.agg [(.int .i64 aa),(.int .i64 ac),(.sl aM)])] H=jU.twX F rj yO aa ac aM H:=by kernel_rfl
theorem jU.k:Ok Try.prog 132 (mk9 (jU.tw F)):=by
 intro args H v H' h
 unfold mk9 at h
 split at h
 ·exact okT (TB:=jU.tb) Try.func132 (bH (cK.k F) (bH (ib.k F) da)) af.no ((jU.eqX F (cK.tw F) (ib.tw F) _ _ _ H).trans h) (by kernel_rfl)
 ·cases h
def aN.j5 (F:Nat) (ag:asx) (bW:asF) (yP:Int) (yQ:Int) (yR:Bool) (H134:Hp):OA:=some ((.tup [(.int .i64 yP),(.int .i64 yQ),(.bool yR)]),H134)
def aN.j7 (F:Nat) (ag:asx) (bW:asF) (C29_:atd) (yS:Int) (nq:Int) (yT:Int) (yU:Bool) (Gh:Nat) (ag6:Nat) (yV:Int) (H205:Hp):OA:=C29_ yS nq yT yU Gh ag6 (wrap .i64 (yV+1)) H205
def aN.j8 (ag:asx) (bW:asF) (C29_:atd) (yW:Int) (yX:Int) (yY:Int) (yZ:Bool) (Gi:Nat) (ag7:Nat) (y_:Int) (H192:Hp):OA:=aN.j7 F ag bW C29_ yW yX yY yZ Gi ag7 y_ H192
def aN.j9 (F:Nat) (ag:asx) (bW:asF) (C469_:atE) (zb:Int) (zd:Int) (zf:Int) (zg:Bool) (Gj:Nat) (ag8:Nat) (zh:Int) (zi:Int) (H237:Hp):OA:=C469_ zb zd zf zg Gj ag8 zh (wrap .i64 (zi+1)) H237
def aN.l469 (F:Nat) (ag:asx) (bW:asF) (C29_:atd):Nat->Int->Int->Int->Bool->Nat->Nat->Int->Int->Hp->OA
 | 0,_,_,_,_,_,_,_,_,_=>none
 | Gk+1,kD,lN,lO,lP,ke,mu,iV,iW,H147=>(Hp.ldI H147 .i64 ke (mu+1)).bind λn206=>(bif (decide (iW<n206)) then ((Hp.ldI H147 .i64 ke mu).bind λn207=>(Hp.ldI H147 .i64 ke (mu+1)).bind λn208=>(Hp.ldSl H147 ke (mu+2)).bind λs209=>(ag n207 n208 s209 iV iW H147).bind λr210=>((r210.1).asP).bind λp211=>(Hp.ldI r210.2 .i64 p211.1 p211.2).bind λn212=>(bW n212 r210.2).bind λr213=>((r213.1).asI .i64).bind λn214=>(bif (n214 != 0) then ((bif (!lP) then (aN.l469 F ag bW C29_ Gk kD iV iW true ke mu iV (wrap .i64 (iW+1)) r213.2) else ((Hp.ldI r213.2 .i64 ke mu).bind λn215=>(Hp.ldI r213.2 .i64 ke (mu+1)).bind λn216=>(Hp.ldSl r213.2 ke (mu+2)).bind λs217=>(ag n215 n216 s217 lN lO r213.2).bind λr218=>((r218.1).asP).bind λp219=>(Hp.ldI r218.2 .i64 p219.1 p219.2).bind λn220=>(bW n220 r218.2).bind λr221=>((r221.1).asI .i64).bind λn222=>(bif (decide (n214<n222)) then (aN.j9 F ag bW (aN.l469 F ag bW C29_ Gk) kD iV iW true ke mu iV iW r221.2) else (aN.j9 F ag bW (aN.l469 F ag bW C29_ Gk) kD lN lO lP ke mu iV iW r221.2))))) else (aN.l469 F ag bW C29_ Gk kD lN lO lP ke mu iV (wrap .i64 (iW+1)) r213.2))) else (aN.j8 F ag bW C29_ kD lN lO lP ke mu iV H147))
termination_by structural n=>n
def aN.l29 (F:Nat) (ag:asx) (bW:asF) :Nat->Int->Int->Int->Bool->Nat->Nat->Int->Hp->OA
 | 0,_,_,_,_,_,_,_,_=>none
 | dL+1,dE,du,iL,pA,sY,iB,pB,H20=>(Hp.ldI H20 .i64 sY iB).bind λn135=>(bif (decide (pB<n135)) then (aN.l469 F ag bW (aN.l29 F ag bW dL) F dE du iL pA sY iB pB dE H20) else (aN.j5 F ag bW du iL pA H20))
termination_by structural n=>n
def aN.twX (ag:asx) (bW:asF) (aa:Nat) (ac:Nat) (ai:Int) (H:Hp):OA:=(Hp.ldI H .i64 aa (ac+6)).bind λn4=>(Hp.ldI H .i64 aa ((ac+6)+1)).bind λn5=>(Hp.ldSl H aa ((ac+6)+2)).bind λs6=>(Hp.new H [.int .i64 0,.int .i64 0,.sl ⟨none,0,.ex 0⟩]).bind λH7=>(Hp.st H7 H.length 0 (.int .i64 n4)).bind λH8=>(Hp.st H8 H.length (0+1) (.int .i64 n5)).bind λH9=>(Hp.st H9 H.length (0+1+1) (.sl s6)).bind λH10=>aN.l29 F ag bW F ai 0 0 false H.length 0 ai H10
def aN.tw:=aN.twX F (bf.tw F) (cW.tw F)
def aN.lh29 (ag:asx) (bW:asF) (ks:asD) (n:Nat) (tm:Tm) (H:Hp):OA:=match ks,tm 1,tm 4,tm 5,tm 6,tm 7,tm 8 with
 | [],(.int .i64 dE),(.int .i64 du),(.int .i64 iL),(.bool pA),(.ptr sY iB),(.int .i64 pB)=>aN.l29 F ag bW n dE du iL pA sY iB pB H
 | _,_,_,_,_,_,_=>none
def aN.lh469 (ag:asx) (bW:asF) (ks:asD) (n:Nat) (tm:Tm) (H:Hp):OA:=match ks,tm 1,tm 4,tm 5,tm 6,tm 7,tm 8,tm 9 with
 | [dL],(.int .i64 kD),(.int .i64 lN),(.int .i64 lO),(.bool lP),(.ptr ke mu),(.int .i64 iV),(.int .i64 iW)=>aN.l469 F ag bW (aN.l29 F ag bW dL) n kD lN lO lP ke mu iV iW H
 | _,_,_,_,_,_,_,_=>none
def aN.lh (ag:asx) (bW:asF) (p:Nat) (ks:asD) (n:Nat) (tm:Tm) (H:Hp):OA:=bif p.beq 469 then aN.lh469 F ag bW ks n tm H else (bif p.beq 29 then aN.lh29 F ag bW ks n tm H else (none))
def aN.cs (F:Nat) (ag:asx) (bW:asF):Cs:=[(75,mk10 ag),(97,mk7 bW)]
theorem aN.loops (ag:asx) (bW:asF):LO (bS (aN.cs F ag bW)) cf (aN.lh F ag bW) F Try.f204:=
 (af.rt (af.rt (af.lt (af.rt (af.block (af.la (λn tm H r h=>by change aN.lh29 F ag bW [] n tm H=_ at h;unfold aN.lh29 at h;split at h;have e:cX tm [(1,_),(4,_),(5,_),(6,_),(7,_),(8,_)]:=⟨‹_›,‹_›,‹_›,‹_›,‹_›,‹_›,trivial⟩;obtain _ | k29:=n;cases h;exact ⟨_,rfl,by rw [<- db e];exact Eq.trans (by kernel_rfl) h⟩;cases h) λk29=>(af.rt (af.lt (af.block (af.rt (af.block (af.la (λn tm H r h=>by change aN.lh469 F ag bW [k29] n tm H=_ at h;unfold aN.lh469 at h;split at h;have e:cX tm [(1,_),(4,_),(5,_),(6,_),(7,_),(8,_),(9,_)]:=⟨‹_›,‹_›,‹_›,‹_›,‹_›,‹_›,‹_›,trivial⟩;cases (show [k29]=_ from ‹_›);obtain _ | k469:=n;cases h;exact ⟨_,rfl,by rw [<- db e];exact Eq.trans (by kernel_rfl) h⟩;cases h) λk469=>af.no))))))))))))
theorem aN.eqX (ag:asx) (bW:asF) (aa:Nat) (ac:Nat) (ai:Int) (H:Hp):EX (bS (aN.cs F ag bW)) cf (aN.lh F ag bW) F Try.f204 [(.ptr aa ac),(.int .i64 ai)] H=aN.twX F ag bW aa ac ai H:=by kernel_rfl
theorem aN.k:Ok Try.prog 204 (mk2 (aN.tw F)):=by
 intro args H v H' h
 unfold mk2 at h
 split at h
 ·exact okT (TB:=cf) Try.func204 (bH (bf.k F) (bH (cW.k F) da)) (aN.loops F (bf.tw F) (cW.tw F)) ((aN.eqX F (bf.tw F) (cW.tw F) _ _ _ H).trans h) (by kernel_rfl)
 ·cases h
def cA.l7 (F:Nat) (ag:asx) :Nat->Int->Int->Nat->Nat->Int->Int->Hp->OA
 | 0,_,_,_,_,_,_,_=>none
 | q_+1,dU,fN,dD,jV,iX,gv,H17=>(bif (decide (gv<iX)) then ((Hp.ldI H17 .i64 dD jV).bind λn32=>(Hp.ldI H17 .i64 dD (jV+1)).bind λn33=>(Hp.ldSl H17 dD (jV+2)).bind λs34=>(ag n32 n33 s34 dU gv H17).bind λr35=>((r35.1).asP).bind λp36=>(if aX H17 r35.2 then ((Hp.ldI r35.2 .i64 dD jV).bind λn37=>(Hp.ldI r35.2 .i64 dD (jV+1)).bind λn38=>(Hp.ldSl r35.2 dD (jV+2)).bind λs39=>(ag n37 n38 s39 fN gv r35.2).bind λr40=>((r40.1).asP).bind λp41=>(Hp.ldI r40.2 .i64 p41.1 p41.2).bind λn42=>(Hp.ldI r40.2 .i64 p36.1 p36.2).bind λn43=>(Hp.st r40.2 p36.1 p36.2 (.int .i64 n42)).bind λH44=>(Hp.st H44 p41.1 p41.2 (.int .i64 n43)).bind λH45=>cA.l7 F ag q_ dU fN dD jV iX (wrap .i64 (gv+1)) H45) else none)) else (some ((.tup []),H17)))
termination_by structural n=>n
def cA.twX (ag:asx) (aa:Int) (ac:Int) (aM:Sl) (au:Int) (ci:Int) (H:Hp):OA:=(Hp.new H [(.int .i64 aa),(.int .i64 ac),(.sl aM)]).bind λH6=>(Hp.ldI H6 .i64 H.length 1).bind λn7=>cA.l7 F ag F au ci H.length 0 n7 0 H6
def cA.tw:=cA.twX F (bf.tw F)
def cA.lh7 (ag:asx) (ks:asD) (n:Nat) (tm:Tm) (H:Hp):OA:=match ks,tm 1,tm 2,tm 3,tm 10,tm 11 with
 | [],(.int .i64 dU),(.int .i64 fN),(.ptr dD jV),(.int .i64 iX),(.int .i64 gv)=>cA.l7 F ag n dU fN dD jV iX gv H
 | _,_,_,_,_,_=>none
def cA.lh (ag:asx) (p:Nat) (ks:asD) (n:Nat) (tm:Tm) (H:Hp):OA:=bif p.beq 7 then cA.lh7 F ag ks n tm H else (none)
def cA.pn:Nat->List Nat:=dn [(4,[7]),(5,[9,11])]
def cA.tb:Nat->List (List Nat):=dn [(4,[[],[],[],[0,1,2],[],[],[],[0,1,2,3,4,5,6],[0,1,2,3,4,5,6,7],[0,1,2,3,4,5,6,7,8]]),(5,[[],[],[],[2],[2,3],[],[5],[5,6],[0,2,3,4,5,6,7],[0,2,3,4,5,6,7,8],[0,1,2,3,4,5,6,7,8,9],[0,1,2,3,4,5,6,7,8,9,10]])]
def cA.cs (F:Nat) (ag:asx):Cs:=[(75,mk10 ag)]
theorem cA.loops (ag:asx):LO (bS (cA.cs F ag)) cA.pn (cA.lh F ag) F Try.f205:=
 (af.rt (af.rt (af.block (af.la (λn tm H r h=>by change cA.lh7 F ag [] n tm H=_ at h;unfold cA.lh7 at h;split at h;have e:cX tm [(1,_),(2,_),(3,_),(10,_),(11,_)]:=⟨‹_›,‹_›,‹_›,‹_›,‹_›,trivial⟩;obtain _ | k7:=n;cases h;exact ⟨_,rfl,by rw [<- db e];exact Eq.trans (by kernel_rfl) h⟩;cases h) λk7=>af.no))))
theorem cA.eqX (ag:asx) (aa:Int) (ac:Int) (aM:Sl) (au:Int) (ci:Int) (H:Hp):EX (bS (cA.cs F ag)) cA.pn (cA.lh F ag) F Try.f205 [(.agg [(.int .i64 aa),(.int .i64 ac),(.sl aM)]),(.int .i64 au),(.int .i64 ci)] H=cA.twX F ag aa ac aM au ci H:=by kernel_rfl
theorem cA.k:Ok Try.prog 205 (mk10 (cA.tw F)):=by
 intro args H v H' h
 unfold mk10 at h
 split at h
 ·exact okT (TB:=cA.tb) Try.func205 (bH (bf.k F) da) (cA.loops F (bf.tw F)) ((cA.eqX F (bf.tw F) _ _ _ _ _ H).trans h) (by kernel_rfl)
 ·cases h
def cB.l7 (F:Nat) (ag:asx) :Nat->Int->Int->Nat->Nat->Int->Int->Hp->OA
 | 0,_,_,_,_,_,_,_=>none
 | q_+1,dU,fN,dD,jV,iX,gv,H17=>(bif (decide (gv<iX)) then ((Hp.ldI H17 .i64 dD jV).bind λn32=>(Hp.ldI H17 .i64 dD (jV+1)).bind λn33=>(Hp.ldSl H17 dD (jV+2)).bind λs34=>(ag n32 n33 s34 gv dU H17).bind λr35=>((r35.1).asP).bind λp36=>(if aX H17 r35.2 then ((Hp.ldI r35.2 .i64 dD jV).bind λn37=>(Hp.ldI r35.2 .i64 dD (jV+1)).bind λn38=>(Hp.ldSl r35.2 dD (jV+2)).bind λs39=>(ag n37 n38 s39 gv fN r35.2).bind λr40=>((r40.1).asP).bind λp41=>(Hp.ldI r40.2 .i64 p41.1 p41.2).bind λn42=>(Hp.ldI r40.2 .i64 p36.1 p36.2).bind λn43=>(Hp.st r40.2 p36.1 p36.2 (.int .i64 n42)).bind λH44=>(Hp.st H44 p41.1 p41.2 (.int .i64 n43)).bind λH45=>cB.l7 F ag q_ dU fN dD jV iX (wrap .i64 (gv+1)) H45) else none)) else (some ((.tup []),H17)))
termination_by structural n=>n
def cB.twX (ag:asx) (aa:Int) (ac:Int) (aM:Sl) (au:Int) (ci:Int) (H:Hp):OA:=(Hp.new H [(.int .i64 aa),(.int .i64 ac),(.sl aM)]).bind λH6=>(Hp.ldI H6 .i64 H.length 0).bind λn7=>cB.l7 F ag F au ci H.length 0 n7 0 H6
def cB.tw:=cB.twX F (bf.tw F)
def cB.lh7 (ag:asx) (ks:asD) (n:Nat) (tm:Tm) (H:Hp):OA:=match ks,tm 1,tm 2,tm 3,tm 10,tm 11 with
 | [],(.int .i64 dU),(.int .i64 fN),(.ptr dD jV),(.int .i64 iX),(.int .i64 gv)=>cB.l7 F ag n dU fN dD jV iX gv H
 | _,_,_,_,_,_=>none
def cB.lh (ag:asx) (p:Nat) (ks:asD) (n:Nat) (tm:Tm) (H:Hp):OA:=bif p.beq 7 then cB.lh7 F ag ks n tm H else (none)
def cB.pn:Nat->List Nat:=dn [(4,[7]),(5,[9,11])]
def cB.tb:Nat->List (List Nat):=dn [(4,[[],[],[],[0,1,2],[],[],[],[0,1,2,3,4,5,6],[0,1,2,3,4,5,6,7],[0,1,2,3,4,5,6,7,8]]),(5,[[],[],[],[2],[2,3],[],[5],[5,6],[0,2,3,4,5,6,7],[0,2,3,4,5,6,7,8],[0,1,2,3,4,5,6,7,8,9],[0,1,2,3,4,5,6,7,8,9,10]])]
def cB.cs (F:Nat) (ag:asx):Cs:=[(75,mk10 ag)]
theorem cB.loops (ag:asx):LO (bS (cB.cs F ag)) cB.pn (cB.lh F ag) F Try.f206:=
 (af.rt (af.rt (af.block (af.la (λn tm H r h=>by change cB.lh7 F ag [] n tm H=_ at h;unfold cB.lh7 at h;split at h;have e:cX tm [(1,_),(2,_),(3,_),(10,_),(11,_)]:=⟨‹_›,‹_›,‹_›,‹_›,‹_›,trivial⟩;obtain _ | k7:=n;cases h;exact ⟨_,rfl,by rw [<- db e];exact Eq.trans (by kernel_rfl) h⟩;cases h) λk7=>af.no))))
theorem cB.eqX (ag:asx) (aa:Int) (ac:Int) (aM:Sl) (au:Int) (ci:Int) (H:Hp):EX (bS (cB.cs F ag)) cB.pn (cB.lh F ag) F Try.f206 [(.agg [(.int .i64 aa),(.int .i64 ac),(.sl aM)]),(.int .i64 au),(.int .i64 ci)] H=cB.twX F ag aa ac aM au ci H:=by kernel_rfl
theorem cB.k:Ok Try.prog 206 (mk10 (cB.tw F)):=by
 intro args H v H' h
 unfold mk10 at h
 split at h
 ·exact okT (TB:=cB.tb) Try.func206 (bH (bf.k F) da) (cB.loops F (bf.tw F)) ((cB.eqX F (bf.tw F) _ _ _ _ _ H).trans h) (by kernel_rfl)
 ·cases h
def bG.l32747 (F:Nat) (ff:asA) (e_:asx) (fa:asx) (ag:asx) (bC:asG) :Nat->Nat->Nat->Int->Int->Int->Hp->OA
 | 0,_,_,_,_,_,_=>none
 | ag9+1,rk,rl,nr,pE,lQ,H159=>(bif (decide (lQ<pE)) then ((Hp.ldI H159 .i64 rk (rl+3)).bind λn172=>(Hp.ldI H159 .i64 rk ((rl+3)+1)).bind λn173=>(Hp.ldSl H159 rk ((rl+3)+2)).bind λs174=>(ag n172 n173 s174 lQ nr H159).bind λr175=>((r175.1).asP).bind λp176=>(if aX H159 r175.2 then ((Hp.ldI r175.2 .i64 rk (rl+3)).bind λn177=>(Hp.ldI r175.2 .i64 rk ((rl+3)+1)).bind λn178=>(Hp.ldSl r175.2 rk ((rl+3)+2)).bind λs179=>(ag n177 n178 s179 lQ nr r175.2).bind λr180=>((r180.1).asP).bind λp181=>(Hp.ldI r180.2 .i64 p181.1 p181.2).bind λn182=>(Hp.st r180.2 p176.1 p176.2 (.int .i64 (wrap .i64 (0 - n182)))).bind λH183=>bG.l32747 F ff e_ fa ag bC ag9 rk rl nr pE (wrap .i64 (lQ+1)) H183) else none)) else (some ((.bool true),H159)))
termination_by structural n=>n
def bG.j3 (ff:asA) (e_:asx) (fa:asx) (ag:asx) (bC:asG) (VT:Nat) (VU:Nat) (zj:Int) (H142:Hp):OA:=(Hp.ldI H142 .i64 VT (VU+3)).bind λn143=>bG.l32747 F ff e_ fa ag bC F VT VU zj n143 0 H142
def bG.j4 (F:Nat) (ff:asA) (e_:asx) (fa:asx) (ag:asx) (bC:asG) (C32745_:atz) (ag_:Nat) (aha:Nat) (ahb:Int) (ahc:Sl) (ahd:Int) (ahe:Int) (H242:Hp):OA:=C32745_ ag_ aha ahb ahc ahd (wrap .i64 (ahe+1)) H242
def bG.j5 (ff:asA) (e_:asx) (fa:asx) (ag:asx) (bC:asG) (C32745_:atz) (ahf:Nat) (ahg:Nat) (ahh:Int) (ahi:Sl) (ahj:Int) (ahk:Int) (H224:Hp):OA:=bG.j4 F ff e_ fa ag bC C32745_ ahf ahg ahh ahi ahj ahk H224
def bG.l2095707 (F:Nat) (ff:asA) (e_:asx) (fa:asx) (ag:asx) (bC:asG) (C32745_:atz):Nat->Nat->Nat->Int->Sl->Int->Int->Sl->Int->Int->Hp->OA
 | 0,_,_,_,_,_,_,_,_,_,_=>none
 | ahl+1,Gl,Gm,Gn,Gp,Gq,Gr,BM,Gs,zm,H202=>(bif (decide (zm<Gs)) then ((Sl.idx BM zm 1).bind λp243=>(Hp.ldI H202 .i64 p243.1 p243.2).bind λn244=>(Sl.idx BM zm 1).bind λp245=>(Hp.st H202 p245.1 p245.2 (.int .i64 (wrap .i64 (0 - n244)))).bind λH246=>bG.l2095707 F ff e_ fa ag bC C32745_ ahl Gl Gm Gn Gp Gq Gr BM Gs (wrap .i64 (zm+1)) H246) else (bG.j5 F ff e_ fa ag bC C32745_ Gl Gm Gn Gp Gq Gr H202))
termination_by structural n=>n
def bG.l32745 (F:Nat) (ff:asA) (e_:asx) (fa:asx) (ag:asx) (bC:asG) :Nat->Nat->Nat->Int->Sl->Int->Int->Hp->OA
 | 0,_,_,_,_,_,_,_=>none
 | LT+1,pF,pG,iM,Gt,Gu,BN,H65=>(bif (decide (BN<Gu)) then ((Sl.idx Gt BN 1).bind λp184=>(Hp.ldSl H65 p184.1 p184.2).bind λs185=>bG.l2095707 F ff e_ fa ag bC (bG.l32745 F ff e_ fa ag bC LT) F pF pG iM Gt Gu BN s185 (s185.n:Int) 0 H65) else (bG.j3 F ff e_ fa ag bC pF pG iM H65))
termination_by structural n=>n
def bG.twX (ff:asA) (e_:asx) (fa:asx) (ag:asx) (bC:asG) (aa:Nat) (ac:Nat) (ai:Int) (H:Hp):OA:=(ff aa ac ai H).bind λr4=>((r4.1).asTup 3).bind λl5=>(l5[0]?).bind λv6=>((v6).asI .i64).bind λn7=>(l5[1]?).bind λv8=>((v8).asI .i64).bind λn9=>(l5[2]?).bind λv10=>((v10).asB).bind λb11=>(bif (!b11) then (some ((.bool false),r4.2)) else ((Hp.ldI r4.2 .i64 aa (ac+6)).bind λn12=>(Hp.ldI r4.2 .i64 aa ((ac+6)+1)).bind λn13=>(Hp.ldSl r4.2 aa ((ac+6)+2)).bind λs14=>(e_ n12 n13 s14 n7 ai r4.2).bind λr15=>(Hp.ldI r15.2 .i64 aa ac).bind λn16=>(Hp.ldI r15.2 .i64 aa (ac+1)).bind λn17=>(Hp.ldSl r15.2 aa (ac+2)).bind λs18=>(e_ n16 n17 s18 n7 ai r15.2).bind λr19=>(Hp.ldI r19.2 .i64 aa (ac+3)).bind λn20=>(Hp.ldI r19.2 .i64 aa ((ac+3)+1)).bind λn21=>(Hp.ldSl r19.2 aa ((ac+3)+2)).bind λs22=>(fa n20 n21 s22 n7 ai r19.2).bind λr23=>(Hp.ldI r23.2 .i64 aa (ac+6)).bind λn24=>(Hp.ldI r23.2 .i64 aa ((ac+6)+1)).bind λn25=>(Hp.ldSl r23.2 aa ((ac+6)+2)).bind λs26=>(fa n24 n25 s26 n9 ai r23.2).bind λr27=>(Hp.ldI r27.2 .i64 aa (ac+9)).bind λn28=>(Hp.ldI r27.2 .i64 aa ((ac+9)+1)).bind λn29=>(Hp.ldSl r27.2 aa ((ac+9)+2)).bind λs30=>(fa n28 n29 s30 n9 ai r27.2).bind λr31=>(Hp.ldI r31.2 .i64 aa (ac+12)).bind λn32=>(Hp.ldI r31.2 .i64 aa ((ac+12)+1)).bind λn33=>(Hp.ldSl r31.2 aa ((ac+12)+2)).bind λs34=>(e_ n32 n33 s34 n9 ai r31.2).bind λr35=>(Hp.ldI r35.2 .i64 aa (ac+6)).bind λn36=>(Hp.ldI r35.2 .i64 aa ((ac+6)+1)).bind λn37=>(Hp.ldSl r35.2 aa ((ac+6)+2)).bind λs38=>(ag n36 n37 s38 ai ai r35.2).bind λr39=>((r39.1).asP).bind λp40=>(Hp.ldI r39.2 .i64 p40.1 p40.2).bind λn41=>(bif (decide (n41<0)) then ((Hp.ldI r39.2 .i64 aa (ac+6)).bind λn42=>(Hp.ldI r39.2 .i64 aa ((ac+6)+1)).bind λn43=>(Hp.ldSl r39.2 aa ((ac+6)+2)).bind λs44=>(bC n42 n43 s44 ai r39.2).bind λr45=>((r45.1).asSl).bind λs46=>(if aX r39.2 r45.2 then ((Hp.ldI r45.2 .i64 aa ac).bind λn47=>(Hp.ldI r45.2 .i64 aa (ac+1)).bind λn48=>(Hp.ldSl r45.2 aa (ac+2)).bind λs49=>(bC n47 n48 s49 ai r45.2).bind λr50=>((r50.1).asSl).bind λs51=>(Hp.new r50.2 [(.sl s46),(.sl s51)]).bind λH52=>bG.l32745 F ff e_ fa ag bC F aa ac ai (⟨some (r50.2.length,0),2,.ex 2⟩:Sl) ((⟨some (r50.2.length,0),2,.ex 2⟩:Sl).n:Int) 0 H52) else none)) else (some ((.bool true),r39.2)))))
def bG.tw:=bG.twX F (aN.tw F) (cA.tw F) (cB.tw F) (bf.tw F) (dx.tw F)
def bG.lh32745 (ff:asA) (e_:asx) (fa:asx) (ag:asx) (bC:asG) (ks:asD) (n:Nat) (tm:Tm) (H:Hp):OA:=match ks,tm 0,tm 1,tm 94,tm 95,tm 96 with
 | [],(.ptr pF pG),(.int .i64 iM),(.sl Gt),(.int .i64 Gu),(.int .i64 BN)=>bG.l32745 F ff e_ fa ag bC n pF pG iM Gt Gu BN H
 | _,_,_,_,_,_=>none
def bG.lh32747 (ff:asA) (e_:asx) (fa:asx) (ag:asx) (bC:asG) (ks:asD) (n:Nat) (tm:Tm) (H:Hp):OA:=match ks,tm 0,tm 1,tm 120,tm 121 with
 | [],(.ptr rk rl),(.int .i64 nr),(.int .i64 pE),(.int .i64 lQ)=>bG.l32747 F ff e_ fa ag bC n rk rl nr pE lQ H
 | _,_,_,_,_=>none
def bG.lh2095707 (ff:asA) (e_:asx) (fa:asx) (ag:asx) (bC:asG) (ks:asD) (n:Nat) (tm:Tm) (H:Hp):OA:=match ks,tm 0,tm 1,tm 9,tm 94,tm 95,tm 96,tm 101,tm 102 with
 | [LT],(.ptr Gl Gm),(.int .i64 Gn),(.sl BM),(.sl Gp),(.int .i64 Gq),(.int .i64 Gr),(.int .i64 Gs),(.int .i64 zm)=>bG.l2095707 F ff e_ fa ag bC (bG.l32745 F ff e_ fa ag bC LT) n Gl Gm Gn Gp Gq Gr BM Gs zm H
 | _,_,_,_,_,_,_,_,_=>none
def bG.lh (ff:asA) (e_:asx) (fa:asx) (ag:asx) (bC:asG) (p:Nat) (ks:asD) (n:Nat) (tm:Tm) (H:Hp):OA:=bif p.beq 2095707 then bG.lh2095707 F ff e_ fa ag bC ks n tm H else (bif p.beq 32747 then bG.lh32747 F ff e_ fa ag bC ks n tm H else (bif p.beq 32745 then bG.lh32745 F ff e_ fa ag bC ks n tm H else (none)))
def bG.pn:Nat->List Nat:=dn [(11,[13]),(23,[15,20])]
def bG.tb:Nat->List (List Nat):=dn [(11,[[],[0],[0,1],[0,1,2],[0,1,2,3],[],[0,1,2,3,4,5],[],[7],[7,8],[7,8,9],[7,8,9,10],[],[0,1,2,3,4,5,6,7,8,9,10,11,12],[0,1,2,3,4,5,6,7,8,9,10,11,12,13],[0,1,2,3,4,5,6,7,8,9,10,11,12,13,14],[]]),(23,[[],[0],[0,1],[0,1,2],[0,1,2,3],[],[],[0,1,2,3,4,5,6],[],[8],[8,9],[8,9,10],[8,9,10,11],[],[],[0,1,2,3,4,5,6,7,8,9,10,11,12,13,14],[0,1,2,3,4,5,6,7,8,9,10,11,12,13,14,15],[0,1,2,3,4,5,6,7,8,9,10,11,12,13,14,15,16],[0,1,2,3,4,5,6,7,8,9,10,11,12,13,14,15,16,17],[0,1,2,3,4,5,6,7,8,9,10,11,12,13,14,15,16,17,18],[0,1,2,3,4,5,6,7,8,9,10,11,12,13,14,15,16,17,18,19]])]
def bG.cs (F:Nat) (ff:asA) (e_:asx) (fa:asx) (ag:asx) (bC:asG):Cs:=[(204,mk2 ff),(205,mk10 e_),(206,mk10 fa),(75,mk10 ag),(128,mk13 bC)]
theorem bG.loops (ff:asA) (e_:asx) (fa:asx) (ag:asx) (bC:asG):LO (bS (bG.cs F ff e_ fa ag bC)) bG.pn (bG.lh F ff e_ fa ag bC) F Try.f173:=
 (af.rt (af.rt (af.rt (af.rt (af.rt (af.rt (af.rt (af.rt (af.rt (af.lt (af.rt (af.cond (af.seq (af.rt (af.block (af.la (λn tm H r h=>by change bG.lh32745 F ff e_ fa ag bC [] n tm H=_ at h;unfold bG.lh32745 at h;split at h;have e:cX tm [(0,_),(1,_),(94,_),(95,_),(96,_)]:=⟨‹_›,‹_›,‹_›,‹_›,‹_›,trivial⟩;obtain _ | k32745:=n;cases h;exact ⟨_,rfl,by rw [<- db e];exact Eq.trans (by kernel_rfl) h⟩;cases h) λk32745=>(af.rt (af.rt (af.lt (af.block (af.rt (af.rt (af.block (af.la (λn tm H r h=>by change bG.lh2095707 F ff e_ fa ag bC [k32745] n tm H=_ at h;unfold bG.lh2095707 at h;split at h;have e:cX tm [(0,_),(1,_),(9,_),(94,_),(95,_),(96,_),(101,_),(102,_)]:=⟨‹_›,‹_›,‹_›,‹_›,‹_›,‹_›,‹_›,‹_›,trivial⟩;cases (show [k32745]=_ from ‹_›);obtain _ | k2095707:=n;cases h;exact ⟨_,rfl,by rw [<- db e];exact Eq.trans (by kernel_rfl) h⟩;cases h) λk2095707=>af.no))))))))))) (af.rt (af.block (af.la (λn tm H r h=>by change bG.lh32747 F ff e_ fa ag bC [] n tm H=_ at h;unfold bG.lh32747 at h;split at h;have e:cX tm [(0,_),(1,_),(120,_),(121,_)]:=⟨‹_›,‹_›,‹_›,‹_›,trivial⟩;obtain _ | k32747:=n;cases h;exact ⟨_,rfl,by rw [<- db e];exact Eq.trans (by kernel_rfl) h⟩;cases h) λk32747=>af.no)))) af.no))))))))))))
theorem bG.eqX (ff:asA) (e_:asx) (fa:asx) (ag:asx) (bC:asG) (aa:Nat) (ac:Nat) (ai:Int) (H:Hp):EX (bS (bG.cs F ff e_ fa ag bC)) bG.pn (bG.lh F ff e_ fa ag bC) F Try.f173 [(.ptr aa ac),(.int .i64 ai)] H=bG.twX F ff e_ fa ag bC aa ac ai H:=by kernel_rfl
theorem bG.k:Ok Try.prog 173 (mk2 (bG.tw F)):=by
 intro args H v H' h
 unfold mk2 at h
 split at h
 ·exact okT (TB:=bG.tb) Try.func173 (bH (aN.k F) (bH (cA.k F) (bH (cB.k F) (bH (bf.k F) (bH (dx.k F) da))))) (bG.loops F (aN.tw F) (cA.tw F) (cB.tw F) (bf.tw F) (dx.tw F)) ((bG.eqX F (aN.tw F) (cA.tw F) (cB.tw F) (bf.tw F) (dx.tw F) _ _ _ H).trans h) (by kernel_rfl)
 ·cases h
def ic.twX (F:Nat) (aa:Int) (aG:Int) (H:Hp):OA:=(if aG=0 then none else ((if aG=0 then none else ((bif (decide ((Int.tmod aa aG)<0)) then (some ((.int .i64 (wrap .i64 ((wrap .i64 (Int.tdiv aa aG)) - 1))),H)) else (some ((.int .i64 (wrap .i64 (Int.tdiv aa aG))),H)))))))
def ic.tw:=ic.twX F
theorem ic.k:Ok Try.prog 207 (mk3 (ic.tw F)):=by
 intro args H v H' h
 unfold mk3 at h
 split at h
 ·exact ok0 Try.func207 (Eq.trans (by kernel_rfl) h) (by kernel_rfl) (by kernel_rfl)
 ·cases h
def fX.twX (F:Nat) (bW:asF) (aa:Int) (aG:Int) (ga:Int) (H:Hp):OA:=(bif (aa != 0) then ((bW aG H).bind λr4=>((r4.1).asI .i64).bind λn5=>(bW aa r4.2).bind λr6=>((r6.1).asI .i64).bind λn7=>(if n7=0 then none else ((bif (decide (n5>(wrap .i64 (Int.tdiv ga n7)))) then (some ((.tup [(.int .i64 0),(.bool false)]),r6.2)) else (some ((.tup [(.int .i64 (wrap .i64 (aa * aG))),(.bool true)]),r6.2)))))) else (some ((.tup [(.int .i64 (wrap .i64 (aa * aG))),(.bool true)]),H)))
def fX.tw:=fX.twX F (cW.tw F)
def fX.cs (F:Nat) (bW:asF):Cs:=[(97,mk7 bW)]
theorem fX.eqX (bW:asF) (aa:Int) (aG:Int) (ga:Int) (H:Hp):EX (bS (fX.cs F bW)) cf lh0 F Try.f172 [(.int .i64 aa),(.int .i64 aG),(.int .i64 ga)] H=fX.twX F bW aa aG ga H:=by kernel_rfl
theorem fX.k:Ok Try.prog 172 (mk6 (fX.tw F)):=by
 intro args H v H' h
 unfold mk6 at h
 split at h
 ·exact okT (TB:=cf) Try.func172 (bH (cW.k F) da) af.no ((fX.eqX F (cW.tw F) _ _ _ H).trans h) (by kernel_rfl)
 ·cases h
def gd.twX (F:Nat) (zn:asL) (bW:asF) (aa:Nat) (ac:Nat) (ai:Nat) (au:Nat) (ci:Int) (kE:Int) (H:Hp):OA:=(zn ci kE 2000000000000 H).bind λr7=>((r7.1).asTup 2).bind λl8=>(l8[0]?).bind λv9=>((v9).asI .i64).bind λn10=>(l8[1]?).bind λv11=>((v11).asB).bind λb12=>(Hp.ldI r7.2 .i64 ai au).bind λn13=>(Hp.st r7.2 ai au (.int .i64 (wrap .i64 (n13+n10)))).bind λH14=>(bif (!b12) then ((Hp.st H14 aa (ac+15) (.bool true)).bind λH15=>(Hp.st H15 ai au (.int .i64 0)).bind λH16=>some ((.tup []),H16)) else ((Hp.ldI H14 .i64 ai au).bind λn17=>(bW n17 H14).bind λr18=>((r18.1).asI .i64).bind λn19=>(bif (decide (n19>1000000000000)) then ((Hp.st r18.2 aa (ac+15) (.bool true)).bind λH20=>(Hp.st H20 ai au (.int .i64 0)).bind λH21=>some ((.tup []),H21)) else (some ((.tup []),r18.2)))))
def gd.tw:=gd.twX F (fX.tw F) (cW.tw F)
def mk14 (g:asN) (args:asJ) (H:Hp):OA:=match args with
 | [(.ptr aa ac),(.ptr ai au),(.int .i64 ci),(.int .i64 kE)]=>g aa ac ai au ci kE H
 | _=>none
theorem mk14_E (g:asN) (aa:Nat) (ac:Nat) (ai:Nat) (au:Nat) (ci:Int) (kE:Int) (H:Hp):mk14 g [(.ptr aa ac),(.ptr ai au),(.int .i64 ci),(.int .i64 kE)] H=g aa ac ai au ci kE H:=rfl
def gd.cs (F:Nat) (zn:asL) (bW:asF):Cs:=[(172,mk6 zn),(97,mk7 bW)]
theorem gd.eqX (zn:asL) (bW:asF) (aa:Nat) (ac:Nat) (ai:Nat) (au:Nat) (ci:Int) (kE:Int) (H:Hp):EX (bS (gd.cs F zn bW)) cf lh0 F Try.f217 [(.ptr aa ac),(.ptr ai au),(.int .i64 ci),(.int .i64 kE)] H=gd.twX F zn bW aa ac ai au ci kE H:=by kernel_rfl
theorem gd.k:Ok Try.prog 217 (mk14 (gd.tw F)):=by
 intro args H v H' h
 unfold mk14 at h
 split at h
 ·exact okT (TB:=cf) Try.func217 (bH (fX.k F) (bH (cW.k F) da)) af.no ((gd.eqX F (fX.tw F) (cW.tw F) _ _ _ _ _ _ H).trans h) (by kernel_rfl)
 ·cases h
def cu.l7 (F:Nat) (ag:asx) (fm:asN) :Nat->Nat->Nat->Int->Int->Int->Nat->Nat->Int->Int->Hp->OA
 | 0,_,_,_,_,_,_,_,_,_,_=>none
 | q_+1,kf,kg,eZ,fY,ij,ik,jW,dT,fD,H23=>(bif (decide (fD<dT)) then ((Hp.ldI H23 .i64 ik jW).bind λn36=>(Hp.ldI H23 .i64 ik (jW+1)).bind λn37=>(Hp.ldSl H23 ik (jW+2)).bind λs38=>(ag n36 n37 s38 eZ fD H23).bind λr39=>((r39.1).asP).bind λp40=>(if aX H23 r39.2 then ((Hp.ldI r39.2 .i64 ik jW).bind λn41=>(Hp.ldI r39.2 .i64 ik (jW+1)).bind λn42=>(Hp.ldSl r39.2 ik (jW+2)).bind λs43=>(ag n41 n42 s43 fY fD r39.2).bind λr44=>((r44.1).asP).bind λp45=>(Hp.ldI r44.2 .i64 p45.1 p45.2).bind λn46=>(fm kf kg p40.1 p40.2 n46 ij r44.2).bind λr47=>cu.l7 F ag fm q_ kf kg eZ fY ij ik jW dT (wrap .i64 (fD+1)) r47.2) else none)) else (some ((.tup []),H23)))
termination_by structural n=>n
def cu.twX (ag:asx) (fm:asN) (aa:Nat) (ac:Nat) (ai:Int) (au:Int) (ct:Sl) (gH:Int) (gI:Int) (gw:Int) (H:Hp):OA:=(Hp.new H [(.int .i64 ai),(.int .i64 au),(.sl ct)]).bind λH9=>(Hp.ldI H9 .i64 H.length 1).bind λn10=>cu.l7 F ag fm F aa ac gH gI gw H.length 0 n10 0 H9
def cu.tw:=cu.twX F (bf.tw F) (gd.tw F)
def cu.lh7 (ag:asx) (fm:asN) (ks:asD) (n:Nat) (tm:Tm) (H:Hp):OA:=match ks,tm 0,tm 2,tm 3,tm 4,tm 6,tm 12,tm 13 with
 | [],(.ptr kf kg),(.int .i64 eZ),(.int .i64 fY),(.int .i64 ij),(.ptr ik jW),(.int .i64 dT),(.int .i64 fD)=>cu.l7 F ag fm n kf kg eZ fY ij ik jW dT fD H
 | _,_,_,_,_,_,_,_=>none
def cu.lh (ag:asx) (fm:asN) (p:Nat) (ks:asD) (n:Nat) (tm:Tm) (H:Hp):OA:=bif p.beq 7 then cu.lh7 F ag fm ks n tm H else (none)
def cu.pn:Nat->List Nat:=dn [(4,[8,12])]
def cu.tb:Nat->List (List Nat):=dn [(4,[[],[],[],[],[1,2,3],[],[],[],[1,2,3,4,5,6,7],[1,2,3,4,5,6,7,8],[1,2,3,4,5,6,7,8,9],[],[0,1,2,3,4,5,6,7,8,9,10,11]])]
def mk15 (g:asV) (args:asJ) (H:Hp):OA:=match args with
 | [(.ptr aa ac),(.agg [(.int .i64 ai),(.int .i64 au),(.sl ct)]),(.int .i64 gH),(.int .i64 gI),(.int .i64 gw)]=>g aa ac ai au ct gH gI gw H
 | _=>none
theorem mk15_E (g:asV) (aa:Nat) (ac:Nat) (ai:Int) (au:Int) (ct:Sl) (gH:Int) (gI:Int) (gw:Int) (H:Hp):mk15 g [(.ptr aa ac),(.agg [(.int .i64 ai),(.int .i64 au),(.sl ct)]),(.int .i64 gH),(.int .i64 gI),(.int .i64 gw)] H=g aa ac ai au ct gH gI gw H:=rfl
def cu.cs (F:Nat) (ag:asx) (fm:asN):Cs:=[(75,mk10 ag),(217,mk14 fm)]
theorem cu.loops (ag:asx) (fm:asN):LO (bS (cu.cs F ag fm)) cu.pn (cu.lh F ag fm) F Try.f211:=
 (af.rt (af.rt (af.block (af.la (λn tm H r h=>by change cu.lh7 F ag fm [] n tm H=_ at h;unfold cu.lh7 at h;split at h;have e:cX tm [(0,_),(2,_),(3,_),(4,_),(6,_),(12,_),(13,_)]:=⟨‹_›,‹_›,‹_›,‹_›,‹_›,‹_›,‹_›,trivial⟩;obtain _ | k7:=n;cases h;exact ⟨_,rfl,by rw [<- db e];exact Eq.trans (by kernel_rfl) h⟩;cases h) λk7=>af.no))))
theorem cu.eqX (ag:asx) (fm:asN) (aa:Nat) (ac:Nat) (ai:Int) (au:Int) (ct:Sl) (gH:Int) (gI:Int) (gw:Int) (H:Hp):EX (bS (cu.cs F ag fm)) cu.pn (cu.lh F ag fm) F Try.f211 [(.ptr aa ac),(.agg [(.int .i64 ai),(.int .i64 au),(.sl ct)]),(.int .i64 gH),(.int .i64 gI),(.int .i64 gw)] H=cu.twX F ag fm aa ac ai au ct gH gI gw H:=by kernel_rfl
theorem cu.k:Ok Try.prog 211 (mk15 (cu.tw F)):=by
 intro args H v H' h
 unfold mk15 at h
 split at h
 ·exact okT (TB:=cu.tb) Try.func211 (bH (bf.k F) (bH (gd.k F) da)) (cu.loops F (bf.tw F) (gd.tw F)) ((cu.eqX F (bf.tw F) (gd.tw F) _ _ _ _ _ _ _ _ H).trans h) (by kernel_rfl)
 ·cases h
def cv.l7 (F:Nat) (ag:asx) (fm:asN) :Nat->Nat->Nat->Int->Int->Int->Nat->Nat->Int->Int->Hp->OA
 | 0,_,_,_,_,_,_,_,_,_,_=>none
 | q_+1,kf,kg,eZ,fY,ij,ik,jW,dT,fD,H23=>(bif (decide (fD<dT)) then ((Hp.ldI H23 .i64 ik jW).bind λn36=>(Hp.ldI H23 .i64 ik (jW+1)).bind λn37=>(Hp.ldSl H23 ik (jW+2)).bind λs38=>(ag n36 n37 s38 fD eZ H23).bind λr39=>((r39.1).asP).bind λp40=>(if aX H23 r39.2 then ((Hp.ldI r39.2 .i64 ik jW).bind λn41=>(Hp.ldI r39.2 .i64 ik (jW+1)).bind λn42=>(Hp.ldSl r39.2 ik (jW+2)).bind λs43=>(ag n41 n42 s43 fD fY r39.2).bind λr44=>((r44.1).asP).bind λp45=>(Hp.ldI r44.2 .i64 p45.1 p45.2).bind λn46=>(fm kf kg p40.1 p40.2 n46 ij r44.2).bind λr47=>cv.l7 F ag fm q_ kf kg eZ fY ij ik jW dT (wrap .i64 (fD+1)) r47.2) else none)) else (some ((.tup []),H23)))
termination_by structural n=>n
def cv.twX (ag:asx) (fm:asN) (aa:Nat) (ac:Nat) (ai:Int) (au:Int) (ct:Sl) (gH:Int) (gI:Int) (gw:Int) (H:Hp):OA:=(Hp.new H [(.int .i64 ai),(.int .i64 au),(.sl ct)]).bind λH9=>(Hp.ldI H9 .i64 H.length 0).bind λn10=>cv.l7 F ag fm F aa ac gH gI gw H.length 0 n10 0 H9
def cv.tw:=cv.twX F (bf.tw F) (gd.tw F)
def cv.lh7 (ag:asx) (fm:asN) (ks:asD) (n:Nat) (tm:Tm) (H:Hp):OA:=match ks,tm 0,tm 2,tm 3,tm 4,tm 6,tm 12,tm 13 with
 | [],(.ptr kf kg),(.int .i64 eZ),(.int .i64 fY),(.int .i64 ij),(.ptr ik jW),(.int .i64 dT),(.int .i64 fD)=>cv.l7 F ag fm n kf kg eZ fY ij ik jW dT fD H
 | _,_,_,_,_,_,_,_=>none
def cv.lh (ag:asx) (fm:asN) (p:Nat) (ks:asD) (n:Nat) (tm:Tm) (H:Hp):OA:=bif p.beq 7 then cv.lh7 F ag fm ks n tm H else (none)
def cv.pn:Nat->List Nat:=dn [(4,[8,12])]
def cv.tb:Nat->List (List Nat):=dn [(4,[[],[],[],[],[1,2,3],[],[],[],[1,2,3,4,5,6,7],[1,2,3,4,5,6,7,8],[1,2,3,4,5,6,7,8,9],[],[0,1,2,3,4,5,6,7,8,9,10,11]])]
def cv.cs (F:Nat) (ag:asx) (fm:asN):Cs:=[(75,mk10 ag),(217,mk14 fm)]
theorem cv.loops (ag:asx) (fm:asN):LO (bS (cv.cs F ag fm)) cv.pn (cv.lh F ag fm) F Try.f212:=
 (af.rt (af.rt (af.block (af.la (λn tm H r h=>by change cv.lh7 F ag fm [] n tm H=_ at h;unfold cv.lh7 at h;split at h;have e:cX tm [(0,_),(2,_),(3,_),(4,_),(6,_),(12,_),(13,_)]:=⟨‹_›,‹_›,‹_›,‹_›,‹_›,‹_›,‹_›,trivial⟩;obtain _ | k7:=n;cases h;exact ⟨_,rfl,by rw [<- db e];exact Eq.trans (by kernel_rfl) h⟩;cases h) λk7=>af.no))))
theorem cv.eqX (ag:asx) (fm:asN) (aa:Nat) (ac:Nat) (ai:Int) (au:Int) (ct:Sl) (gH:Int) (gI:Int) (gw:Int) (H:Hp):EX (bS (cv.cs F ag fm)) cv.pn (cv.lh F ag fm) F Try.f212 [(.ptr aa ac),(.agg [(.int .i64 ai),(.int .i64 au),(.sl ct)]),(.int .i64 gH),(.int .i64 gI),(.int .i64 gw)] H=cv.twX F ag fm aa ac ai au ct gH gI gw H:=by kernel_rfl
theorem cv.k:Ok Try.prog 212 (mk15 (cv.tw F)):=by
 intro args H v H' h
 unfold mk15 at h
 split at h
 ·exact okT (TB:=cv.tb) Try.func212 (bH (bf.k F) (bH (gd.k F) da)) (cv.loops F (bf.tw F) (gd.tw F)) ((cv.eqX F (bf.tw F) (gd.tw F) _ _ _ _ _ _ _ _ H).trans h) (by kernel_rfl)
 ·cases h
def eS.twX (F:Nat) (mv:asV) (mw:asV) (aa:Nat) (ac:Nat) (ai:Int) (cp:Int) (eT:Int) (H:Hp):OA:=(Hp.ldI H .i64 aa (ac+6)).bind λn6=>(Hp.ldI H .i64 aa ((ac+6)+1)).bind λn7=>(Hp.ldSl H aa ((ac+6)+2)).bind λs8=>(mv aa ac n6 n7 s8 ai cp eT H).bind λr9=>(Hp.ldI r9.2 .i64 aa ac).bind λn10=>(Hp.ldI r9.2 .i64 aa (ac+1)).bind λn11=>(Hp.ldSl r9.2 aa (ac+2)).bind λs12=>(mv aa ac n10 n11 s12 ai cp eT r9.2).bind λr13=>(Hp.ldI r13.2 .i64 aa (ac+3)).bind λn14=>(Hp.ldI r13.2 .i64 aa ((ac+3)+1)).bind λn15=>(Hp.ldSl r13.2 aa ((ac+3)+2)).bind λs16=>(mw aa ac n14 n15 s16 cp ai (wrap .i64 (0 - eT)) r13.2).bind λr17=>some ((.tup []),r17.2)
def eS.tw:=eS.twX F (cu.tw F) (cv.tw F)
def mk16 (g:asH) (args:asJ) (H:Hp):OA:=match args with
 | [(.ptr aa ac),(.int .i64 ai),(.int .i64 cp),(.int .i64 eT)]=>g aa ac ai cp eT H
 | _=>none
theorem mk16_E (g:asH) (aa:Nat) (ac:Nat) (ai:Int) (cp:Int) (eT:Int) (H:Hp):mk16 g [(.ptr aa ac),(.int .i64 ai),(.int .i64 cp),(.int .i64 eT)] H=g aa ac ai cp eT H:=rfl
def eS.cs (F:Nat) (mv:asV) (mw:asV):Cs:=[(211,mk15 mv),(212,mk15 mw)]
theorem eS.eqX (mv:asV) (mw:asV) (aa:Nat) (ac:Nat) (ai:Int) (cp:Int) (eT:Int) (H:Hp):EX (bS (eS.cs F mv mw)) cf lh0 F Try.f177 [(.ptr aa ac),(.int .i64 ai),(.int .i64 cp),(.int .i64 eT)] H=eS.twX F mv mw aa ac ai cp eT H:=by kernel_rfl
theorem eS.k:Ok Try.prog 177 (mk16 (eS.tw F)):=by
 intro args H v H' h
 unfold mk16 at h
 split at h
 ·exact okT (TB:=cf) Try.func177 (bH (cu.k F) (bH (cv.k F) da)) af.no ((eS.eqX F (cu.tw F) (cv.tw F) _ _ _ _ _ H).trans h) (by kernel_rfl)
 ·cases h
def gy.twX (F:Nat) (mw:asV) (mv:asV) (aa:Nat) (ac:Nat) (ai:Int) (cp:Int) (eT:Int) (H:Hp):OA:=(Hp.ldI H .i64 aa (ac+6)).bind λn6=>(Hp.ldI H .i64 aa ((ac+6)+1)).bind λn7=>(Hp.ldSl H aa ((ac+6)+2)).bind λs8=>(mw aa ac n6 n7 s8 ai cp eT H).bind λr9=>(Hp.ldI r9.2 .i64 aa (ac+9)).bind λn10=>(Hp.ldI r9.2 .i64 aa ((ac+9)+1)).bind λn11=>(Hp.ldSl r9.2 aa ((ac+9)+2)).bind λs12=>(mw aa ac n10 n11 s12 ai cp eT r9.2).bind λr13=>(Hp.ldI r13.2 .i64 aa (ac+12)).bind λn14=>(Hp.ldI r13.2 .i64 aa ((ac+12)+1)).bind λn15=>(Hp.ldSl r13.2 aa ((ac+12)+2)).bind λs16=>(mv aa ac n14 n15 s16 cp ai (wrap .i64 (0 - eT)) r13.2).bind λr17=>some ((.tup []),r17.2)
def gy.tw:=gy.twX F (cv.tw F) (cu.tw F)
def gy.cs (F:Nat) (mw:asV) (mv:asV):Cs:=[(212,mk15 mw),(211,mk15 mv)]
theorem gy.eqX (mw:asV) (mv:asV) (aa:Nat) (ac:Nat) (ai:Int) (cp:Int) (eT:Int) (H:Hp):EX (bS (gy.cs F mw mv)) cf lh0 F Try.f208 [(.ptr aa ac),(.int .i64 ai),(.int .i64 cp),(.int .i64 eT)] H=gy.twX F mw mv aa ac ai cp eT H:=by kernel_rfl
theorem gy.k:Ok Try.prog 208 (mk16 (gy.tw F)):=by
 intro args H v H' h
 unfold mk16 at h
 split at h
 ·exact okT (TB:=cf) Try.func208 (bH (cv.k F) (bH (cu.k F) da)) af.no ((gy.eqX F (cv.tw F) (cu.tw F) _ _ _ _ _ H).trans h) (by kernel_rfl)
 ·cases h
def aL.j3 (F:Nat) (ag:asx) (fo:asC) (cI:asH) (ft:asH) (C15_:atr) (ahm:Nat) (ahn:Nat) (zo:Int) (Gv:Nat) (aho:Nat) (zp:Int) (H119:Hp):OA:=C15_ ahm ahn zo Gv aho (wrap .i64 (zp+1)) H119
def aL.l15 (F:Nat) (ag:asx) (fo:asC) (cI:asH) (ft:asH) :Nat->Nat->Nat->Int->Nat->Nat->Int->Hp->OA
 | 0,_,_,_,_,_,_,_=>none
 | VV+1,pF,pG,iM,lR,pH,kF,H61=>(Hp.ldI H61 .i64 lR (pH+1)).bind λn91=>(bif (decide (kF<n91)) then ((Hp.ldB H61 pF (pG+15)).bind λb92=>(bif (!b92) then ((Hp.ldI H61 .i64 lR pH).bind λn93=>(Hp.ldI H61 .i64 lR (pH+1)).bind λn94=>(Hp.ldSl H61 lR (pH+2)).bind λs95=>(ag n93 n94 s95 iM kF H61).bind λr96=>((r96.1).asP).bind λp97=>(if aX H61 r96.2 then ((Hp.ldI r96.2 .i64 p97.1 p97.2).bind λn98=>(Hp.ldI r96.2 .i64 lR pH).bind λn99=>(Hp.ldI r96.2 .i64 lR (pH+1)).bind λn100=>(Hp.ldSl r96.2 lR (pH+2)).bind λs101=>(ag n99 n100 s101 iM iM r96.2).bind λr102=>((r102.1).asP).bind λp103=>(if aX r96.2 r102.2 then ((Hp.ldI r102.2 .i64 p103.1 p103.2).bind λn104=>(fo n98 n104 r102.2).bind λr105=>((r105.1).asI .i64).bind λn106=>(bif (n106 != 0) then ((ft pF pG kF iM (wrap .i64 (0 - n106)) r105.2).bind λr107=>aL.j3 F ag fo cI ft (aL.l15 F ag fo cI ft VV) pF pG iM lR pH kF r107.2) else (aL.j3 F ag fo cI ft (aL.l15 F ag fo cI ft VV) pF pG iM lR pH kF r105.2))) else none)) else none)) else (some ((.tup []),H61)))) else (some ((.tup []),H61)))
termination_by structural n=>n
def aL.j4 (ag:asx) (fo:asC) (cI:asH) (ft:asH) (ahp:Nat) (ahq:Nat) (sZ:Int) (Gw:Nat) (ahr:Nat) (H52:Hp):OA:=aL.l15 F ag fo cI ft F ahp ahq sZ Gw ahr (wrap .i64 (sZ+1)) H52
def aL.j5 (F:Nat) (ag:asx) (fo:asC) (cI:asH) (ft:asH) (C13_:atr) (ahs:Nat) (aht:Nat) (zq:Int) (Gx:Nat) (LU:Nat) (zt:Int) (H146:Hp):OA:=C13_ ahs aht zq Gx LU (wrap .i64 (zt+1)) H146
def aL.l13 (F:Nat) (ag:asx) (fo:asC) (cI:asH) (ft:asH) :Nat->Nat->Nat->Int->Nat->Nat->Int->Hp->OA
 | 0,_,_,_,_,_,_,_=>none
 | sk+1,kf,kg,dE,du,jR,iD,H17=>(Hp.ldI H17 .i64 du jR).bind λn120=>(bif (decide (iD<n120)) then ((Hp.ldB H17 kf (kg+15)).bind λb121=>(bif (!b121) then ((Hp.ldI H17 .i64 du jR).bind λn122=>(Hp.ldI H17 .i64 du (jR+1)).bind λn123=>(Hp.ldSl H17 du (jR+2)).bind λs124=>(ag n122 n123 s124 iD dE H17).bind λr125=>((r125.1).asP).bind λp126=>(if aX H17 r125.2 then ((Hp.ldI r125.2 .i64 p126.1 p126.2).bind λn127=>(Hp.ldI r125.2 .i64 du jR).bind λn128=>(Hp.ldI r125.2 .i64 du (jR+1)).bind λn129=>(Hp.ldSl r125.2 du (jR+2)).bind λs130=>(ag n128 n129 s130 dE dE r125.2).bind λr131=>((r131.1).asP).bind λp132=>(if aX r125.2 r131.2 then ((Hp.ldI r131.2 .i64 p132.1 p132.2).bind λn133=>(fo n127 n133 r131.2).bind λr134=>((r134.1).asI .i64).bind λn135=>(bif (n135 != 0) then ((cI kf kg iD dE (wrap .i64 (0 - n135)) r134.2).bind λr136=>aL.j5 F ag fo cI ft (aL.l13 F ag fo cI ft sk) kf kg dE du jR iD r136.2) else (aL.j5 F ag fo cI ft (aL.l13 F ag fo cI ft sk) kf kg dE du jR iD r134.2))) else none)) else none)) else (aL.j4 F ag fo cI ft kf kg dE du jR H17))) else (aL.j4 F ag fo cI ft kf kg dE du jR H17))
termination_by structural n=>n
def aL.twX (ag:asx) (fo:asC) (cI:asH) (ft:asH) (aa:Nat) (ac:Nat) (ai:Int) (H:Hp):OA:=(Hp.ldI H .i64 aa (ac+6)).bind λn4=>(Hp.ldI H .i64 aa ((ac+6)+1)).bind λn5=>(Hp.ldSl H aa ((ac+6)+2)).bind λs6=>(Hp.new H [.int .i64 0,.int .i64 0,.sl ⟨none,0,.ex 0⟩]).bind λH7=>(Hp.st H7 H.length 0 (.int .i64 n4)).bind λH8=>(Hp.st H8 H.length (0+1) (.int .i64 n5)).bind λH9=>(Hp.st H9 H.length (0+1+1) (.sl s6)).bind λH10=>aL.l13 F ag fo cI ft F aa ac ai H.length 0 (wrap .i64 (ai+1)) H10
def aL.tw:=aL.twX F (bf.tw F) (ic.tw F) (eS.tw F) (gy.tw F)
def aL.lh13 (ag:asx) (fo:asC) (cI:asH) (ft:asH) (ks:asD) (n:Nat) (tm:Tm) (H:Hp):OA:=match ks,tm 0,tm 1,tm 4,tm 5 with
 | [],(.ptr kf kg),(.int .i64 dE),(.ptr du jR),(.int .i64 iD)=>aL.l13 F ag fo cI ft n kf kg dE du jR iD H
 | _,_,_,_,_=>none
def aL.lh15 (ag:asx) (fo:asC) (cI:asH) (ft:asH) (ks:asD) (n:Nat) (tm:Tm) (H:Hp):OA:=match ks,tm 0,tm 1,tm 4,tm 7 with
 | [],(.ptr pF pG),(.int .i64 iM),(.ptr lR pH),(.int .i64 kF)=>aL.l15 F ag fo cI ft n pF pG iM lR pH kF H
 | _,_,_,_,_=>none
def aL.lh (ag:asx) (fo:asC) (cI:asH) (ft:asH) (p:Nat) (ks:asD) (n:Nat) (tm:Tm) (H:Hp):OA:=bif p.beq 15 then aL.lh15 F ag fo cI ft ks n tm H else (bif p.beq 13 then aL.lh13 F ag fo cI ft ks n tm H else (none))
def aL.pn:Nat->List Nat:=dn [(4,[12]),(10,[12])]
def aL.tb:Nat->List (List Nat):=dn [(4,[[],[],[],[0,1,2],[0,1,2,3],[0,1,2,3,4],[],[],[],[0,1,2,3,6,7,8],[0,1,2,3,6,7,8,9],[0,1,2,3,6,7,8,9,10],[0,1,2,3,4,5,6,7,8,9,10,11],[0,1,2,3,4,5,6,7,8,9,10,11,12]]),(10,[[],[],[],[0,1,2],[0,1,2,3],[0,1,2,3,4],[],[],[],[0,1,2,3,6,7,8],[0,1,2,3,6,7,8,9],[0,1,2,3,6,7,8,9,10],[0,1,2,3,4,5,6,7,8,9,10,11],[0,1,2,3,4,5,6,7,8,9,10,11,12]])]
def aL.cs (F:Nat) (ag:asx) (fo:asC) (cI:asH) (ft:asH):Cs:=[(75,mk10 ag),(207,mk3 fo),(177,mk16 cI),(208,mk16 ft)]
theorem aL.loops (ag:asx) (fo:asC) (cI:asH) (ft:asH):LO (bS (aL.cs F ag fo cI ft)) aL.pn (aL.lh F ag fo cI ft) F Try.f174:=
 (af.rt (af.seq (af.rt (af.block (af.la (λn tm H r h=>by change aL.lh13 F ag fo cI ft [] n tm H=_ at h;unfold aL.lh13 at h;split at h;have e:cX tm [(0,_),(1,_),(4,_),(5,_)]:=⟨‹_›,‹_›,‹_›,‹_›,trivial⟩;obtain _ | k13:=n;cases h;exact ⟨_,rfl,by rw [<- db e];exact Eq.trans (by kernel_rfl) h⟩;cases h) λk13=>af.no))) (af.rt (af.block (af.la (λn tm H r h=>by change aL.lh15 F ag fo cI ft [] n tm H=_ at h;unfold aL.lh15 at h;split at h;have e:cX tm [(0,_),(1,_),(4,_),(7,_)]:=⟨‹_›,‹_›,‹_›,‹_›,trivial⟩;obtain _ | k15:=n;cases h;exact ⟨_,rfl,by rw [<- db e];exact Eq.trans (by kernel_rfl) h⟩;cases h) λk15=>af.no)))))
theorem aL.eqX (ag:asx) (fo:asC) (cI:asH) (ft:asH) (aa:Nat) (ac:Nat) (ai:Int) (H:Hp):EX (bS (aL.cs F ag fo cI ft)) aL.pn (aL.lh F ag fo cI ft) F Try.f174 [(.ptr aa ac),(.int .i64 ai)] H=aL.twX F ag fo cI ft aa ac ai H:=by kernel_rfl
theorem aL.k:Ok Try.prog 174 (mk2 (aL.tw F)):=by
 intro args H v H' h
 unfold mk2 at h
 split at h
 ·exact okT (TB:=aL.tb) Try.func174 (bH (bf.k F) (bH (ic.k F) (bH (eS.k F) (bH (gy.k F) da)))) (aL.loops F (bf.tw F) (ic.tw F) (eS.tw F) (gy.tw F)) ((aL.eqX F (bf.tw F) (ic.tw F) (eS.tw F) (gy.tw F) _ _ _ H).trans h) (by kernel_rfl)
 ·cases h
def jx.twX (F:Nat) (aa:Int) (H:Hp):OA:=some ((.bool (aa != 0)),H)
def jx.tw:=jx.twX F
theorem jx.k:Ok Try.prog 209 (mk7 (jx.tw F)):=by
 intro args H v H' h
 unfold mk7 at h
 split at h
 ·exact ok0 Try.func209 (Eq.trans (by kernel_rfl) h) (by kernel_rfl) (by kernel_rfl)
 ·cases h
def dp.l13 (F:Nat) (ki:asF) :Nat->Sl->Int->Int->Hp->OA
 | 0,_,_,_,_=>none
 | sk+1,iT,gR,eW,H6=>(bif (decide (eW<gR)) then ((Sl.idx iT eW 1).bind λp11=>(Hp.ldI H6 .i64 p11.1 p11.2).bind λn12=>(ki n12 H6).bind λr13=>((r13.1).asB).bind λb14=>(bif b14 then (some ((.int .i64 eW),r13.2)) else (dp.l13 F ki sk iT gR (wrap .i64 (eW+1)) r13.2))) else (some ((.int .i64 (-1)),H6)))
def dp.twX (ki:asF) (aa:Sl) (H:Hp):OA:=dp.l13 F ki F aa (aa.n:Int) 0 H
def dp.tw:=dp.twX F (jx.tw F)
def dp.lh13 (ki:asF) (ks:asD) (n:Nat) (tm:Tm) (H:Hp):OA:=match ks,tm 0,tm 1,tm 7,tm 8 with
 | [],(.sl iT),(.fn 209 []),(.int .i64 gR),(.int .i64 eW)=>dp.l13 F ki n iT gR eW H
 | _,_,_,_,_=>none
def dp.lh (ki:asF) (p:Nat) (ks:asD) (n:Nat) (tm:Tm) (H:Hp):OA:=bif p.beq 13 then dp.lh13 F ki ks n tm H else (none)
def mk17 (g:asE) (args:asJ) (H:Hp):OA:=match args with
 | [(.sl aa),(.fn 209 [])]=>g aa H
 | _=>none
theorem mk17_E (g:asE) (aa:Sl) (H:Hp):mk17 g [(.sl aa),(.fn 209 [])] H=g aa H:=rfl
def dp.cs (F:Nat) (ki:asF):Cs:=[(209,mk7 ki)]
theorem dp.loops (ki:asF):LO (bS (dp.cs F ki)) cf (dp.lh F ki) F Try.f122:=
 (af.rt (af.lt (af.rt (af.block (af.la (λn tm H r h=>by change dp.lh13 F ki [] n tm H=_ at h;unfold dp.lh13 at h;split at h;have e:cX tm [(0,_),(1,_),(7,_),(8,_)]:=⟨‹_›,‹_›,‹_›,‹_›,trivial⟩;obtain _ | k13:=n;cases h;exact ⟨_,rfl,by rw [<- db e];exact Eq.trans (by kernel_rfl) h⟩;cases h) λk13=>af.no)))))
theorem dp.eqX (ki:asF) (aa:Sl) (H:Hp):EX (bS (dp.cs F ki)) cf (dp.lh F ki) F Try.f122 [(.sl aa),(.fn 209 [])] H=dp.twX F ki aa H:=by kernel_rfl
theorem dp.k:Ok Try.prog 122 (mk17 (dp.tw F)):=by
 intro args H v H' h
 unfold mk17 at h
 split at h
 ·exact okT (TB:=cf) Try.func122 (bH (jx.k F) da) (dp.loops F (jx.tw F)) ((dp.eqX F (jx.tw F) _ H).trans h) (by kernel_rfl)
 ·cases h
def il.twX (F:Nat) (zu:asE) (aa:Sl) (H:Hp):OA:=(zu aa H).bind λr2=>((r2.1).asI .i64).bind λn3=>some ((.bool (decide (n3>=0))),r2.2)
def il.tw:=il.twX F (dp.tw F)
def il.cs (F:Nat) (zu:asE):Cs:=[(122,mk17 zu)]
theorem il.eqX (zu:asE) (aa:Sl) (H:Hp):EX (bS (il.cs F zu)) cf lh0 F Try.f65 [(.sl aa),(.fn 209 [])] H=il.twX F zu aa H:=by kernel_rfl
theorem il.k:Ok Try.prog 65 (mk17 (il.tw F)):=by
 intro args H v H' h
 unfold mk17 at h
 split at h
 ·exact okT (TB:=cf) Try.func65 (bH (dp.k F) da) af.no ((il.eqX F (dp.tw F) _ H).trans h) (by kernel_rfl)
 ·cases h
def cq.j1 (F:Nat) (ag:asx) (bC:asG) (jM:asE) (s_:Int) (zw:Nat) (LV:Nat) (H34:Hp):OA:=(Hp.ldI H34 .i64 zw LV).bind λn35=>(Hp.ldI H34 .i64 zw (LV+1)).bind λn36=>(Hp.ldSl H34 zw (LV+2)).bind λs37=>(bC n35 n36 s37 s_ H34).bind λr38=>((r38.1).asSl).bind λs39=>(Sl.cut s39 1 (wrap .i64 (s_+1)) (s39.n:Int)).bind λs40=>(jM s40 r38.2).bind λr41=>((r41.1).asB).bind λb42=>some ((.bool (!b42)),r41.2)
def cq.l29 (F:Nat) (ag:asx) (bC:asG) (jM:asE) :Nat->Int->Nat->Nat->Int->Hp->OA
 | 0,_,_,_,_,_=>none
 | dL+1,dE,iL,iD,jS,H18=>(Hp.ldI H18 .i64 iL iD).bind λn43=>(bif (decide (jS<n43)) then ((Hp.ldI H18 .i64 iL iD).bind λn44=>(Hp.ldI H18 .i64 iL (iD+1)).bind λn45=>(Hp.ldSl H18 iL (iD+2)).bind λs46=>(ag n44 n45 s46 jS dE H18).bind λr47=>((r47.1).asP).bind λp48=>(Hp.ldI r47.2 .i64 p48.1 p48.2).bind λn49=>(bif (n49 != 0) then (some ((.bool false),r47.2)) else (cq.l29 F ag bC jM dL dE iL iD (wrap .i64 (jS+1)) r47.2))) else (cq.j1 F ag bC jM dE iL iD H18))
termination_by structural n=>n
def cq.twX (ag:asx) (bC:asG) (jM:asE) (aa:Nat) (ac:Nat) (ai:Int) (H:Hp):OA:=(Hp.ldI H .i64 aa (ac+6)).bind λn4=>(Hp.ldI H .i64 aa ((ac+6)+1)).bind λn5=>(Hp.ldSl H aa ((ac+6)+2)).bind λs6=>(Hp.new H [.int .i64 0,.int .i64 0,.sl ⟨none,0,.ex 0⟩]).bind λH7=>(Hp.st H7 H.length 0 (.int .i64 n4)).bind λH8=>(Hp.st H8 H.length (0+1) (.int .i64 n5)).bind λH9=>(Hp.st H9 H.length (0+1+1) (.sl s6)).bind λH10=>cq.l29 F ag bC jM F ai H.length 0 (wrap .i64 (ai+1)) H10
def cq.tw:=cq.twX F (bf.tw F) (dx.tw F) (il.tw F)
def cq.lh29 (ag:asx) (bC:asG) (jM:asE) (ks:asD) (n:Nat) (tm:Tm) (H:Hp):OA:=match ks,tm 1,tm 5,tm 6 with
 | [],(.int .i64 dE),(.ptr iL iD),(.int .i64 jS)=>cq.l29 F ag bC jM n dE iL iD jS H
 | _,_,_,_=>none
def cq.lh (ag:asx) (bC:asG) (jM:asE) (p:Nat) (ks:asD) (n:Nat) (tm:Tm) (H:Hp):OA:=bif p.beq 29 then cq.lh29 F ag bC jM ks n tm H else (none)
def cq.cs (F:Nat) (ag:asx) (bC:asG) (jM:asE):Cs:=[(75,mk10 ag),(128,mk13 bC),(65,mk17 jM)]
theorem cq.loops (ag:asx) (bC:asG) (jM:asE):LO (bS (cq.cs F ag bC jM)) cf (cq.lh F ag bC jM) F Try.f175:=
 (af.rt (af.rt (af.lt (af.rt (af.block (af.la (λn tm H r h=>by change cq.lh29 F ag bC jM [] n tm H=_ at h;unfold cq.lh29 at h;split at h;have e:cX tm [(1,_),(5,_),(6,_)]:=⟨‹_›,‹_›,‹_›,trivial⟩;obtain _ | k29:=n;cases h;exact ⟨_,rfl,by rw [<- db e];exact Eq.trans (by kernel_rfl) h⟩;cases h) λk29=>af.no))))))
theorem cq.eqX (ag:asx) (bC:asG) (jM:asE) (aa:Nat) (ac:Nat) (ai:Int) (H:Hp):EX (bS (cq.cs F ag bC jM)) cf (cq.lh F ag bC jM) F Try.f175 [(.ptr aa ac),(.int .i64 ai)] H=cq.twX F ag bC jM aa ac ai H:=by kernel_rfl
theorem cq.k:Ok Try.prog 175 (mk2 (cq.tw F)):=by
 intro args H v H' h
 unfold mk2 at h
 split at h
 ·exact okT (TB:=cf) Try.func175 (bH (bf.k F) (bH (dx.k F) (bH (il.k F) da))) (cq.loops F (bf.tw F) (dx.tw F) (il.tw F)) ((cq.eqX F (bf.tw F) (dx.tw F) (il.tw F) _ _ _ H).trans h) (by kernel_rfl)
 ·cases h
def iE.twX (F:Nat) (ag:asx) (aa:Int) (aG:Nat) (ai:Nat) (cp:Nat) (ci:Nat) (H:Hp):OA:=(Hp.ldI H .i64 aG ai).bind λn6=>(Hp.ldI H .i64 aG (ai+1)).bind λn7=>(Hp.ldSl H aG (ai+2)).bind λs8=>(Hp.ldI H .i64 cp ci).bind λn9=>(Hp.ldI H .i64 cp ci).bind λn10=>(ag n6 n7 s8 n9 n10 H).bind λr11=>((r11.1).asP).bind λp12=>(Hp.ldI r11.2 .i64 p12.1 p12.2).bind λn13=>(if n13=0 then none else (some ((.bool ((Int.tmod aa n13) != 0)),r11.2)))
def iE.tw:=iE.twX F (bf.tw F)
def mk18 (g:as4) (args:asJ) (H:Hp):OA:=match args with
 | [(.int .i64 aa),(.ptr aG ai),(.ptr cp ci)]=>g aa aG ai cp ci H
 | _=>none
theorem mk18_E (g:as4) (aa:Int) (aG:Nat) (ai:Nat) (cp:Nat) (ci:Nat) (H:Hp):mk18 g [(.int .i64 aa),(.ptr aG ai),(.ptr cp ci)] H=g aa aG ai cp ci H:=rfl
def iE.cs (F:Nat) (ag:asx):Cs:=[(75,mk10 ag)]
theorem iE.eqX (ag:asx) (aa:Int) (aG:Nat) (ai:Nat) (cp:Nat) (ci:Nat) (H:Hp):EX (bS (iE.cs F ag)) cf lh0 F Try.f210 [(.int .i64 aa),(.ptr aG ai),(.ptr cp ci)] H=iE.twX F ag aa aG ai cp ci H:=by kernel_rfl
theorem iE.k:Ok Try.prog 210 (mk18 (iE.tw F)):=by
 intro args H v H' h
 unfold mk18 at h
 split at h
 ·exact okT (TB:=cf) Try.func210 (bH (bf.k F) da) af.no ((iE.eqX F (bf.tw F) _ _ _ _ _ H).trans h) (by kernel_rfl)
 ·cases h
def dq.l13 (F:Nat) (kj:as4) :Nat->Sl->Nat->Nat->Nat->Nat->Int->Int->Hp->OA
 | 0,_,_,_,_,_,_,_,_=>none
 | sk+1,rh,aG,ai,au,ct,pI,lT,H10=>(bif (decide (lT<pI)) then ((Sl.idx rh lT 1).bind λp15=>(Hp.ldI H10 .i64 p15.1 p15.2).bind λn16=>(kj n16 aG ai au ct H10).bind λr17=>((r17.1).asB).bind λb18=>(bif b18 then (some ((.int .i64 lT),r17.2)) else (dq.l13 F kj sk rh aG ai au ct pI (wrap .i64 (lT+1)) r17.2))) else (some ((.int .i64 (-1)),H10)))
termination_by structural n=>n
def dq.twX (kj:as4) (aa:Sl) (aG:Nat) (ai:Nat) (au:Nat) (ct:Nat) (H:Hp):OA:=dq.l13 F kj F aa aG ai au ct (aa.n:Int) 0 H
def dq.tw:=dq.twX F (iE.tw F)
def dq.lh13 (kj:as4) (ks:asD) (n:Nat) (tm:Tm) (H:Hp):OA:=match ks,tm 0,tm 1,tm 7,tm 8 with
 | [],(.sl rh),(.fn 210 [(.ptr aG ai),(.ptr au ct)]),(.int .i64 pI),(.int .i64 lT)=>dq.l13 F kj n rh aG ai au ct pI lT H
 | _,_,_,_,_=>none
def dq.lh (kj:as4) (p:Nat) (ks:asD) (n:Nat) (tm:Tm) (H:Hp):OA:=bif p.beq 13 then dq.lh13 F kj ks n tm H else (none)
def mk19 (g:asX) (args:asJ) (H:Hp):OA:=match args with
 | [(.sl aa),(.fn 210 [(.ptr aG ai),(.ptr au ct)])]=>g aa aG ai au ct H
 | _=>none
theorem mk19_E (g:asX) (aa:Sl) (aG:Nat) (ai:Nat) (au:Nat) (ct:Nat) (H:Hp):mk19 g [(.sl aa),(.fn 210 [(.ptr aG ai),(.ptr au ct)])] H=g aa aG ai au ct H:=rfl
def dq.cs (F:Nat) (kj:as4):Cs:=[(210,mk18 kj)]
theorem dq.loops (kj:as4):LO (bS (dq.cs F kj)) cf (dq.lh F kj) F Try.f122:=
 (af.rt (af.lt (af.rt (af.block (af.la (λn tm H r h=>by change dq.lh13 F kj [] n tm H=_ at h;unfold dq.lh13 at h;split at h;have e:cX tm [(0,_),(1,_),(7,_),(8,_)]:=⟨‹_›,‹_›,‹_›,‹_›,trivial⟩;obtain _ | k13:=n;cases h;exact ⟨_,rfl,by rw [<- db e];exact Eq.trans (by kernel_rfl) h⟩;cases h) λk13=>af.no)))))
theorem dq.eqX (kj:as4) (aa:Sl) (aG:Nat) (ai:Nat) (au:Nat) (ct:Nat) (H:Hp):EX (bS (dq.cs F kj)) cf (dq.lh F kj) F Try.f122 [(.sl aa),(.fn 210 [(.ptr aG ai),(.ptr au ct)])] H=dq.twX F kj aa aG ai au ct H:=by kernel_rfl
theorem dq.k:Ok Try.prog 122 (mk19 (dq.tw F)):=by
 intro args H v H' h
 unfold mk19 at h
 split at h
 ·exact okT (TB:=cf) Try.func122 (bH (iE.k F) da) (dq.loops F (iE.tw F)) ((dq.eqX F (iE.tw F) _ _ _ _ _ H).trans h) (by kernel_rfl)
 ·cases h
def iF.twX (F:Nat) (zx:asX) (aa:Sl) (aG:Nat) (ai:Nat) (au:Nat) (ct:Nat) (H:Hp):OA:=(zx aa aG ai au ct H).bind λr6=>((r6.1).asI .i64).bind λn7=>some ((.bool (decide (n7>=0))),r6.2)
def iF.tw:=iF.twX F (dq.tw F)
def iF.cs (F:Nat) (zx:asX):Cs:=[(122,mk19 zx)]
theorem iF.eqX (zx:asX) (aa:Sl) (aG:Nat) (ai:Nat) (au:Nat) (ct:Nat) (H:Hp):EX (bS (iF.cs F zx)) cf lh0 F Try.f65 [(.sl aa),(.fn 210 [(.ptr aG ai),(.ptr au ct)])] H=iF.twX F zx aa aG ai au ct H:=by kernel_rfl
theorem iF.k:Ok Try.prog 65 (mk19 (iF.tw F)):=by
 intro args H v H' h
 unfold mk19 at h
 split at h
 ·exact okT (TB:=cf) Try.func65 (bH (dq.k F) da) af.no ((iF.eqX F (dq.tw F) _ _ _ _ _ H).trans h) (by kernel_rfl)
 ·cases h
def cJ.l29 (F:Nat) (bC:asG) (kl:asX) :Nat->Nat->Nat->Nat->Nat->Int->Hp->OA
 | 0,_,_,_,_,_,_=>none
 | dL+1,lU,fY,nL,ta,lV,H22=>(Hp.ldI H22 .i64 nL ta).bind λn33=>(bif (decide (lV<n33)) then ((Hp.ldI H22 .i64 nL ta).bind λn34=>(Hp.ldI H22 .i64 nL (ta+1)).bind λn35=>(Hp.ldSl H22 nL (ta+2)).bind λs36=>(bC n34 n35 s36 lV H22).bind λr37=>((r37.1).asSl).bind λs38=>(if aX H22 r37.2 then ((Hp.ldI r37.2 .i64 lU fY).bind λn39=>(Sl.cut s38 1 (wrap .i64 (n39+1)) (s38.n:Int)).bind λs40=>(kl s40 nL ta lU fY r37.2).bind λr41=>((r41.1).asB).bind λb42=>(bif b42 then (some ((.int .i64 lV),r41.2)) else (cJ.l29 F bC kl dL lU fY nL ta (wrap .i64 (lV+1)) r41.2))) else none)) else (some ((.int .i64 (-1)),H22)))
termination_by structural n=>n
def cJ.twX (bC:asG) (kl:asX) (aa:Nat) (ac:Nat) (ai:Int) (H:Hp):OA:=(Hp.new H [(.int .i64 ai)]).bind λH4=>(Hp.ldI H4 .i64 aa (ac+6)).bind λn5=>(Hp.ldI H4 .i64 aa ((ac+6)+1)).bind λn6=>(Hp.ldSl H4 aa ((ac+6)+2)).bind λs7=>(Hp.new H4 [.int .i64 0,.int .i64 0,.sl ⟨none,0,.ex 0⟩]).bind λH8=>(Hp.st H8 H4.length 0 (.int .i64 n5)).bind λH9=>(Hp.st H9 H4.length (0+1) (.int .i64 n6)).bind λH10=>(Hp.st H10 H4.length (0+1+1) (.sl s7)).bind λH11=>(Hp.ldI H11 .i64 H.length 0).bind λn12=>cJ.l29 F bC kl F H.length 0 H4.length 0 (wrap .i64 (n12+1)) H11
def cJ.tw:=cJ.twX F (dx.tw F) (iF.tw F)
def cJ.lh29 (bC:asG) (kl:asX) (ks:asD) (n:Nat) (tm:Tm) (H:Hp):OA:=match ks,tm 3,tm 5,tm 6 with
 | [],(.ptr lU fY),(.ptr nL ta),(.int .i64 lV)=>cJ.l29 F bC kl n lU fY nL ta lV H
 | _,_,_,_=>none
def cJ.lh (bC:asG) (kl:asX) (p:Nat) (ks:asD) (n:Nat) (tm:Tm) (H:Hp):OA:=bif p.beq 29 then cJ.lh29 F bC kl ks n tm H else (none)
def cJ.pn:Nat->List Nat:=dn [(5,[7])]
def cJ.tb:Nat->List (List Nat):=dn [(5,[[],[],[0,1],[],[3],[0,1,2,3,4],[],[0,1,2,3,4,5,6]])]
def cJ.cs (F:Nat) (bC:asG) (kl:asX):Cs:=[(128,mk13 bC),(65,mk19 kl)]
theorem cJ.loops (bC:asG) (kl:asX):LO (bS (cJ.cs F bC kl)) cJ.pn (cJ.lh F bC kl) F Try.f176:=
 (af.rt (af.rt (af.lt (af.rt (af.block (af.la (λn tm H r h=>by change cJ.lh29 F bC kl [] n tm H=_ at h;unfold cJ.lh29 at h;split at h;have e:cX tm [(3,_),(5,_),(6,_)]:=⟨‹_›,‹_›,‹_›,trivial⟩;obtain _ | k29:=n;cases h;exact ⟨_,rfl,by rw [<- db e];exact Eq.trans (by kernel_rfl) h⟩;cases h) λk29=>af.no))))))
theorem cJ.eqX (bC:asG) (kl:asX) (aa:Nat) (ac:Nat) (ai:Int) (H:Hp):EX (bS (cJ.cs F bC kl)) cJ.pn (cJ.lh F bC kl) F Try.f176 [(.ptr aa ac),(.int .i64 ai)] H=cJ.twX F bC kl aa ac ai H:=by kernel_rfl
theorem cJ.k:Ok Try.prog 176 (mk2 (cJ.tw F)):=by
 intro args H v H' h
 unfold mk2 at h
 split at h
 ·exact okT (TB:=cJ.tb) Try.func176 (bH (dx.k F) (bH (iF.k F) da)) (cJ.loops F (dx.tw F) (iF.tw F)) ((cJ.eqX F (dx.tw F) (iF.tw F) _ _ _ H).trans h) (by kernel_rfl)
 ·cases h
def bg.j4 (F:Nat) (gV:asA) (gW:asA) (gX:asA) (gY:asA) (cI:asH) (C3_:asA) (ahu:Nat) (ahv:Nat) (zy:Int) (H57:Hp):OA:=C3_ ahu ahv zy H57
def bg.j5 (F:Nat) (gV:asA) (gW:asA) (gX:asA) (gY:asA) (cI:asH) (C3_:asA) (ahw:Nat) (LF:Nat) (zA:Int) (H80:Hp):OA:=C3_ ahw LF zA H80
def bg.j6 (gV:asA) (gW:asA) (gX:asA) (gY:asA) (cI:asH) (C3_:asA) (ahx:Nat) (ahy:Nat) (zB:Int) (H71:Hp):OA:=bg.j5 F gV gW gX gY cI C3_ ahx ahy zB H71
def bg.l3 (F:Nat) (gV:asA) (gW:asA) (gX:asA) (gY:asA) (cI:asH) :Nat->Nat->Nat->Int->Hp->OA
 | 0,_,_,_,_=>none
 | Gy+1,iq,jr,im,H6=>(Hp.ldB H6 iq (jr+15)).bind λb44=>(bif (!b44) then ((Hp.ldI H6 .i64 iq (jr+6)).bind λn45=>(Hp.ldI H6 .i64 iq ((jr+6)+1)).bind λn46=>(bif (decide (im<(if n46<n45 then n46 else n45))) then ((gV iq jr im H6).bind λr47=>((r47.1).asB).bind λb48=>(bif (!b48) then (some ((.tup []),r47.2)) else ((gW iq jr im r47.2).bind λr49=>(Hp.ldB r49.2 iq (jr+15)).bind λb50=>(bif b50 then (bg.j4 F gV gW gX gY cI (bg.l3 F gV gW gX gY cI Gy) iq jr im r49.2) else ((gX iq jr im r49.2).bind λr58=>((r58.1).asB).bind λb59=>(bif (!b59) then (bg.j4 F gV gW gX gY cI (bg.l3 F gV gW gX gY cI Gy) iq jr im r58.2) else ((gY iq jr im r58.2).bind λr60=>((r60.1).asI .i64).bind λn61=>(bif (decide (n61>=0)) then ((cI iq jr im n61 1 r60.2).bind λr62=>bg.j6 F gV gW gX gY cI (bg.l3 F gV gW gX gY cI Gy) iq jr im r62.2) else (bg.j6 F gV gW gX gY cI (bg.l3 F gV gW gX gY cI Gy) iq jr (wrap .i64 (im+1)) r60.2))))))))) else (some ((.tup []),H6)))) else (some ((.tup []),H6)))
termination_by structural n=>n
def bg.twX (gV:asA) (gW:asA) (gX:asA) (gY:asA) (cI:asH) (aa:Nat) (ac:Nat) (H:Hp):OA:=bg.l3 F gV gW gX gY cI F aa ac 0 H
def bg.tw:=bg.twX F (bG.tw F) (aL.tw F) (cq.tw F) (cJ.tw F) (eS.tw F)
def bg.lh3 (gV:asA) (gW:asA) (gX:asA) (gY:asA) (cI:asH) (ks:asD) (n:Nat) (tm:Tm) (H:Hp):OA:=match ks,tm 0,tm 2 with
 | [],(.ptr iq jr),(.int .i64 im)=>bg.l3 F gV gW gX gY cI n iq jr im H
 | _,_,_=>none
def bg.lh (gV:asA) (gW:asA) (gX:asA) (gY:asA) (cI:asH) (p:Nat) (ks:asD) (n:Nat) (tm:Tm) (H:Hp):OA:=bif p.beq 3 then bg.lh3 F gV gW gX gY cI ks n tm H else (none)
def bg.tb:Nat->List (List Nat):=dn [(1,[[],[0],[0,1],[0,1,2],[0,1,2,3],[0,1,2,3,4],[0,1,2,3,4,5],[0,1,2,3,4,5],[0,1,2,3,4,5,7],[0,1,2,3,4,5,7,8],[0,1,2,3,4,5,7,8,9],[0,1,2,3,4,5,7,8,9,10],[0,1,2,3,4,5,7,8,9,10,11],[0,1,2,3,4,5],[0,1,2,3,4,5,13],[0,1,2,3,4,5,13,14],[0,1,2,3,4,5,13,14,15],[0,1,2,3,4,5,13,14,15,16],[0,1,2,3,4,5,13,14,15,16,17],[0,1,2,3,4,5,7,8,9,10,11,12,13,14,15,16,17,18],[0,1,2,3,4,5,6,7,8,9,10,11,12,13,14,15,16,17,18,19],[0,1,2,3,4,5,6,7,8,9,10,11,12,13,14,15,16,17,18,19,20]])]
def bg.cs (F:Nat) (gV:asA) (gW:asA) (gX:asA) (gY:asA) (cI:asH):Cs:=[(173,mk2 gV),(174,mk2 gW),(175,mk2 gX),(176,mk2 gY),(177,mk16 cI)]
theorem bg.loops (gV:asA) (gW:asA) (gX:asA) (gY:asA) (cI:asH):LO (bS (bg.cs F gV gW gX gY cI)) cf (bg.lh F gV gW gX gY cI) F Try.f133:=
 (af.rt (af.block (af.la (λn tm H r h=>by change bg.lh3 F gV gW gX gY cI [] n tm H=_ at h;unfold bg.lh3 at h;split at h;have e:cX tm [(0,_),(2,_)]:=⟨‹_›,‹_›,trivial⟩;obtain _ | k3:=n;cases h;exact ⟨_,rfl,by rw [<- db e];exact Eq.trans (by kernel_rfl) h⟩;cases h) λk3=>af.no)))
theorem bg.eqX (gV:asA) (gW:asA) (gX:asA) (gY:asA) (cI:asH) (aa:Nat) (ac:Nat) (H:Hp):EX (bS (bg.cs F gV gW gX gY cI)) cf (bg.lh F gV gW gX gY cI) F Try.f133 [(.ptr aa ac)] H=bg.twX F gV gW gX gY cI aa ac H:=by kernel_rfl
theorem bg.k:Ok Try.prog 133 (mk5 (bg.tw F)):=by
 intro args H v H' h
 unfold mk5 at h
 split at h
 ·exact okT (TB:=bg.tb) Try.func133 (bH (bG.k F) (bH (aL.k F) (bH (cq.k F) (bH (cJ.k F) (bH (eS.k F) da))))) (bg.loops F (bG.tw F) (aL.tw F) (cq.tw F) (cJ.tw F) (eS.tw F)) ((bg.eqX F (bG.tw F) (aL.tw F) (cq.tw F) (cJ.tw F) (eS.tw F) _ _ H).trans h) (by kernel_rfl)
 ·cases h
def gJ.twX (F:Nat) (zC:asz) (zD:asM) (aa:Int) (ac:Int) (aM:Sl) (H:Hp):OA:=(Hp.new H [(.int .i64 aa),(.int .i64 ac),(.sl aM)]).bind λH4=>(Hp.new H4 [.int .i64 0,.int .i64 0,.sl ⟨none,0,.ex 0⟩,.int .i64 0,.int .i64 0,.sl ⟨none,0,.ex 0⟩,.int .i64 0,.int .i64 0,.sl ⟨none,0,.ex 0⟩,.int .i64 0,.int .i64 0,.sl ⟨none,0,.ex 0⟩,.int .i64 0,.int .i64 0,.sl ⟨none,0,.ex 0⟩]).bind λH5=>(Hp.ldI H5 .i64 H.length 0).bind λn6=>(Hp.ldI H5 .i64 H.length (0+1)).bind λn7=>(Hp.ldSl H5 H.length (0+2)).bind λs8=>(zC n6 n7 s8 H5).bind λr9=>((r9.1).asP).bind λp10=>(zD p10.1 p10.2 r9.2).bind λr11=>(Hp.ldB r11.2 p10.1 (p10.2+15)).bind λb12=>(bif b12 then ((Hp.st r11.2 H4.length 0 (.int .i64 0)).bind λH13=>(Hp.st H13 H4.length (0+1) (.int .i64 0)).bind λH14=>(Hp.st H14 H4.length (0+1+1) (.sl (⟨none,0,.ex 0⟩:Sl))).bind λH15=>(Hp.st H15 H4.length (0+1+1+1) (.int .i64 0)).bind λH16=>(Hp.st H16 H4.length (0+1+1+1+1) (.int .i64 0)).bind λH17=>(Hp.st H17 H4.length (0+1+1+1+1+1) (.sl (⟨none,0,.ex 0⟩:Sl))).bind λH18=>(Hp.st H18 H4.length (0+1+1+1+1+1+1) (.int .i64 0)).bind λH19=>(Hp.st H19 H4.length (0+1+1+1+1+1+1+1) (.int .i64 0)).bind λH20=>(Hp.st H20 H4.length (0+1+1+1+1+1+1+1+1) (.sl (⟨none,0,.ex 0⟩:Sl))).bind λH21=>(Hp.st H21 H4.length (0+1+1+1+1+1+1+1+1+1) (.int .i64 0)).bind λH22=>(Hp.st H22 H4.length (0+1+1+1+1+1+1+1+1+1+1) (.int .i64 0)).bind λH23=>(Hp.st H23 H4.length (0+1+1+1+1+1+1+1+1+1+1+1) (.sl (⟨none,0,.ex 0⟩:Sl))).bind λH24=>(Hp.st H24 H4.length (0+1+1+1+1+1+1+1+1+1+1+1+1) (.int .i64 0)).bind λH25=>(Hp.st H25 H4.length (0+1+1+1+1+1+1+1+1+1+1+1+1+1) (.int .i64 0)).bind λH26=>(Hp.st H26 H4.length (0+1+1+1+1+1+1+1+1+1+1+1+1+1+1) (.sl (⟨none,0,.ex 0⟩:Sl))).bind λH27=>(Hp.ldI H27 .i64 H4.length 0).bind λn28=>(Hp.ldI H27 .i64 H4.length (0+1)).bind λn29=>(Hp.ldSl H27 H4.length (0+2)).bind λs30=>(Hp.ldI H27 .i64 H4.length (0+3)).bind λn31=>(Hp.ldI H27 .i64 H4.length (0+4)).bind λn32=>(Hp.ldSl H27 H4.length (0+5)).bind λs33=>(Hp.ldI H27 .i64 H4.length (0+6)).bind λn34=>(Hp.ldI H27 .i64 H4.length (0+7)).bind λn35=>(Hp.ldSl H27 H4.length (0+8)).bind λs36=>(Hp.ldI H27 .i64 H4.length (0+9)).bind λn37=>(Hp.ldI H27 .i64 H4.length (0+10)).bind λn38=>(Hp.ldSl H27 H4.length (0+11)).bind λs39=>(Hp.ldI H27 .i64 H4.length (0+12)).bind λn40=>(Hp.ldI H27 .i64 H4.length (0+13)).bind λn41=>(Hp.ldSl H27 H4.length (0+14)).bind λs42=>some ((.tup [(.agg [(.int .i64 n28),(.int .i64 n29),(.sl s30),(.int .i64 n31),(.int .i64 n32),(.sl s33),(.int .i64 n34),(.int .i64 n35),(.sl s36),(.int .i64 n37),(.int .i64 n38),(.sl s39),(.int .i64 n40),(.int .i64 n41),(.sl s42)]),(.int .i64 3)]),H27)) else ((Hp.ldI r11.2 .i64 p10.1 p10.2).bind λn43=>(Hp.ldI r11.2 .i64 p10.1 (p10.2+1)).bind λn44=>(Hp.ldSl r11.2 p10.1 (p10.2+2)).bind λs45=>(Hp.ldI r11.2 .i64 p10.1 (p10.2+3)).bind λn46=>(Hp.ldI r11.2 .i64 p10.1 (p10.2+4)).bind λn47=>(Hp.ldSl r11.2 p10.1 (p10.2+5)).bind λs48=>(Hp.ldI r11.2 .i64 p10.1 (p10.2+6)).bind λn49=>(Hp.ldI r11.2 .i64 p10.1 (p10.2+7)).bind λn50=>(Hp.ldSl r11.2 p10.1 (p10.2+8)).bind λs51=>(Hp.ldI r11.2 .i64 p10.1 (p10.2+9)).bind λn52=>(Hp.ldI r11.2 .i64 p10.1 (p10.2+10)).bind λn53=>(Hp.ldSl r11.2 p10.1 (p10.2+11)).bind λs54=>(Hp.ldI r11.2 .i64 p10.1 (p10.2+12)).bind λn55=>(Hp.ldI r11.2 .i64 p10.1 (p10.2+13)).bind λn56=>(Hp.ldSl r11.2 p10.1 (p10.2+14)).bind λs57=>(Hp.st r11.2 H4.length 0 (.int .i64 n43)).bind λH58=>(Hp.st H58 H4.length (0+1) (.int .i64 n44)).bind λH59=>(Hp.st H59 H4.length (0+1+1) (.sl s45)).bind λH60=>(Hp.st H60 H4.length (0+1+1+1) (.int .i64 n46)).bind λH61=>(Hp.st H61 H4.length (0+1+1+1+1) (.int .i64 n47)).bind λH62=>(Hp.st H62 H4.length (0+1+1+1+1+1) (.sl s48)).bind λH63=>(Hp.st H63 H4.length (0+1+1+1+1+1+1) (.int .i64 n49)).bind λH64=>(Hp.st H64 H4.length (0+1+1+1+1+1+1+1) (.int .i64 n50)).bind λH65=>(Hp.st H65 H4.length (0+1+1+1+1+1+1+1+1) (.sl s51)).bind λH66=>(Hp.st H66 H4.length (0+1+1+1+1+1+1+1+1+1) (.int .i64 n52)).bind λH67=>(Hp.st H67 H4.length (0+1+1+1+1+1+1+1+1+1+1) (.int .i64 n53)).bind λH68=>(Hp.st H68 H4.length (0+1+1+1+1+1+1+1+1+1+1+1) (.sl s54)).bind λH69=>(Hp.st H69 H4.length (0+1+1+1+1+1+1+1+1+1+1+1+1) (.int .i64 n55)).bind λH70=>(Hp.st H70 H4.length (0+1+1+1+1+1+1+1+1+1+1+1+1+1) (.int .i64 n56)).bind λH71=>(Hp.st H71 H4.length (0+1+1+1+1+1+1+1+1+1+1+1+1+1+1) (.sl s57)).bind λH72=>(Hp.ldI H72 .i64 H4.length 0).bind λn73=>(Hp.ldI H72 .i64 H4.length (0+1)).bind λn74=>(Hp.ldSl H72 H4.length (0+2)).bind λs75=>(Hp.ldI H72 .i64 H4.length (0+3)).bind λn76=>(Hp.ldI H72 .i64 H4.length (0+4)).bind λn77=>(Hp.ldSl H72 H4.length (0+5)).bind λs78=>(Hp.ldI H72 .i64 H4.length (0+6)).bind λn79=>(Hp.ldI H72 .i64 H4.length (0+7)).bind λn80=>(Hp.ldSl H72 H4.length (0+8)).bind λs81=>(Hp.ldI H72 .i64 H4.length (0+9)).bind λn82=>(Hp.ldI H72 .i64 H4.length (0+10)).bind λn83=>(Hp.ldSl H72 H4.length (0+11)).bind λs84=>(Hp.ldI H72 .i64 H4.length (0+12)).bind λn85=>(Hp.ldI H72 .i64 H4.length (0+13)).bind λn86=>(Hp.ldSl H72 H4.length (0+14)).bind λs87=>some ((.tup [(.agg [(.int .i64 n73),(.int .i64 n74),(.sl s75),(.int .i64 n76),(.int .i64 n77),(.sl s78),(.int .i64 n79),(.int .i64 n80),(.sl s81),(.int .i64 n82),(.int .i64 n83),(.sl s84),(.int .i64 n85),(.int .i64 n86),(.sl s87)]),(.int .i64 0)]),H72)))
def gJ.tw:=gJ.twX F (jU.tw F) (bg.tw F)
def gJ.cs (F:Nat) (zC:asz) (zD:asM):Cs:=[(132,mk9 zC),(133,mk5 zD)]
theorem gJ.eqX (zC:asz) (zD:asM) (aa:Int) (ac:Int) (aM:Sl) (H:Hp):EX (bS (gJ.cs F zC zD)) cf lh0 F Try.f82 [(.agg [(.int .i64 aa),(.int .i64 ac),(.sl aM)])] H=gJ.twX F zC zD aa ac aM H:=by kernel_rfl
theorem gJ.k:Ok Try.prog 82 (mk9 (gJ.tw F)):=by
 intro args H v H' h
 unfold mk9 at h
 split at h
 ·exact okT (TB:=cf) Try.func82 (bH (jU.k F) (bH (bg.k F) da)) af.no ((gJ.eqX F (jU.tw F) (bg.tw F) _ _ _ H).trans h) (by kernel_rfl)
 ·cases h
def bT.j2 (F:Nat) (jq:asz) (ag:asx) (C125_:atF) (Gz:Nat) (ahz:Nat) (ahA:Sl) (zE:Int) (zF:Int) (H132:Hp):OA:=C125_ Gz ahz ahA zE (wrap .i64 (zF+1)) H132
def bT.l125 (F:Nat) (jq:asz) (ag:asx) :Nat->Nat->Nat->Sl->Int->Int->Hp->OA
 | 0,_,_,_,_,_,_=>none
 | nl+1,jL,nH,BO,ns,kG,H76=>(bif (decide (kG<ns)) then ((Hp.ldI H76 .i64 jL (nH+6)).bind λn105=>(Hp.ldI H76 .i64 jL ((nH+6)+1)).bind λn106=>(Hp.ldSl H76 jL ((nH+6)+2)).bind λs107=>(ag n105 n106 s107 kG kG H76).bind λr108=>((r108.1).asP).bind λp109=>(Hp.ldI r108.2 .i64 p109.1 p109.2).bind λn110=>(bif (n110 != 0) then ((Hp.new r108.2 [(.int .i64 n110)]).bind λH111=>(Sl.row H111 (⟨some (r108.2.length,0),1,.ex 1⟩:Sl) 1).bind λxs113=>(Hp.app H111 1 8 BO (⟨some (r108.2.length,0),1,.ex 1⟩:Sl).n xs113).bind λa112=>bT.j2 F jq ag (bT.l125 F jq ag nl) jL nH a112.1 ns kG a112.2) else (bT.j2 F jq ag (bT.l125 F jq ag nl) jL nH BO ns kG r108.2))) else (some ((.tup [(.sl BO),(.int .i64 0)]),H76)))
termination_by structural n=>n
def bT.twX (jq:asz) (ag:asx) (aa:Int) (ac:Int) (aM:Sl) (H:Hp):OA:=(Hp.new H [(.int .i64 aa),(.int .i64 ac),(.sl aM)]).bind λH4=>(Hp.ldI H4 .i64 H.length 0).bind λn5=>(Hp.ldI H4 .i64 H.length (0+1)).bind λn6=>(Hp.ldSl H4 H.length (0+2)).bind λs7=>(jq n5 n6 s7 H4).bind λr8=>((r8.1).asTup 2).bind λl9=>(l9[0]?).bind λv10=>((v10).asAgg 15).bind λl11=>(l11[0]?).bind λv12=>((v12).asI .i64).bind λn13=>(l11[1]?).bind λv14=>((v14).asI .i64).bind λn15=>(l11[2]?).bind λv16=>((v16).asSl).bind λs17=>(l11[3]?).bind λv18=>((v18).asI .i64).bind λn19=>(l11[4]?).bind λv20=>((v20).asI .i64).bind λn21=>(l11[5]?).bind λv22=>((v22).asSl).bind λs23=>(l11[6]?).bind λv24=>((v24).asI .i64).bind λn25=>(l11[7]?).bind λv26=>((v26).asI .i64).bind λn27=>(l11[8]?).bind λv28=>((v28).asSl).bind λs29=>(l11[9]?).bind λv30=>((v30).asI .i64).bind λn31=>(l11[10]?).bind λv32=>((v32).asI .i64).bind λn33=>(l11[11]?).bind λv34=>((v34).asSl).bind λs35=>(l11[12]?).bind λv36=>((v36).asI .i64).bind λn37=>(l11[13]?).bind λv38=>((v38).asI .i64).bind λn39=>(l11[14]?).bind λv40=>((v40).asSl).bind λs41=>(l9[1]?).bind λv42=>((v42).asI .i64).bind λn43=>(Hp.new r8.2 [.int .i64 0,.int .i64 0,.sl ⟨none,0,.ex 0⟩,.int .i64 0,.int .i64 0,.sl ⟨none,0,.ex 0⟩,.int .i64 0,.int .i64 0,.sl ⟨none,0,.ex 0⟩,.int .i64 0,.int .i64 0,.sl ⟨none,0,.ex 0⟩,.int .i64 0,.int .i64 0,.sl ⟨none,0,.ex 0⟩]).bind λH44=>(Hp.st H44 r8.2.length 0 (.int .i64 n13)).bind λH45=>(Hp.st H45 r8.2.length (0+1) (.int .i64 n15)).bind λH46=>(Hp.st H46 r8.2.length (0+1+1) (.sl s17)).bind λH47=>(Hp.st H47 r8.2.length (0+1+1+1) (.int .i64 n19)).bind λH48=>(Hp.st H48 r8.2.length (0+1+1+1+1) (.int .i64 n21)).bind λH49=>(Hp.st H49 r8.2.length (0+1+1+1+1+1) (.sl s23)).bind λH50=>(Hp.st H50 r8.2.length (0+1+1+1+1+1+1) (.int .i64 n25)).bind λH51=>(Hp.st H51 r8.2.length (0+1+1+1+1+1+1+1) (.int .i64 n27)).bind λH52=>(Hp.st H52 r8.2.length (0+1+1+1+1+1+1+1+1) (.sl s29)).bind λH53=>(Hp.st H53 r8.2.length (0+1+1+1+1+1+1+1+1+1) (.int .i64 n31)).bind λH54=>(Hp.st H54 r8.2.length (0+1+1+1+1+1+1+1+1+1+1) (.int .i64 n33)).bind λH55=>(Hp.st H55 r8.2.length (0+1+1+1+1+1+1+1+1+1+1+1) (.sl s35)).bind λH56=>(Hp.st H56 r8.2.length (0+1+1+1+1+1+1+1+1+1+1+1+1) (.int .i64 n37)).bind λH57=>(Hp.st H57 r8.2.length (0+1+1+1+1+1+1+1+1+1+1+1+1+1) (.int .i64 n39)).bind λH58=>(Hp.st H58 r8.2.length (0+1+1+1+1+1+1+1+1+1+1+1+1+1+1) (.sl s41)).bind λH59=>(bif (n43 != 0) then (some ((.tup [(.sl (⟨none,0,.ex 0⟩:Sl)),(.int .i64 n43)]),H59)) else ((Hp.ldI H59 .i64 H.length 0).bind λn60=>(Hp.ldI H59 .i64 H.length 1).bind λn61=>bT.l125 F jq ag F r8.2.length 0 (⟨none,0,.ex 0⟩:Sl) (if n61<n60 then n61 else n60) 0 H59))
def bT.tw:=bT.twX F (gJ.tw F) (bf.tw F)
def bT.lh125 (jq:asz) (ag:asx) (ks:asD) (n:Nat) (tm:Tm) (H:Hp):OA:=match ks,tm 4,tm 6,tm 21,tm 22 with
 | [],(.ptr jL nH),(.sl BO),(.int .i64 ns),(.int .i64 kG)=>bT.l125 F jq ag n jL nH BO ns kG H
 | _,_,_,_,_=>none
def bT.lh (jq:asz) (ag:asx) (p:Nat) (ks:asD) (n:Nat) (tm:Tm) (H:Hp):OA:=bif p.beq 125 then bT.lh125 F jq ag ks n tm H else (none)
def bT.cs (F:Nat) (jq:asz) (ag:asx):Cs:=[(82,mk9 jq),(75,mk10 ag)]
theorem bT.loops (jq:asz) (ag:asx):LO (bS (bT.cs F jq ag)) cf (bT.lh F jq ag) F Try.f67:=
 (af.rt (af.rt (af.rt (af.rt (af.lt (af.rt (af.block (af.la (λn tm H r h=>by change bT.lh125 F jq ag [] n tm H=_ at h;unfold bT.lh125 at h;split at h;have e:cX tm [(4,_),(6,_),(21,_),(22,_)]:=⟨‹_›,‹_›,‹_›,‹_›,trivial⟩;obtain _ | k125:=n;cases h;exact ⟨_,rfl,by rw [<- db e];exact Eq.trans (by kernel_rfl) h⟩;cases h) λk125=>af.no))))))))
theorem bT.eqX (jq:asz) (ag:asx) (aa:Int) (ac:Int) (aM:Sl) (H:Hp):EX (bS (bT.cs F jq ag)) cf (bT.lh F jq ag) F Try.f67 [(.agg [(.int .i64 aa),(.int .i64 ac),(.sl aM)])] H=bT.twX F jq ag aa ac aM H:=by kernel_rfl
theorem bT.k:Ok Try.prog 67 (mk9 (bT.tw F)):=by
 intro args H v H' h
 unfold mk9 at h
 split at h
 ·exact okT (TB:=cf) Try.func67 (bH (gJ.k F) (bH (bf.k F) da)) (bT.loops F (gJ.tw F) (bf.tw F)) ((bT.eqX F (gJ.tw F) (bf.tw F) _ _ _ H).trans h) (by kernel_rfl)
 ·cases h
def io.twX (F:Nat) (eH:asz) (zG:asz) (aa:Int) (ac:Int) (aM:Sl) (H:Hp):OA:=(Hp.new H [(.int .i64 aa),(.int .i64 ac),(.sl aM)]).bind λH4=>(Hp.ldI H4 .i64 H.length 0).bind λn5=>(Hp.ldI H4 .i64 H.length (0+1)).bind λn6=>(Hp.ldSl H4 H.length (0+2)).bind λs7=>(eH n5 n6 s7 H4).bind λr8=>((r8.1).asB).bind λb9=>(bif (!b9) then (some ((.tup [(.sl (⟨none,0,.ex 0⟩:Sl)),(.int .i64 1)]),r8.2)) else ((Hp.ldI r8.2 .i64 H.length 0).bind λn10=>(Hp.ldI r8.2 .i64 H.length (0+1)).bind λn11=>(Hp.ldSl r8.2 H.length (0+2)).bind λs12=>(zG n10 n11 s12 r8.2).bind λr13=>((r13.1).asTup 2).bind λl14=>(l14[0]?).bind λv15=>((v15).asSl).bind λs16=>(l14[1]?).bind λv17=>((v17).asI .i64).bind λn18=>some ((.tup [(.sl s16),(.int .i64 n18)]),r13.2)))
def io.tw:=io.twX F (c_.tw F) (bT.tw F)
def io.cs (F:Nat) (eH:asz) (zG:asz):Cs:=[(76,mk9 eH),(67,mk9 zG)]
theorem io.eqX (eH:asz) (zG:asz) (aa:Int) (ac:Int) (aM:Sl) (H:Hp):EX (bS (io.cs F eH zG)) cf lh0 F Try.f24 [(.agg [(.int .i64 aa),(.int .i64 ac),(.sl aM)])] H=io.twX F eH zG aa ac aM H:=by kernel_rfl
theorem io.k:Ok Try.prog 24 (mk9 (io.tw F)):=by
 intro args H v H' h
 unfold mk9 at h
 split at h
 ·exact okT (TB:=cf) Try.func24 (bH (c_.k F) (bH (bT.k F) da)) af.no ((io.eqX F (c_.tw F) (bT.tw F) _ _ _ H).trans h) (by kernel_rfl)
 ·cases h
def gK.twX (F:Nat) (zH:asz) (mM:asE) (aa:Int) (ac:Int) (aM:Sl) (H:Hp):OA:=(Hp.new H [(.int .i64 aa),(.int .i64 ac),(.sl aM)]).bind λH4=>(Hp.ldI H4 .i64 H.length 0).bind λn5=>(Hp.ldI H4 .i64 H.length (0+1)).bind λn6=>(Hp.ldSl H4 H.length (0+2)).bind λs7=>(zH n5 n6 s7 H4).bind λr8=>((r8.1).asTup 2).bind λl9=>(l9[0]?).bind λv10=>((v10).asSl).bind λs11=>(l9[1]?).bind λv12=>((v12).asI .i64).bind λn13=>(mM s11 r8.2).bind λr14=>((r14.1).asI .i64).bind λn15=>some ((.tup [(.int .i64 n15),(.int .i64 n13)]),r14.2)
def gK.tw:=gK.twX F (io.tw F) (gr.tw F)
def gK.cs (F:Nat) (zH:asz) (mM:asE):Cs:=[(24,mk9 zH),(68,mk0 mM)]
theorem gK.eqX (zH:asz) (mM:asE) (aa:Int) (ac:Int) (aM:Sl) (H:Hp):EX (bS (gK.cs F zH mM)) cf lh0 F Try.f15 [(.agg [(.int .i64 aa),(.int .i64 ac),(.sl aM)])] H=gK.twX F zH mM aa ac aM H:=by kernel_rfl
theorem gK.k:Ok Try.prog 15 (mk9 (gK.tw F)):=by
 intro args H v H' h
 unfold mk9 at h
 split at h
 ·exact okT (TB:=cf) Try.func15 (bH (io.k F) (bH (gr.k F) da)) af.no ((gK.eqX F (io.tw F) (gr.tw F) _ _ _ H).trans h) (by kernel_rfl)
 ·cases h
def bc.j3 (F:Nat) (gf:asE) (gg:asU) (gh:asE) (fO:asz) (gj:asz) (gl:asA) (gm:asz) (nq:Nat) (LW:Nat) (mz:Int) (zI:Nat) (LX:Nat) (zJ:Nat) (LY:Nat) (H212:Hp):OA:=(Hp.ldI H212 .i64 zI LX).bind λn213=>(Hp.ldI H212 .i64 zI (LX+1)).bind λn214=>(Hp.ldSl H212 zI (LX+2)).bind λs215=>(fO n213 n214 s215 H212).bind λr216=>((r216.1).asTup 2).bind λl217=>(l217[0]?).bind λv218=>((v218).asI .i64).bind λn219=>(l217[1]?).bind λv220=>((v220).asI .i64).bind λn221=>(Hp.ldI r216.2 .i64 zJ LY).bind λn222=>(Hp.ldI r216.2 .i64 zJ (LY+1)).bind λn223=>(Hp.ldSl r216.2 zJ (LY+2)).bind λs224=>(fO n222 n223 s224 r216.2).bind λr225=>((r225.1).asTup 2).bind λl226=>(l226[0]?).bind λv227=>((v227).asI .i64).bind λn228=>(l226[1]?).bind λv229=>((v229).asI .i64).bind λn230=>(Hp.ldI r225.2 .i64 nq LW).bind λn231=>(Hp.ldI r225.2 .i64 nq (LW+1)).bind λn232=>(Hp.ldSl r225.2 nq (LW+2)).bind λs233=>(gm n231 n232 s233 r225.2).bind λr234=>((r234.1).asTup 2).bind λl235=>(l235[0]?).bind λv236=>((v236).asI .i64).bind λn237=>(l235[1]?).bind λv238=>((v238).asI .i64).bind λn239=>(bif (n221==0) then ((bif (n230==0) then ((bif (n219==(wrap .i64 (0 - mz))) then ((bif (n228==mz) then ((bif (n239 != 0) then (some ((.bool true),r234.2)) else ((bif ((Int.tmod (wrap .i64 (n237 - mz)) 2)==0) then ((bif (decide (mz<=n237)) then (some ((.bool (decide ((wrap .i64 (0 - mz))<=n237))),r234.2)) else (some ((.bool false),r234.2)))) else (some ((.bool false),r234.2)))))) else (some ((.bool false),r234.2)))) else (some ((.bool false),r234.2)))) else (some ((.bool false),r234.2)))) else (some ((.bool false),r234.2)))
def bc.j4 (F:Nat) (gf:asE) (gg:asU) (gh:asE) (fO:asz) (gj:asz) (gl:asA) (gm:asz) (C8189_:ate) (GA:Nat) (ahB:Nat) (zK:Int) (zL:Int) (ahC:Sl) (GB:Nat) (ahD:Nat) (GC:Nat) (ahE:Nat) (zM:Int) (H336:Hp):OA:=C8189_ GA ahB zK zL ahC GB ahD GC ahE (wrap .i64 (zM+1)) H336
def bc.j5 (gf:asE) (gg:asU) (gh:asE) (fO:asz) (gj:asz) (gl:asA) (gm:asz) (C8189_:ate) (GD:Nat) (ahF:Nat) (zN:Int) (zO:Int) (ahG:Sl) (GE:Nat) (ahH:Nat) (GF:Nat) (ahI:Nat) (zP:Int) (H312:Hp):OA:=bc.j4 F gf gg gh fO gj gl gm C8189_ GD ahF zN zO ahG GE ahH GF ahI zP H312
def bc.l131029 (F:Nat) (gf:asE) (gg:asU) (gh:asE) (fO:asz) (gj:asz) (gl:asA) (gm:asz) (C8189_:ate):Nat->Nat->Nat->Int->Int->Sl->Nat->Nat->Nat->Nat->Int->Int->Hp->OA
 | 0,_,_,_,_,_,_,_,_,_,_,_,_=>none
 | ahJ+1,qA,zQ,pJ,kH,zR,qB,zS,qC,zT,lW,lX,H262=>(bif (decide (lX<kH)) then ((Hp.new H262 []).bind λH337=>(Hp.ldSl H337 qB (zS+2)).bind λs338=>(Sl.row H337 s338 1).bind λxs340=>(Hp.app H337 1 8 (⟨some (H262.length,0),0,.ex 0⟩:Sl) s338.n xs340).bind λa339=>(if aX H337 a339.2 then ((Hp.ldSl a339.2 qA (zQ+2)).bind λs341=>(Sl.idx s341 (wrap .i64 ((wrap .i64 (lW * kH))+lX)) 1).bind λp342=>(Hp.ldI a339.2 .i64 p342.1 p342.2).bind λn343=>(Hp.new a339.2 [(.int .i64 (wrap .i64 (0 - n343)))]).bind λH344=>(Sl.row H344 (⟨some (a339.2.length,0),1,.ex 1⟩:Sl) 1).bind λxs346=>(Hp.app H344 1 8 a339.1 (⟨some (a339.2.length,0),1,.ex 1⟩:Sl).n xs346).bind λa345=>(Hp.st a345.2 qB (zS+2) (.sl a345.1)).bind λH347=>(Hp.new H347 []).bind λH348=>(Hp.ldSl H348 qC (zT+2)).bind λs349=>(Sl.row H348 s349 1).bind λxs351=>(Hp.app H348 1 8 (⟨some (H347.length,0),0,.ex 0⟩:Sl) s349.n xs351).bind λa350=>(if aX H348 a350.2 then ((Hp.ldSl a350.2 qA (zQ+2)).bind λs352=>(Sl.idx zR lW 1).bind λp353=>(Hp.ldI a350.2 .i64 p353.1 p353.2).bind λn354=>(Sl.idx zR lX 1).bind λp355=>(Hp.ldI a350.2 .i64 p355.1 p355.2).bind λn356=>(Sl.idx s352 (wrap .i64 ((wrap .i64 (n354 * kH))+n356)) 1).bind λp357=>(Hp.ldI a350.2 .i64 p357.1 p357.2).bind λn358=>(Hp.new a350.2 [(.int .i64 n358)]).bind λH359=>(Sl.row H359 (⟨some (a350.2.length,0),1,.ex 1⟩:Sl) 1).bind λxs361=>(Hp.app H359 1 8 a350.1 (⟨some (a350.2.length,0),1,.ex 1⟩:Sl).n xs361).bind λa360=>(Hp.st a360.2 qC (zT+2) (.sl a360.1)).bind λH362=>bc.l131029 F gf gg gh fO gj gl gm C8189_ ahJ qA zQ pJ kH zR qB zS qC zT lW (wrap .i64 (lX+1)) H362) else none)) else none)) else (bc.j5 F gf gg gh fO gj gl gm C8189_ qA zQ pJ kH zR qB zS qC zT lW H262))
termination_by structural n=>n
def bc.l8189 (F:Nat) (gf:asE) (gg:asU) (gh:asE) (fO:asz) (gj:asz) (gl:asA) (gm:asz) :Nat->Nat->Nat->Int->Int->Sl->Nat->Nat->Nat->Nat->Int->Hp->OA
 | 0,_,_,_,_,_,_,_,_,_,_,_=>none
 | LZ+1,tc,GG,pK,pL,L_,te,GH,tg,GI,pN,H67=>(bif (decide (pN<pL)) then (bc.l131029 F gf gg gh fO gj gl gm (bc.l8189 F gf gg gh fO gj gl gm LZ) F tc GG pK pL L_ te GH tg GI pN 0 H67) else (bc.j3 F gf gg gh fO gj gl gm tc GG pK te GH tg GI H67))
termination_by structural n=>n
def bc.twX (gf:asE) (gg:asU) (gh:asE) (fO:asz) (gj:asz) (gl:asA) (gm:asz) (aa:Sl) (H:Hp):OA:=(gf aa H).bind λr2=>((r2.1).asB).bind λb3=>(bif b3 then (some ((.bool true),r2.2)) else ((gg aa 7006 r2.2).bind λr4=>((r4.1).asP).bind λp5=>(gh aa r4.2).bind λr6=>((r6.1).asAgg 3).bind λl7=>(l7[0]?).bind λv8=>((v8).asI .i64).bind λn9=>(l7[1]?).bind λv10=>((v10).asI .i64).bind λn11=>(l7[2]?).bind λv12=>((v12).asSl).bind λs13=>(Hp.new r6.2 [.int .i64 0,.int .i64 0,.sl ⟨none,0,.ex 0⟩]).bind λH14=>(Hp.st H14 r6.2.length 0 (.int .i64 n9)).bind λH15=>(Hp.st H15 r6.2.length (0+1) (.int .i64 n11)).bind λH16=>(Hp.st H16 r6.2.length (0+1+1) (.sl s13)).bind λH17=>(Hp.ldI H17 .i64 r6.2.length 0).bind λn18=>(Hp.ldI H17 .i64 r6.2.length (0+1)).bind λn19=>(Hp.ldSl H17 r6.2.length (0+2)).bind λs20=>(fO n18 n19 s20 H17).bind λr21=>((r21.1).asTup 2).bind λl22=>(l22[0]?).bind λv23=>((v23).asI .i64).bind λn24=>(l22[1]?).bind λv25=>((v25).asI .i64).bind λn26=>(Hp.ldI r21.2 .i64 r6.2.length 0).bind λn27=>(Hp.ldI r21.2 .i64 r6.2.length (0+1)).bind λn28=>(Hp.ldSl r21.2 r6.2.length (0+2)).bind λs29=>(gj n27 n28 s29 r21.2).bind λr30=>((r30.1).asTup 2).bind λl31=>(l31[0]?).bind λv32=>((v32).asI .i64).bind λn33=>(l31[1]?).bind λv34=>((v34).asI .i64).bind λn35=>(bif (n26 != n35) then (some ((.bool false),r30.2)) else ((bif (n24 != n33) then (some ((.bool false),r30.2)) else ((bif (n26 != 0) then (some ((.bool (n24==0)),r30.2)) else ((Hp.ldI r30.2 .i64 r6.2.length 0).bind λn36=>(gl p5.1 p5.2 n36 r30.2).bind λr37=>((r37.1).asSl).bind λs38=>(Hp.new r37.2 [.int .i64 0,.int .i64 0,.sl ⟨none,0,.ex 0⟩]).bind λH39=>(Hp.new H39 [.int .i64 0,.int .i64 0,.sl ⟨none,0,.ex 0⟩]).bind λH40=>(Hp.st H40 r37.2.length 0 (.int .i64 n36)).bind λH41=>(Hp.st H41 r37.2.length (0+1) (.int .i64 n36)).bind λH42=>(Hp.st H42 r37.2.length (0+1+1) (.sl (⟨none,0,.ex 0⟩:Sl))).bind λH43=>(Hp.st H43 H39.length 0 (.int .i64 n36)).bind λH44=>(Hp.st H44 H39.length (0+1) (.int .i64 n36)).bind λH45=>(Hp.st H45 H39.length (0+1+1) (.sl (⟨none,0,.ex 0⟩:Sl))).bind λH46=>bc.l8189 F gf gg gh fO gj gl gm F r6.2.length 0 n24 n36 s38 r37.2.length 0 H39.length 0 0 H46))))))))
def bc.tw:=bc.twX F (iH.tw F) (cV.tw F) (aV.tw F) (eJ.tw F) (fq.tw F) (bO.tw F) (gK.tw F)
def bc.lh8189 (gf:asE) (gg:asU) (gh:asE) (fO:asz) (gj:asz) (gl:asA) (gm:asz) (ks:asD) (n:Nat) (tm:Tm) (H:Hp):OA:=match ks,tm 4,tm 5,tm 9,tm 10,tm 11,tm 12,tm 13 with
 | [],(.ptr tc GG),(.int .i64 pK),(.int .i64 pL),(.sl L_),(.ptr te GH),(.ptr tg GI),(.int .i64 pN)=>bc.l8189 F gf gg gh fO gj gl gm n tc GG pK pL L_ te GH tg GI pN H
 | _,_,_,_,_,_,_,_=>none
def bc.lh131029 (gf:asE) (gg:asU) (gh:asE) (fO:asz) (gj:asz) (gl:asA) (gm:asz) (ks:asD) (n:Nat) (tm:Tm) (H:Hp):OA:=match ks,tm 4,tm 5,tm 9,tm 10,tm 11,tm 12,tm 13,tm 14 with
 | [LZ],(.ptr qA zQ),(.int .i64 pJ),(.int .i64 kH),(.sl zR),(.ptr qB zS),(.ptr qC zT),(.int .i64 lW),(.int .i64 lX)=>bc.l131029 F gf gg gh fO gj gl gm (bc.l8189 F gf gg gh fO gj gl gm LZ) n qA zQ pJ kH zR qB zS qC zT lW lX H
 | _,_,_,_,_,_,_,_,_=>none
def bc.lh (gf:asE) (gg:asU) (gh:asE) (fO:asz) (gj:asz) (gl:asA) (gm:asz) (p:Nat) (ks:asD) (n:Nat) (tm:Tm) (H:Hp):OA:=bif p.beq 131029 then bc.lh131029 F gf gg gh fO gj gl gm ks n tm H else (bif p.beq 8189 then bc.lh8189 F gf gg gh fO gj gl gm ks n tm H else (none))
def bc.pn:Nat->List Nat:=dn [(20,[15,17]),(21,[20,22])]
def bc.tb:Nat->List (List Nat):=dn [(20,[[],[],[1],[0,1,2],[],[4],[],[],[6,7],[],[6,7,8,9],[4,5,6,7,8,9,10],[4,5,6,7,8,9,10,11],[4,5,6,7,8,9,10,11,12],[4,5,6,7,8,9,10,11,12,13],[0,1,2,3,4,5,6,7,8,9,10,11,12,13,14],[0,1,2,3,4,5,6,7,8,9,10,11,12,13,14,15],[0,1,2,3,4,5,6,7,8,9,10,11,12,13,14,15,16]]),(21,[[],[],[1],[0,1,2],[],[4],[],[],[6,7],[6,7,8],[],[6,7,8,9,10],[],[],[12,13],[12,13,14],[6,7,8,9,10,11,12,13,14,15],[4,5,6,7,8,9,10,11,12,13,14,15,16],[4,5,6,7,8,9,10,11,12,13,14,15,16,17],[4,5,6,7,8,9,10,11,12,13,14,15,16,17,18],[0,1,2,3,4,5,6,7,8,9,10,11,12,13,14,15,16,17,18,19],[0,1,2,3,4,5,6,7,8,9,10,11,12,13,14,15,16,17,18,19,20],[0,1,2,3,4,5,6,7,8,9,10,11,12,13,14,15,16,17,18,19,20,21]])]
def bc.cs (F:Nat) (gf:asE) (gg:asU) (gh:asE) (fO:asz) (gj:asz) (gl:asA) (gm:asz):Cs:=[(12,mk0 gf),(25,mk1 gg),(33,mk0 gh),(34,mk9 fO),(35,mk9 gj),(32,mk2 gl),(15,mk9 gm)]
theorem bc.loops (gf:asE) (gg:asU) (gh:asE) (fO:asz) (gj:asz) (gl:asA) (gm:asz):LO (bS (bc.cs F gf gg gh fO gj gl gm)) bc.pn (bc.lh F gf gg gh fO gj gl gm) F Try.f7:=
 (af.rt (af.rt (af.rt (af.rt (af.rt (af.rt (af.rt (af.rt (af.rt (af.rt (af.lt (af.rt (af.block (af.la (λn tm H r h=>by change bc.lh8189 F gf gg gh fO gj gl gm [] n tm H=_ at h;unfold bc.lh8189 at h;split at h;have e:cX tm [(4,_),(5,_),(9,_),(10,_),(11,_),(12,_),(13,_)]:=⟨‹_›,‹_›,‹_›,‹_›,‹_›,‹_›,‹_›,trivial⟩;obtain _ | k8189:=n;cases h;exact ⟨_,rfl,by rw [<- db e];exact Eq.trans (by kernel_rfl) h⟩;cases h) λk8189=>(af.rt (af.lt (af.block (af.rt (af.block (af.la (λn tm H r h=>by change bc.lh131029 F gf gg gh fO gj gl gm [k8189] n tm H=_ at h;unfold bc.lh131029 at h;split at h;have e:cX tm [(4,_),(5,_),(9,_),(10,_),(11,_),(12,_),(13,_),(14,_)]:=⟨‹_›,‹_›,‹_›,‹_›,‹_›,‹_›,‹_›,‹_›,trivial⟩;cases (show [k8189]=_ from ‹_›);obtain _ | k131029:=n;cases h;exact ⟨_,rfl,by rw [<- db e];exact Eq.trans (by kernel_rfl) h⟩;cases h) λk131029=>af.no))))))))))))))))))))
theorem bc.eqX (gf:asE) (gg:asU) (gh:asE) (fO:asz) (gj:asz) (gl:asA) (gm:asz) (aa:Sl) (H:Hp):EX (bS (bc.cs F gf gg gh fO gj gl gm)) bc.pn (bc.lh F gf gg gh fO gj gl gm) F Try.f7 [(.sl aa)] H=bc.twX F gf gg gh fO gj gl gm aa H:=by kernel_rfl
theorem bc.k:Ok Try.prog 7 (mk0 (bc.tw F)):=by
 intro args H v H' h
 unfold mk0 at h
 split at h
 ·exact okT (TB:=bc.tb) Try.func7 (bH (iH.k F) (bH (cV.k F) (bH (aV.k F) (bH (eJ.k F) (bH (fq.k F) (bH (bO.k F) (bH (gK.k F) da))))))) (bc.loops F (iH.tw F) (cV.tw F) (aV.tw F) (eJ.tw F) (fq.tw F) (bO.tw F) (gK.tw F)) ((bc.eqX F (iH.tw F) (cV.tw F) (aV.tw F) (eJ.tw F) (fq.tw F) (bO.tw F) (gK.tw F) _ H).trans h) (by kernel_rfl)
 ·cases h
theorem bc.T {F:Nat} {aa:Sl} {H:Hp} {v:AV} {H':Hp} (h:bc.tw F aa H=some (v,H')):Go.AE.T Try.prog 7 [(.sl aa)] H v H':=bc.k F _ _ _ _ ((mk0_E (bc.tw F) aa H).trans h)
end
end Go.Proofs.Ytokekkacliomkaa.AE
