import Derived.Test.YtokekkacliomkaaTab1
set_option linter.unusedVariables false
set_option linter.unusedSimpArgs false
namespace Go.Proofs.Ytokekkacliomkaa.AE
open Go Go.AE Go.Proofs IntKind
variable (F:Nat)
set_option linter.unusedVariables false
set_option maxHeartbeats 4000000
set_option maxRecDepth 100000
noncomputable section
def gB.twX (F:Nat) (aa:Sl) (H:Hp):OA:=some ((.bool (decide ((aa.n:Int)>4096))),H)
def gB.tw:=gB.twX F
def mk0 (g:ade) (args:adg) (H:Hp):OA:=match args with
 | [(.sl aa)]=>g aa H
 | _=>none
theorem mk0_E (g:ade) (aa:Sl) (H:Hp):mk0 g [(.sl aa)] H=g aa H:=rfl
theorem gB.k:Ok Try.prog 12 (mk0 (gB.tw F)):=by
 intro args H v H' h
 unfold mk0 at h
 split at h
 ·exact ok0 Try.func12 (Eq.trans (by kernel_rfl) h) (by kernel_rfl) (by kernel_rfl)
 ·cases h
def ct.l29 (F:Nat) :Nat->Sl->Nat->Nat->Int->Hp->OA
 | 0,_,_,_,_,_=>none
 | ft+1,iL,j_,iH,js,H9=>(bif (decide (js<(iL.n:Int))) then ((Hp.ldI H9 .u64 j_ (iH+2)).bind λn14=>(Sl.idx iL js 1).bind λp15=>(Hp.ldI H9 .u8 p15.1 p15.2).bind λn16=>(Hp.st H9 j_ (iH+2) (.int .u64 (IntKind.u64.wrap ((IntKind.u64.wrap ((IntKind.u64.wrap (n14 * 1099511628211))+(IntKind.u64.wrap n16)))+3)))).bind λH17=>ct.l29 F ft iL j_ iH (wrap .i64 (js+1)) H17) else (some ((.ptr j_ iH),H9)))
termination_by structural n=>n
def ct.twX (aa:Sl) (ax:Int) (H:Hp):OA:=(Hp.new H [(.sl aa),(.int .i64 0),(.int .u64 (IntKind.u64.wrap ((IntKind.u64.wrap (ax * 7919))+(IntKind.u64.wrap (aa.n:Int)))))]).bind λH3=>ct.l29 F F aa H.length 0 0 H3
def ct.tw:=ct.twX F
def ct.lh29 (ks:adc) (n:Nat) (tm:Tm) (H:Hp):OA:=match ks,tm 0,tm 4,tm 5,tm 6 with
 | [],(.sl iL),.nilp,(.ptr j_ iH),(.int .i64 js)=>ct.l29 F n iL j_ iH js H
 | _,_,_,_,_=>none
def ct.lh (p:Nat) (ks:adc) (n:Nat) (tm:Tm) (H:Hp):OA:=bif p.beq 29 then ct.lh29 F ks n tm H else (none)
def ct.pn:Nat->List Nat:=eP [(5,[15])]
def ct.tb:Nat->List (List Nat):=eP [(5,[[],[],[1],[1,2],[1,2,3],[1,2,3,4],[],[],[6,7],[6,7,8],[6,7,8,9],[1,2,3,4,5,6,7,8,9,10],[1,2,3,4,5,6,7,8,9,10,11],[0,1,2,3,4,5,6,7,8,9,10,11,12],[0,1,2,3,4,5,6,7,8,9,10,11,12,13],[0,1,2,3,4,5,6,7,8,9,10,11,12,13,14]])]
def mk1 (g:ado) (args:adg) (H:Hp):OA:=match args with
 | [(.sl aa),(.int .u64 ax)]=>g aa ax H
 | _=>none
theorem mk1_E (g:ado) (aa:Sl) (ax:Int) (H:Hp):mk1 g [(.sl aa),(.int .u64 ax)] H=g aa ax H:=rfl
theorem ct.loops:LO (bH []) ct.pn (ct.lh F) F Try.f25:=
 (af.rt (af.rt (af.lt (af.rt (af.block (af.la (λn tm H r h=>by change ct.lh29 F [] n tm H=_ at h;unfold ct.lh29 at h;split at h;have e:eH tm [(0,_),(4,_),(5,_),(6,_)]:=⟨‹_›,‹_›,‹_›,‹_›,trivial⟩;obtain _ | k29:=n;cases h;exact ⟨_,rfl,by rw [<- eQ e];exact Eq.trans (by kernel_rfl) h⟩;cases h) λk29=>af.no))))))
theorem ct.k:Ok Try.prog 25 (mk1 (ct.tw F)):=by
 intro args H v H' h
 unfold mk1 at h
 split at h
 ·exact okT (PN:=ct.pn) (LH:=(ct.lh F)) (F:=F) (TB:=ct.tb) Try.func25 cV (ct.loops F) (Eq.trans (by kernel_rfl) h) (by kernel_rfl)
 ·cases h
def cL.l29 (F:Nat) :Nat->Sl->Nat->Nat->Int->Hp->OA
 | 0,_,_,_,_,_=>none
 | ft+1,fH,mr,qM,ka,H7=>(bif (decide (ka<(fH.n:Int))) then ((bif (decide (ka<64)) then ((Hp.ldI H7 .i64 mr (qM+2)).bind λn12=>(Sl.idx fH ka 1).bind λp13=>(Hp.ldI H7 .u8 p13.1 p13.2).bind λn14=>(Hp.st H7 mr (qM+2) (.int .i64 (Int.tmod (wrap .i64 ((wrap .i64 (n12 * 37))+(wrap .i64 n14))) 2147483647))).bind λH15=>cL.l29 F ft fH mr qM (wrap .i64 (ka+1)) H15) else (some ((.ptr mr qM),H7)))) else (some ((.ptr mr qM),H7)))
termination_by structural n=>n
def cL.twX (aa:Sl) (H:Hp):OA:=(Hp.new H [(.sl aa),(.int .i64 0),(.int .i64 97531)]).bind λH2=>cL.l29 F F aa H.length 0 0 H2
def cL.tw:=cL.twX F
def cL.lh29 (ks:adc) (n:Nat) (tm:Tm) (H:Hp):OA:=match ks,tm 0,tm 2,tm 3,tm 4 with
 | [],(.sl fH),.nilp,(.ptr mr qM),(.int .i64 ka)=>cL.l29 F n fH mr qM ka H
 | _,_,_,_,_=>none
def cL.lh (p:Nat) (ks:adc) (n:Nat) (tm:Tm) (H:Hp):OA:=bif p.beq 29 then cL.lh29 F ks n tm H else (none)
def cL.pn:Nat->List Nat:=eP [(5,[15])]
def cL.tb:Nat->List (List Nat):=eP [(5,[[],[],[1],[1,2],[1,2,3],[1,2,3,4],[],[],[6,7],[6,7,8],[6,7,8,9],[1,2,3,4,5,6,7,8,9,10],[1,2,3,4,5,6,7,8,9,10,11],[0,1,2,3,4,5,6,7,8,9,10,11,12],[0,1,2,3,4,5,6,7,8,9,10,11,12,13],[0,1,2,3,4,5,6,7,8,9,10,11,12,13,14]])]
theorem cL.loops:LO (bH []) cL.pn (cL.lh F) F Try.f57:=
 (af.rt (af.rt (af.lt (af.rt (af.block (af.la (λn tm H r h=>by change cL.lh29 F [] n tm H=_ at h;unfold cL.lh29 at h;split at h;have e:eH tm [(0,_),(2,_),(3,_),(4,_)]:=⟨‹_›,‹_›,‹_›,‹_›,trivial⟩;obtain _ | k29:=n;cases h;exact ⟨_,rfl,by rw [<- eQ e];exact Eq.trans (by kernel_rfl) h⟩;cases h) λk29=>af.no))))))
theorem cL.k:Ok Try.prog 57 (mk0 (cL.tw F)):=by
 intro args H v H' h
 unfold mk0 at h
 split at h
 ·exact okT (PN:=cL.pn) (LH:=(cL.lh F)) (F:=F) (TB:=cL.tb) Try.func57 cV (cL.loops F) (Eq.trans (by kernel_rfl) h) (by kernel_rfl)
 ·cases h
def bw.j1 (F:Nat) (ms:Int) (sI:Int) (H37:Hp):OA:=(if ms=0 then none else (some ((.int .i64 (Int.tmod sI ms)),H37)))
def bw.j2 (sJ:Int) (sK:Int) (H28:Hp):OA:=bw.j1 F sJ sK H28
def bw.j3 (F:Nat) (pw:Int) (pz:Int) (H45:Hp):OA:=(if pw=0 then none else (some ((.int .i64 (Int.tmod pz pw)),H45)))
def bw.twX (aa:Nat) (ac:Nat) (ai:Int) (H:Hp):OA:=(bif (decide (ai<=1)) then (some ((.int .i64 0),H)) else ((Hp.ldI H .i64 aa (ac+2)).bind λn4=>(Hp.st H aa (ac+2) (.int .i64 (Int.tmod (wrap .i64 ((wrap .i64 (n4 * 48271))+11)) 2147483647))).bind λH5=>(Hp.ldI H5 .i64 aa (ac+2)).bind λn6=>(Hp.ldI H5 .i64 aa (ac+1)).bind λn7=>(Hp.ldSl H5 aa ac).bind λs8=>(bif (decide (n7<(s8.n:Int))) then ((Hp.ldSl H5 aa ac).bind λs9=>(Hp.ldI H5 .i64 aa (ac+1)).bind λn10=>(Sl.idx s9 n10 1).bind λp11=>(Hp.ldI H5 .u8 p11.1 p11.2).bind λn12=>(Hp.ldI H5 .i64 aa (ac+1)).bind λn13=>(Hp.st H5 aa (ac+1) (.int .i64 (wrap .i64 (n13+1)))).bind λH14=>(bif (decide (ai<=256)) then ((Hp.ldI H14 .i64 aa (ac+1)).bind λn15=>(bif ((Int.tmod n15 2)==0) then ((Hp.ldSl H14 aa ac).bind λs16=>(Hp.ldI H14 .i64 aa (ac+1)).bind λn17=>(Sl.idx s16 (wrap .i64 (n17 - 1)) 1).bind λp18=>(Hp.ldI H14 .u8 p18.1 p18.2).bind λn19=>bw.j2 F ai (wrap .i64 n19) H14) else (bw.j2 F ai (wrap .i64 ((wrap .i64 (Int.tdiv n6 11))+(wrap .i64 n12))) H14))) else (bw.j1 F ai (wrap .i64 ((wrap .i64 (Int.tdiv n6 11))+(wrap .i64 n12))) H14))) else (bw.j3 F ai (wrap .i64 (Int.tdiv n6 11)) H5))))
def bw.tw:=bw.twX F
def bw.tb:Nat->List (List Nat):=eP [(5,[[],[0],[0,1],[0,1,2],[],[4],[4,5],[4,5,6],[4,5,6,7],[0,1,2,3,4,5,6,7,8]]),(6,[[],[],[1],[1,2],[1,2,3],[],[5],[5,6],[5,6,7],[1,2,3,4,5,6,7,8],[1,2,3,4,5,6,7,8,9],[1,2,3,4,5,6,7,8,9,10],[0,1,2,3,4,5,6,7,8,9,10,11],[0,1,2,3,4,5,6,7,8,9,10,11,12]]),(9,[[],[0],[0,1],[0,1,2],[],[4],[4,5],[4,5,6],[4,5,6,7],[0,1,2,3,4,5,6,7,8],[0,1,2,3,4,5,6,7,8,9],[0,1,2,3,4,5,6,7,8,9,10],[0,1,2,3,4,5,6,7,8,9,10,11]])]
def mk2 (g:ac_) (args:adg) (H:Hp):OA:=match args with
 | [(.ptr aa ac),(.int .i64 ai)]=>g aa ac ai H
 | _=>none
theorem mk2_E (g:ac_) (aa:Nat) (ac:Nat) (ai:Int) (H:Hp):mk2 g [(.ptr aa ac),(.int .i64 ai)] H=g aa ac ai H:=rfl
theorem bw.k:Ok Try.prog 58 (mk2 (bw.tw F)):=by
 intro args H v H' h
 unfold mk2 at h
 split at h
 ·exact okT (PN:=bI) (LH:=lh0) (F:=F) (TB:=bw.tb) Try.func58 cV af.no (Eq.trans (by kernel_rfl) h) (by kernel_rfl)
 ·cases h
def eK.twX (F:Nat) (aa:Int) (ax:Int) (H:Hp):OA:=(Hp.new H [.int .i64 0,.int .i64 0,.sl ⟨none,0,.ex 0⟩]).bind λH3=>(Hp.mk H3 [.int .i64 0] 8 (wrap .i64 (aa * ax)) (wrap .i64 (aa * ax))).bind λm4=>(Hp.st m4.2 H.length 0 (.int .i64 aa)).bind λH5=>(Hp.st H5 H.length (0+1) (.int .i64 ax)).bind λH6=>(Hp.st H6 H.length (0+1+1) (.sl m4.1)).bind λH7=>(Hp.ldI H7 .i64 H.length 0).bind λn8=>(Hp.ldI H7 .i64 H.length (0+1)).bind λn9=>(Hp.ldSl H7 H.length (0+2)).bind λs10=>some ((.agg [(.int .i64 n8),(.int .i64 n9),(.sl s10)]),H7)
def eK.tw:=eK.twX F
def mk3 (g:adf) (args:adg) (H:Hp):OA:=match args with
 | [(.int .i64 aa),(.int .i64 ax)]=>g aa ax H
 | _=>none
theorem mk3_E (g:adf) (aa:Int) (ax:Int) (H:Hp):mk3 g [(.int .i64 aa),(.int .i64 ax)] H=g aa ax H:=rfl
theorem eK.k:Ok Try.prog 63 (mk3 (eK.tw F)):=by
 intro args H v H' h
 unfold mk3 at h
 split at h
 ·exact ok0 Try.func63 (Eq.trans (by kernel_rfl) h) (by kernel_rfl) (by kernel_rfl)
 ·cases h
def bJ.j2 (F:Nat) (b_:adf) (eZ:ac_) (C61_:ad5) (Ew:Nat) (Tl:Nat) (zo:Nat) (Tn:Nat) (zp:Nat) (To:Nat) (sL:Int) (sM:Int) (H85:Hp):OA:=C61_ Ew Tl zo Tn zp To sL (wrap .i64 (sM+1)) H85
def bJ.l61 (F:Nat) (b_:adf) (eZ:ac_) :Nat->Nat->Nat->Nat->Nat->Nat->Nat->Int->Int->Hp->OA
 | 0,_,_,_,_,_,_,_,_,_=>none
 | pA+1,sN,sR,kP,nO,kb,mu,kc,kd,H30=>(Hp.ldSl H30 kb (mu+2)).bind λs63=>(bif (decide (kd<(s63.n:Int))) then ((eZ sN sR 3 H30).bind λr64=>((r64.1).asI .i64).bind λn65=>(bif (decide (n65>0)) then ((Hp.ldSl r64.2 kb (mu+2)).bind λs66=>(eZ sN sR (wrap .i64 ((wrap .i64 (2 * kc))+1)) r64.2).bind λr67=>((r67.1).asI .i64).bind λn68=>(Sl.idx s66 kd 1).bind λp69=>(Hp.st r67.2 p69.1 p69.2 (.int .i64 (wrap .i64 (n68 - kc)))).bind λH70=>(ifW (((((Hp.ldSl r67.2 kb (mu+2)).bind λs71=>hU (.sl s66) r67.2 (.sl s71) r67.2)=some ())/\(((Hp.ldSl r64.2 kb (mu+2)).bind λs72=>hU (.sl s66) r64.2 (.sl s72) r64.2)=some ())/\True)/\True) (bJ.j2 F b_ eZ (bJ.l61 F b_ eZ pA) sN sR kP nO kb mu kc kd H70))) else (bJ.j2 F b_ eZ (bJ.l61 F b_ eZ pA) sN sR kP nO kb mu kc kd r64.2))) else ((Hp.ldI H30 .i64 kb mu).bind λn86=>(Hp.ldI H30 .i64 kb (mu+1)).bind λn87=>(Hp.ldSl H30 kb (mu+2)).bind λs88=>(Hp.st H30 kP nO (.int .i64 n86)).bind λH89=>(Hp.st H89 kP (nO+1) (.int .i64 n87)).bind λH90=>(Hp.st H90 kP (nO+1+1) (.sl s88)).bind λH91=>(Hp.ldI H91 .i64 kP nO).bind λn92=>(Hp.ldI H91 .i64 kP (nO+1)).bind λn93=>(Hp.ldSl H91 kP (nO+2)).bind λs94=>some ((.agg [(.int .i64 n92),(.int .i64 n93),(.sl s94)]),H91)))
termination_by structural n=>n
def bJ.twX (b_:adf) (eZ:ac_) (aa:Nat) (ac:Nat) (ai:Int) (bP:Int) (H:Hp):OA:=(Hp.new H [.int .i64 0,.int .i64 0,.sl ⟨none,0,.ex 0⟩]).bind λH5=>(b_ ai bP H5).bind λr6=>((r6.1).asAgg 3).bind λl7=>(l7[0]?).bind λv8=>((v8).asI .i64).bind λn9=>(l7[1]?).bind λv10=>((v10).asI .i64).bind λn11=>(l7[2]?).bind λv12=>((v12).asSl).bind λs13=>(Hp.new r6.2 [.int .i64 0,.int .i64 0,.sl ⟨none,0,.ex 0⟩]).bind λH14=>(Hp.st H14 r6.2.length 0 (.int .i64 n9)).bind λH15=>(Hp.st H15 r6.2.length (0+1) (.int .i64 n11)).bind λH16=>(Hp.st H16 r6.2.length (0+1+1) (.sl s13)).bind λH17=>(eZ aa ac 6 H17).bind λr18=>((r18.1).asI .i64).bind λn19=>bJ.l61 F b_ eZ F aa ac H.length 0 r6.2.length 0 (wrap .i64 (1+n19)) 0 r18.2
def bJ.tw:=bJ.twX F (eK.tw F) (bw.tw F)
def bJ.lh61 (b_:adf) (eZ:ac_) (ks:adc) (n:Nat) (tm:Tm) (H:Hp):OA:=match ks,tm 0,tm 6,tm 7,tm 8,tm 9 with
 | [],(.ptr sN sR),(.ptr kP nO),(.ptr kb mu),(.int .i64 kc),(.int .i64 kd)=>bJ.l61 F b_ eZ n sN sR kP nO kb mu kc kd H
 | _,_,_,_,_,_=>none
def bJ.lh (b_:adf) (eZ:ac_) (p:Nat) (ks:adc) (n:Nat) (tm:Tm) (H:Hp):OA:=bif p.beq 61 then bJ.lh61 F b_ eZ ks n tm H else (none)
def bJ.pn:Nat->List Nat:=eP [(7,[7,11,999,1001])]
def bJ.tb:Nat->List (List Nat):=eP [(7,[[],[0],[],[],[],[4],[4,5],[3,4,5,6],[],[3,4,5,6,7,8],[0,1,2,3,4,5,6,7,8,9],[0,1,2,3,4,5,6,7,8,9,10]])]
def mk4 (g:adX) (args:adg) (H:Hp):OA:=match args with
 | [(.ptr aa ac),(.int .i64 ai),(.int .i64 bP)]=>g aa ac ai bP H
 | _=>none
theorem mk4_E (g:adX) (aa:Nat) (ac:Nat) (ai:Int) (bP:Int) (H:Hp):mk4 g [(.ptr aa ac),(.int .i64 ai),(.int .i64 bP)] H=g aa ac ai bP H:=rfl
def bJ.cs (F:Nat) (b_:adf) (eZ:ac_):Cs:=[(63,mk3 b_),(58,mk2 eZ)]
theorem bJ.loops (b_:adf) (eZ:ac_):LO (bH (bJ.cs F b_ eZ)) bJ.pn (bJ.lh F b_ eZ) F Try.f59:=
 (af.rt (af.rt (af.rt (af.lt (af.rt (af.block (af.la (λn tm H r h=>by change bJ.lh61 F b_ eZ [] n tm H=_ at h;unfold bJ.lh61 at h;split at h;have e:eH tm [(0,_),(6,_),(7,_),(8,_),(9,_)]:=⟨‹_›,‹_›,‹_›,‹_›,‹_›,trivial⟩;obtain _ | k61:=n;cases h;exact ⟨_,rfl,by rw [<- eQ e];exact Eq.trans (by kernel_rfl) h⟩;cases h) λk61=>af.no)))))))
theorem bJ.eqX (b_:adf) (eZ:ac_) (aa:Nat) (ac:Nat) (ai:Int) (bP:Int) (H:Hp):EX (bH (bJ.cs F b_ eZ)) bJ.pn (bJ.lh F b_ eZ) F Try.f59 [(.ptr aa ac),(.int .i64 ai),(.int .i64 bP)] H=bJ.twX F b_ eZ aa ac ai bP H:=by kernel_rfl
theorem bJ.k:Ok Try.prog 59 (mk4 (bJ.tw F)):=by
 intro args H v H' h
 unfold mk4 at h
 split at h
 ·exact okT (TB:=bJ.tb) Try.func59 (bl (eK.k F) (bl (bw.k F) cV)) (bJ.loops F (eK.tw F) (bw.tw F)) ((bJ.eqX F (eK.tw F) (bw.tw F) _ _ _ _ H).trans h) (by kernel_rfl)
 ·cases h
def gf.twX (F:Nat) (eZ:ac_) (sS:adX) (aa:Nat) (ac:Nat) (H:Hp):OA:=(Hp.new H [.int .i64 0,.int .i64 0,.sl ⟨none,0,.ex 0⟩]).bind λH3=>(eZ aa ac 5 H3).bind λr4=>((r4.1).asI .i64).bind λn5=>(eZ aa ac 5 r4.2).bind λr6=>((r6.1).asI .i64).bind λn7=>(sS aa ac n5 n7 r6.2).bind λr8=>((r8.1).asAgg 3).bind λl9=>(l9[0]?).bind λv10=>((v10).asI .i64).bind λn11=>(l9[1]?).bind λv12=>((v12).asI .i64).bind λn13=>(l9[2]?).bind λv14=>((v14).asSl).bind λs15=>(Hp.new r8.2 [.int .i64 0,.int .i64 0,.sl ⟨none,0,.ex 0⟩]).bind λH16=>(Hp.st H16 r8.2.length 0 (.int .i64 n11)).bind λH17=>(Hp.st H17 r8.2.length (0+1) (.int .i64 n13)).bind λH18=>(Hp.st H18 r8.2.length (0+1+1) (.sl s15)).bind λH19=>(eZ aa ac 24 H19).bind λr20=>((r20.1).asI .i64).bind λn21=>(bif (n21==0) then ((Hp.ldI r20.2 .i64 r8.2.length 0).bind λn22=>(Hp.st r20.2 r8.2.length 0 (.int .i64 (wrap .i64 (n22+1)))).bind λH23=>(Hp.ldI H23 .i64 r8.2.length 0).bind λn24=>(Hp.ldI H23 .i64 r8.2.length (0+1)).bind λn25=>(Hp.ldSl H23 r8.2.length (0+2)).bind λs26=>(Hp.st H23 H.length 0 (.int .i64 n24)).bind λH27=>(Hp.st H27 H.length (0+1) (.int .i64 n25)).bind λH28=>(Hp.st H28 H.length (0+1+1) (.sl s26)).bind λH29=>(Hp.ldI H29 .i64 H.length 0).bind λn30=>(Hp.ldI H29 .i64 H.length (0+1)).bind λn31=>(Hp.ldSl H29 H.length (0+2)).bind λs32=>some ((.agg [(.int .i64 n30),(.int .i64 n31),(.sl s32)]),H29)) else ((bif (n21==1) then ((Hp.ldSl r20.2 r8.2.length 2).bind λs33=>(Hp.new r20.2 [(.int .i64 0)]).bind λH34=>(Sl.row H34 (⟨some (r20.2.length,0),1,.ex 1⟩:Sl) 1).bind λxs36=>(Hp.app H34 1 8 s33 (⟨some (r20.2.length,0),1,.ex 1⟩:Sl).n xs36).bind λa35=>(Hp.st a35.2 r8.2.length 2 (.sl a35.1)).bind λH37=>(Hp.ldI H37 .i64 r8.2.length 0).bind λn38=>(Hp.ldI H37 .i64 r8.2.length (0+1)).bind λn39=>(Hp.ldSl H37 r8.2.length (0+2)).bind λs40=>(Hp.st H37 H.length 0 (.int .i64 n38)).bind λH41=>(Hp.st H41 H.length (0+1) (.int .i64 n39)).bind λH42=>(Hp.st H42 H.length (0+1+1) (.sl s40)).bind λH43=>(Hp.ldI H43 .i64 H.length 0).bind λn44=>(Hp.ldI H43 .i64 H.length (0+1)).bind λn45=>(Hp.ldSl H43 H.length (0+2)).bind λs46=>some ((.agg [(.int .i64 n44),(.int .i64 n45),(.sl s46)]),H43)) else ((bif (n21==2) then ((Hp.ldSl r20.2 r8.2.length 2).bind λs47=>(bif (decide ((s47.n:Int)>0)) then ((Hp.ldSl r20.2 r8.2.length 2).bind λs48=>(eZ aa ac (s48.n:Int) r20.2).bind λr49=>((r49.1).asI .i64).bind λn50=>(Hp.ldSl r49.2 r8.2.length 2).bind λs51=>(Hp.new r49.2 [(.int .i64 1000000000000),(.int .i64 1000000000001),(.int .i64 (-1000000000000)),(.int .i64 (-1000000000001)),(.int .i64 (-9223372036854775808))]).bind λH52=>(eZ aa ac 5 H52).bind λr53=>((r53.1).asI .i64).bind λn54=>(Sl.idx (⟨some (r49.2.length,0),5,.ex 5⟩:Sl) n54 1).bind λp55=>(Hp.ldI r53.2 .i64 p55.1 p55.2).bind λn56=>(Sl.idx s51 n50 1).bind λp57=>(Hp.st r53.2 p57.1 p57.2 (.int .i64 n56)).bind λH58=>(ifW (((wM (some (AV.sl ⟨some (0,0),5,.ex 5⟩,[⟨[(.int .i64 1000000000000),(.int .i64 1000000000001),(.int .i64 (-1000000000000)),(.int .i64 (-1000000000001)),(.int .i64 (-9223372036854775808))],true,true⟩])) (.sl (⟨some (r49.2.length,0),5,.ex 5⟩:Sl)) r53.2)/\(wM (some (AV.sl ⟨some (0,0),5,.ex 5⟩,[⟨[(.int .i64 1000000000000),(.int .i64 1000000000001),(.int .i64 (-1000000000000)),(.int .i64 (-1000000000001)),(.int .i64 (-9223372036854775808))],true,true⟩])) (.sl (⟨some (r49.2.length,0),5,.ex 5⟩:Sl)) H52)/\(wM (some (AV.sl ⟨some (0,0),5,.ex 5⟩,[⟨[(.int .i64 1000000000000),(.int .i64 1000000000001),(.int .i64 (-1000000000000)),(.int .i64 (-1000000000001)),(.int .i64 (-9223372036854775808))],true,true⟩])) (.sl (⟨some (r49.2.length,0),5,.ex 5⟩:Sl)) r49.2)/\True)/\((((Hp.ldSl r53.2 r8.2.length 2).bind λs59=>hU (.sl s51) r53.2 (.sl s59) r53.2)=some ())/\(((Hp.ldSl H52 r8.2.length 2).bind λs60=>hU (.sl s51) H52 (.sl s60) H52)=some ())/\(((Hp.ldSl r49.2 r8.2.length 2).bind λs61=>hU (.sl s51) r49.2 (.sl s61) r49.2)=some ())/\True)/\True) ((Hp.ldI H58 .i64 r8.2.length 0).bind λn62=>(Hp.ldI H58 .i64 r8.2.length (0+1)).bind λn63=>(Hp.ldSl H58 r8.2.length (0+2)).bind λs64=>(Hp.st H58 H.length 0 (.int .i64 n62)).bind λH65=>(Hp.st H65 H.length (0+1) (.int .i64 n63)).bind λH66=>(Hp.st H66 H.length (0+1+1) (.sl s64)).bind λH67=>(Hp.ldI H67 .i64 H.length 0).bind λn68=>(Hp.ldI H67 .i64 H.length (0+1)).bind λn69=>(Hp.ldSl H67 H.length (0+2)).bind λs70=>some ((.agg [(.int .i64 n68),(.int .i64 n69),(.sl s70)]),H67)))) else ((Hp.ldI r20.2 .i64 r8.2.length 0).bind λn71=>(Hp.ldI r20.2 .i64 r8.2.length (0+1)).bind λn72=>(Hp.ldSl r20.2 r8.2.length (0+2)).bind λs73=>(Hp.st r20.2 H.length 0 (.int .i64 n71)).bind λH74=>(Hp.st H74 H.length (0+1) (.int .i64 n72)).bind λH75=>(Hp.st H75 H.length (0+1+1) (.sl s73)).bind λH76=>(Hp.ldI H76 .i64 H.length 0).bind λn77=>(Hp.ldI H76 .i64 H.length (0+1)).bind λn78=>(Hp.ldSl H76 H.length (0+2)).bind λs79=>some ((.agg [(.int .i64 n77),(.int .i64 n78),(.sl s79)]),H76)))) else ((bif (n21==3) then ((Hp.new r20.2 [(.int .i64 48),(.int .i64 49),(.int .i64 (-1))]).bind λH80=>(eZ aa ac 3 H80).bind λr81=>((r81.1).asI .i64).bind λn82=>(Sl.idx (⟨some (r20.2.length,0),3,.ex 3⟩:Sl) n82 1).bind λp83=>(Hp.ldI r81.2 .i64 p83.1 p83.2).bind λn84=>(Hp.st r81.2 r8.2.length 0 (.int .i64 0)).bind λH85=>(Hp.st H85 r8.2.length (0+1) (.int .i64 n84)).bind λH86=>(Hp.st H86 r8.2.length (0+1+1) (.sl (⟨none,0,.ex 0⟩:Sl))).bind λH87=>(Hp.ldI H87 .i64 r8.2.length 0).bind λn88=>(Hp.ldI H87 .i64 r8.2.length (0+1)).bind λn89=>(Hp.ldSl H87 r8.2.length (0+2)).bind λs90=>(Hp.st H87 H.length 0 (.int .i64 n88)).bind λH91=>(Hp.st H91 H.length (0+1) (.int .i64 n89)).bind λH92=>(Hp.st H92 H.length (0+1+1) (.sl s90)).bind λH93=>(Hp.ldI H93 .i64 H.length 0).bind λn94=>(Hp.ldI H93 .i64 H.length (0+1)).bind λn95=>(Hp.ldSl H93 H.length (0+2)).bind λs96=>some ((.agg [(.int .i64 n94),(.int .i64 n95),(.sl s96)]),H93)) else ((Hp.ldI r20.2 .i64 r8.2.length 0).bind λn97=>(Hp.ldI r20.2 .i64 r8.2.length (0+1)).bind λn98=>(Hp.ldSl r20.2 r8.2.length (0+2)).bind λs99=>(Hp.st r20.2 H.length 0 (.int .i64 n97)).bind λH100=>(Hp.st H100 H.length (0+1) (.int .i64 n98)).bind λH101=>(Hp.st H101 H.length (0+1+1) (.sl s99)).bind λH102=>(Hp.ldI H102 .i64 H.length 0).bind λn103=>(Hp.ldI H102 .i64 H.length (0+1)).bind λn104=>(Hp.ldSl H102 H.length (0+2)).bind λs105=>some ((.agg [(.int .i64 n103),(.int .i64 n104),(.sl s105)]),H102)))))))))
def gf.tw:=gf.twX F (bw.tw F) (bJ.tw F)
def gf.pn:Nat->List Nat:=eP [(10,[5,9,999,1001,1003])]
def gf.tb:Nat->List (List Nat):=eP [(10,[[],[0],[],[],[],[4],[3,4,5],[3,4,5,6],[0,1,2,3,4,5,6,7],[0,1,2,3,4,5,6,7,8]])]
def mk5 (g:adE) (args:adg) (H:Hp):OA:=match args with
 | [(.ptr aa ac)]=>g aa ac H
 | _=>none
theorem mk5_E (g:adE) (aa:Nat) (ac:Nat) (H:Hp):mk5 g [(.ptr aa ac)] H=g aa ac H:=rfl
def gf.cs (F:Nat) (eZ:ac_) (sS:adX):Cs:=[(58,mk2 eZ),(59,mk4 sS)]
theorem gf.eqX (eZ:ac_) (sS:adX) (aa:Nat) (ac:Nat) (H:Hp):EX (bH (gf.cs F eZ sS)) gf.pn lh0 F Try.f60 [(.ptr aa ac)] H=gf.twX F eZ sS aa ac H:=by kernel_rfl
theorem gf.k:Ok Try.prog 60 (mk5 (gf.tw F)):=by
 intro args H v H' h
 unfold mk5 at h
 split at h
 ·exact okT (TB:=gf.tb) Try.func60 (bl (bw.k F) (bl (bJ.k F) cV)) af.no ((gf.eqX F (bw.tw F) (bJ.tw F) _ _ H).trans h) (by kernel_rfl)
 ·cases h
def fC.twX (F:Nat) (sT:ade) (sU:adE) (aa:Sl) (H:Hp):OA:=(Hp.new H [.int .i64 0,.int .i64 0,.sl ⟨none,0,.ex 0⟩]).bind λH2=>(sT aa H2).bind λr3=>((r3.1).asP).bind λp4=>(sU p4.1 p4.2 r3.2).bind λr5=>((r5.1).asAgg 3).bind λl6=>(l6[0]?).bind λv7=>((v7).asI .i64).bind λn8=>(l6[1]?).bind λv9=>((v9).asI .i64).bind λn10=>(l6[2]?).bind λv11=>((v11).asSl).bind λs12=>(Hp.st r5.2 H.length 0 (.int .i64 n8)).bind λH13=>(Hp.st H13 H.length (0+1) (.int .i64 n10)).bind λH14=>(Hp.st H14 H.length (0+1+1) (.sl s12)).bind λH15=>(Hp.ldI H15 .i64 H.length 0).bind λn16=>(Hp.ldI H15 .i64 H.length (0+1)).bind λn17=>(Hp.ldSl H15 H.length (0+2)).bind λs18=>some ((.agg [(.int .i64 n16),(.int .i64 n17),(.sl s18)]),H15)
def fC.tw:=fC.twX F (cL.tw F) (gf.tw F)
def fC.cs (F:Nat) (sT:ade) (sU:adE):Cs:=[(57,mk0 sT),(60,mk5 sU)]
theorem fC.eqX (sT:ade) (sU:adE) (aa:Sl) (H:Hp):EX (bH (fC.cs F sT sU)) bI lh0 F Try.f26 [(.sl aa)] H=fC.twX F sT sU aa H:=by kernel_rfl
theorem fC.k:Ok Try.prog 26 (mk0 (fC.tw F)):=by
 intro args H v H' h
 unfold mk0 at h
 split at h
 ·exact okT (TB:=bI) Try.func26 (bl (cL.k F) (bl (gf.k F) cV)) af.no ((fC.eqX F (cL.tw F) (gf.tw F) _ H).trans h) (by kernel_rfl)
 ·cases h
def gg.twX (F:Nat) (aa:Int) (ax:Int) (eF:Int) (H:Hp):OA:=(bif (decide (ax<=aa)) then (some ((.bool (decide (aa<=eF))),H)) else (some ((.bool false),H)))
def gg.tw:=gg.twX F
def mk6 (g:adi) (args:adg) (H:Hp):OA:=match args with
 | [(.int .i64 aa),(.int .i64 ax),(.int .i64 eF)]=>g aa ax eF H
 | _=>none
theorem mk6_E (g:adi) (aa:Int) (ax:Int) (eF:Int) (H:Hp):mk6 g [(.int .i64 aa),(.int .i64 ax),(.int .i64 eF)] H=g aa ax eF H:=rfl
theorem gg.k:Ok Try.prog 125 (mk6 (gg.tw F)):=by
 intro args H v H' h
 unfold mk6 at h
 split at h
 ·exact ok0 Try.func125 (Eq.trans (by kernel_rfl) h) (by kernel_rfl) (by kernel_rfl)
 ·cases h
def gZ.twX (F:Nat) (aa:Sl) (H:Hp):OA:=some ((.int .i64 (aa.n:Int)),H)
def gZ.tw:=gZ.twX F
theorem gZ.k:Ok Try.prog 68 (mk0 (gZ.tw F)):=by
 intro args H v H' h
 unfold mk0 at h
 split at h
 ·exact ok0 Try.func68 (Eq.trans (by kernel_rfl) h) (by kernel_rfl) (by kernel_rfl)
 ·cases h
def gQ.twX (F:Nat) (kQ:adi) (aa:Int) (H:Hp):OA:=(kQ aa (-1000000000000) 1000000000000 H).bind λr2=>((r2.1).asB).bind λb3=>some ((.bool (!b3)),r2.2)
def gQ.tw:=gQ.twX F (gg.tw F)
def mk7 (g:adb) (args:adg) (H:Hp):OA:=match args with
 | [(.int .i64 aa)]=>g aa H
 | _=>none
theorem mk7_E (g:adb) (aa:Int) (H:Hp):mk7 g [(.int .i64 aa)] H=g aa H:=rfl
def gQ.cs (F:Nat) (kQ:adi):Cs:=[(125,mk6 kQ)]
theorem gQ.eqX (kQ:adi) (aa:Int) (H:Hp):EX (bH (gQ.cs F kQ)) bI lh0 F Try.f127 [(.int .i64 aa)] H=gQ.twX F kQ aa H:=by kernel_rfl
theorem gQ.k:Ok Try.prog 127 (mk7 (gQ.tw F)):=by
 intro args H v H' h
 unfold mk7 at h
 split at h
 ·exact okT (TB:=bI) Try.func127 (bl (gg.k F) cV) af.no ((gQ.eqX F (gg.tw F) _ H).trans h) (by kernel_rfl)
 ·cases h
def cy.l13 (F:Nat) (jt:adb) :Nat->Sl->Int->Int->Hp->OA
 | 0,_,_,_,_=>none
 | pB+1,ov,gh,eo,H6=>(bif (decide (eo<gh)) then ((Sl.idx ov eo 1).bind λp11=>(Hp.ldI H6 .i64 p11.1 p11.2).bind λn12=>(jt n12 H6).bind λr13=>((r13.1).asB).bind λb14=>(bif b14 then (some ((.int .i64 eo),r13.2)) else (cy.l13 F jt pB ov gh (wrap .i64 (eo+1)) r13.2))) else (some ((.int .i64 (-1)),H6)))
def cy.twX (jt:adb) (aa:Sl) (H:Hp):OA:=cy.l13 F jt F aa (aa.n:Int) 0 H
def cy.tw:=cy.twX F (gQ.tw F)
def cy.lh13 (jt:adb) (ks:adc) (n:Nat) (tm:Tm) (H:Hp):OA:=match ks,tm 0,tm 1,tm 7,tm 8 with
 | [],(.sl ov),(.fn 127 []),(.int .i64 gh),(.int .i64 eo)=>cy.l13 F jt n ov gh eo H
 | _,_,_,_,_=>none
def cy.lh (jt:adb) (p:Nat) (ks:adc) (n:Nat) (tm:Tm) (H:Hp):OA:=bif p.beq 13 then cy.lh13 F jt ks n tm H else (none)
def mk8 (g:ade) (args:adg) (H:Hp):OA:=match args with
 | [(.sl aa),(.fn 127 [])]=>g aa H
 | _=>none
theorem mk8_E (g:ade) (aa:Sl) (H:Hp):mk8 g [(.sl aa),(.fn 127 [])] H=g aa H:=rfl
def cy.cs (F:Nat) (jt:adb):Cs:=[(127,mk7 jt)]
theorem cy.loops (jt:adb):LO (bH (cy.cs F jt)) bI (cy.lh F jt) F Try.f122:=
 (af.rt (af.lt (af.rt (af.block (af.la (λn tm H r h=>by change cy.lh13 F jt [] n tm H=_ at h;unfold cy.lh13 at h;split at h;have e:eH tm [(0,_),(1,_),(7,_),(8,_)]:=⟨‹_›,‹_›,‹_›,‹_›,trivial⟩;obtain _ | k13:=n;cases h;exact ⟨_,rfl,by rw [<- eQ e];exact Eq.trans (by kernel_rfl) h⟩;cases h) λk13=>af.no)))))
theorem cy.eqX (jt:adb) (aa:Sl) (H:Hp):EX (bH (cy.cs F jt)) bI (cy.lh F jt) F Try.f122 [(.sl aa),(.fn 127 [])] H=cy.twX F jt aa H:=by kernel_rfl
theorem cy.k:Ok Try.prog 122 (mk8 (cy.tw F)):=by
 intro args H v H' h
 unfold mk8 at h
 split at h
 ·exact okT (TB:=bI) Try.func122 (bl (gQ.k F) cV) (cy.loops F (gQ.tw F)) ((cy.eqX F (gQ.tw F) _ H).trans h) (by kernel_rfl)
 ·cases h
def gR.twX (F:Nat) (sV:ade) (aa:Sl) (H:Hp):OA:=(sV aa H).bind λr2=>((r2.1).asI .i64).bind λn3=>some ((.bool (decide (n3>=0))),r2.2)
def gR.tw:=gR.twX F (cy.tw F)
def gR.cs (F:Nat) (sV:ade):Cs:=[(122,mk8 sV)]
theorem gR.eqX (sV:ade) (aa:Sl) (H:Hp):EX (bH (gR.cs F sV)) bI lh0 F Try.f65 [(.sl aa),(.fn 127 [])] H=gR.twX F sV aa H:=by kernel_rfl
theorem gR.k:Ok Try.prog 65 (mk8 (gR.tw F)):=by
 intro args H v H' h
 unfold mk8 at h
 split at h
 ·exact okT (TB:=bI) Try.func65 (bl (cy.k F) cV) af.no ((gR.eqX F (cy.tw F) _ H).trans h) (by kernel_rfl)
 ·cases h
def cn.twX (F:Nat) (kQ:adi) (sW:ade) (sX:ade) (aa:Int) (ac:Int) (aJ:Sl) (H:Hp):OA:=(Hp.new H [(.int .i64 aa),(.int .i64 ac),(.sl aJ)]).bind λH4=>(Hp.ldI H4 .i64 H.length 0).bind λn5=>(kQ n5 0 48 H4).bind λr6=>((r6.1).asB).bind λb7=>(bif b7 then ((Hp.ldI r6.2 .i64 H.length 1).bind λn8=>(kQ n8 0 48 r6.2).bind λr9=>((r9.1).asB).bind λb10=>(bif b10 then ((Hp.ldSl r9.2 H.length 2).bind λs11=>(sW s11 r9.2).bind λr12=>((r12.1).asI .i64).bind λn13=>(if bh r9.2 r12.2 then ((Hp.ldI r12.2 .i64 H.length 0).bind λn14=>(Hp.ldI r12.2 .i64 H.length 1).bind λn15=>(bif (n13==(wrap .i64 (n14 * n15))) then ((Hp.ldSl r12.2 H.length 2).bind λs16=>(sX s16 r12.2).bind λr17=>((r17.1).asB).bind λb18=>some ((.bool (!b18)),r17.2)) else (some ((.bool false),r12.2)))) else none)) else (some ((.bool false),r9.2)))) else (some ((.bool false),r6.2)))
def cn.tw:=cn.twX F (gg.tw F) (gZ.tw F) (gR.tw F)
def cn.pn:Nat->List Nat:=eP [(1,[2,6,22])]
def cn.tb:Nat->List (List Nat):=eP [(1,[[],[0],[0,1],[0,1,2],[0,1,2,3],[0,1,2,3,4],[0,1,2,3,4,5],[0,1,2,3,4,5,6],[0,1,2,3,4,5,6,7],[0,1,2,3,4,5,6,7,8],[0,1,2,3,4,5,6,7,8,9],[0,1,2,3,4,5,6,7,8,9,10],[0,1,2,3,4,5,6,7,8],[0,1,2,3,4,5,6,7,8,12],[0,1,2,3,4,5,6,7,8],[0,1,2,3,4,5,6,7,8,14],[0,1,2,3,4,5,6,7,8,12,13,14,15],[0,1,2,3,4,5,6,7,8,9,10,11,12,13,14,15,16],[0,1,2,3,4,5,6,7,8,9,10,11,12,13,14,15,16,17],[0,1,2,3,4,5,6,7,8,9,10,11,12,13,14,15,16,17,18],[0,1,2,3,4,5,6,7,8,9,10,11,12,13,14,15,16,17,18,19],[0,1,2,3,4,5,6,7,8,9,10,11,12,13,14,15,16,17,18,19,20],[0,1,2,3,4,5,6,7,8,9,10,11,12,13,14,15,16,17,18,19,20,21],[0,1,2,3,4,5,6,7,8,9,10,11,12,13,14,15,16,17,18,19,20,21,22],[0,1,2,3,4,5,6,7,8,9,10,11,12,13,14,15,16,17,18,19,20,21,22,23],[0,1,2,3,4,5,6,7,8,9,10,11,12,13,14,15,16,17,18,19,20,21,22,23,24]])]
def mk9 (g:ada) (args:adg) (H:Hp):OA:=match args with
 | [(.agg [(.int .i64 aa),(.int .i64 ac),(.sl aJ)])]=>g aa ac aJ H
 | _=>none
theorem mk9_E (g:ada) (aa:Int) (ac:Int) (aJ:Sl) (H:Hp):mk9 g [(.agg [(.int .i64 aa),(.int .i64 ac),(.sl aJ)])] H=g aa ac aJ H:=rfl
def cn.cs (F:Nat) (kQ:adi) (sW:ade) (sX:ade):Cs:=[(125,mk6 kQ),(68,mk0 sW),(65,mk8 sX)]
theorem cn.eqX (kQ:adi) (sW:ade) (sX:ade) (aa:Int) (ac:Int) (aJ:Sl) (H:Hp):EX (bH (cn.cs F kQ sW sX)) cn.pn lh0 F Try.f76 [(.agg [(.int .i64 aa),(.int .i64 ac),(.sl aJ)])] H=cn.twX F kQ sW sX aa ac aJ H:=by kernel_rfl
theorem cn.k:Ok Try.prog 76 (mk9 (cn.tw F)):=by
 intro args H v H' h
 unfold mk9 at h
 split at h
 ·exact okT (TB:=cn.tb) Try.func76 (bl (gg.k F) (bl (gZ.k F) (bl (gR.k F) cV))) af.no ((cn.eqX F (gg.tw F) (gZ.tw F) (gR.tw F) _ _ _ H).trans h) (by kernel_rfl)
 ·cases h
def eG.twX (F:Nat) (aa:Int) (ax:Int) (H:Hp):OA:=(Hp.new H [.int .i64 0,.int .i64 0,.sl ⟨none,0,.ex 0⟩]).bind λH3=>(Hp.mk H3 [.int .i64 0] 8 (wrap .i64 (aa * ax)) (wrap .i64 (aa * ax))).bind λm4=>(Hp.st m4.2 H.length 0 (.int .i64 aa)).bind λH5=>(Hp.st H5 H.length (0+1) (.int .i64 ax)).bind λH6=>(Hp.st H6 H.length (0+1+1) (.sl m4.1)).bind λH7=>(Hp.ldI H7 .i64 H.length 0).bind λn8=>(Hp.ldI H7 .i64 H.length (0+1)).bind λn9=>(Hp.ldSl H7 H.length (0+2)).bind λs10=>some ((.agg [(.int .i64 n8),(.int .i64 n9),(.sl s10)]),H7)
def eG.tw:=eG.twX F
theorem eG.k:Ok Try.prog 74 (mk3 (eG.tw F)):=by
 intro args H v H' h
 unfold mk3 at h
 split at h
 ·exact ok0 Try.func74 (Eq.trans (by kernel_rfl) h) (by kernel_rfl) (by kernel_rfl)
 ·cases h
def aS.twX (F:Nat) (aa:Int) (ac:Int) (aJ:Sl) (ak:Int) (bX:Int) (H:Hp):OA:=(Hp.new H [(.int .i64 aa),(.int .i64 ac),(.sl aJ)]).bind λH6=>(Hp.ldSl H6 H.length 2).bind λs7=>(Hp.ldI H6 .i64 H.length 1).bind λn8=>(Sl.idx s7 (wrap .i64 ((wrap .i64 (ak * n8))+bX)) 1).bind λp9=>some ((.ptr p9.1 p9.2),H6)
def aS.tw:=aS.twX F
def mk10 (g:ac8) (args:adg) (H:Hp):OA:=match args with
 | [(.agg [(.int .i64 aa),(.int .i64 ac),(.sl aJ)]),(.int .i64 ak),(.int .i64 bX)]=>g aa ac aJ ak bX H
 | _=>none
theorem mk10_E (g:ac8) (aa:Int) (ac:Int) (aJ:Sl) (ak:Int) (bX:Int) (H:Hp):mk10 g [(.agg [(.int .i64 aa),(.int .i64 ac),(.sl aJ)]),(.int .i64 ak),(.int .i64 bX)] H=g aa ac aJ ak bX H:=rfl
theorem aS.k:Ok Try.prog 75 (mk10 (aS.tw F)):=by
 intro args H v H' h
 unfold mk10 at h
 split at h
 ·exact ok0 Try.func75 (Eq.trans (by kernel_rfl) h) (by kernel_rfl) (by kernel_rfl)
 ·cases h
def bU.l29 (F:Nat) (db:adf) (ae:ac8) :Nat->Nat->Nat->Nat->Nat->Int->Int->Hp->OA
 | 0,_,_,_,_,_,_,_=>none
 | ft+1,es,ox,ln,iM,mv,ke,H22=>(bif (decide (ke<mv)) then ((Hp.ldI H22 .i64 ln iM).bind λn38=>(Hp.ldI H22 .i64 ln (iM+1)).bind λn39=>(Hp.ldSl H22 ln (iM+2)).bind λs40=>(ae n38 n39 s40 ke ke H22).bind λr41=>((r41.1).asP).bind λp42=>(Hp.st r41.2 p42.1 p42.2 (.int .i64 1)).bind λH43=>bU.l29 F db ae ft es ox ln iM mv (wrap .i64 (ke+1)) H43) else ((Hp.ldI H22 .i64 ln iM).bind λn44=>(Hp.ldI H22 .i64 ln (iM+1)).bind λn45=>(Hp.ldSl H22 ln (iM+2)).bind λs46=>(Hp.st H22 es ox (.int .i64 n44)).bind λH47=>(Hp.st H47 es (ox+1) (.int .i64 n45)).bind λH48=>(Hp.st H48 es (ox+1+1) (.sl s46)).bind λH49=>(Hp.ldI H49 .i64 es ox).bind λn50=>(Hp.ldI H49 .i64 es (ox+1)).bind λn51=>(Hp.ldSl H49 es (ox+2)).bind λs52=>some ((.agg [(.int .i64 n50),(.int .i64 n51),(.sl s52)]),H49)))
termination_by structural n=>n
def bU.twX (db:adf) (ae:ac8) (aa:Int) (H:Hp):OA:=(Hp.new H [.int .i64 0,.int .i64 0,.sl ⟨none,0,.ex 0⟩]).bind λH2=>(db aa aa H2).bind λr3=>((r3.1).asAgg 3).bind λl4=>(l4[0]?).bind λv5=>((v5).asI .i64).bind λn6=>(l4[1]?).bind λv7=>((v7).asI .i64).bind λn8=>(l4[2]?).bind λv9=>((v9).asSl).bind λs10=>(Hp.new r3.2 [.int .i64 0,.int .i64 0,.sl ⟨none,0,.ex 0⟩]).bind λH11=>(Hp.st H11 r3.2.length 0 (.int .i64 n6)).bind λH12=>(Hp.st H12 r3.2.length (0+1) (.int .i64 n8)).bind λH13=>(Hp.st H13 r3.2.length (0+1+1) (.sl s10)).bind λH14=>bU.l29 F db ae F H.length 0 r3.2.length 0 aa 0 H14
def bU.tw:=bU.twX F (eG.tw F) (aS.tw F)
def bU.lh29 (db:adf) (ae:ac8) (ks:adc) (n:Nat) (tm:Tm) (H:Hp):OA:=match ks,tm 2,tm 3,tm 8,tm 9 with
 | [],(.ptr es ox),(.ptr ln iM),(.int .i64 mv),(.int .i64 ke)=>bU.l29 F db ae n es ox ln iM mv ke H
 | _,_,_,_,_=>none
def bU.lh (db:adf) (ae:ac8) (p:Nat) (ks:adc) (n:Nat) (tm:Tm) (H:Hp):OA:=bif p.beq 29 then bU.lh29 F db ae ks n tm H else (none)
def bU.cs (F:Nat) (db:adf) (ae:ac8):Cs:=[(74,mk3 db),(75,mk10 ae)]
theorem bU.loops (db:adf) (ae:ac8):LO (bH (bU.cs F db ae)) bI (bU.lh F db ae) F Try.f134:=
 (af.rt (af.rt (af.lt (af.rt (af.block (af.la (λn tm H r h=>by change bU.lh29 F db ae [] n tm H=_ at h;unfold bU.lh29 at h;split at h;have e:eH tm [(2,_),(3,_),(8,_),(9,_)]:=⟨‹_›,‹_›,‹_›,‹_›,trivial⟩;obtain _ | k29:=n;cases h;exact ⟨_,rfl,by rw [<- eQ e];exact Eq.trans (by kernel_rfl) h⟩;cases h) λk29=>af.no))))))
theorem bU.eqX (db:adf) (ae:ac8) (aa:Int) (H:Hp):EX (bH (bU.cs F db ae)) bI (bU.lh F db ae) F Try.f134 [(.int .i64 aa)] H=bU.twX F db ae aa H:=by kernel_rfl
theorem bU.k:Ok Try.prog 134 (mk7 (bU.tw F)):=by
 intro args H v H' h
 unfold mk7 at h
 split at h
 ·exact okT (TB:=bI) Try.func134 (bl (eG.k F) (bl (aS.k F) cV)) (bU.loops F (eG.tw F) (aS.tw F)) ((bU.eqX F (eG.tw F) (aS.tw F) _ H).trans h) (by kernel_rfl)
 ·cases h
def iN.twX (F:Nat) (aa:Sl) (H:Hp):OA:=(bif (aa.a.isNone) then (some ((.sl (⟨none,0,.ex 0⟩:Sl)),H)) else ((Hp.new H []).bind λH2=>(Sl.row H2 aa 1).bind λxs4=>(Hp.app H2 1 8 (⟨some (H.length,0),0,.ex 0⟩:Sl) aa.n xs4).bind λa3=>some ((.sl a3.1),a3.2)))
def iN.tw:=iN.twX F
theorem iN.k:Ok Try.prog 129 (mk0 (iN.tw F)):=by
 intro args H v H' h
 unfold mk0 at h
 split at h
 ·exact ok0 Try.func129 (Eq.trans (by kernel_rfl) h) (by kernel_rfl) (by kernel_rfl)
 ·cases h
def gE.twX (F:Nat) (sY:ade) (aa:Int) (ac:Int) (aJ:Sl) (H:Hp):OA:=(Hp.new H [(.int .i64 aa),(.int .i64 ac),(.sl aJ)]).bind λH4=>(Hp.new H4 [.int .i64 0,.int .i64 0,.sl ⟨none,0,.ex 0⟩]).bind λH5=>(Hp.ldSl H5 H.length 2).bind λs6=>(sY s6 H5).bind λr7=>((r7.1).asSl).bind λs8=>(Hp.st r7.2 H.length 2 (.sl s8)).bind λH9=>(Hp.ldI H9 .i64 H.length 0).bind λn10=>(Hp.ldI H9 .i64 H.length (0+1)).bind λn11=>(Hp.ldSl H9 H.length (0+2)).bind λs12=>(Hp.st H9 H4.length 0 (.int .i64 n10)).bind λH13=>(Hp.st H13 H4.length (0+1) (.int .i64 n11)).bind λH14=>(Hp.st H14 H4.length (0+1+1) (.sl s12)).bind λH15=>(Hp.ldI H15 .i64 H4.length 0).bind λn16=>(Hp.ldI H15 .i64 H4.length (0+1)).bind λn17=>(Hp.ldSl H15 H4.length (0+2)).bind λs18=>some ((.agg [(.int .i64 n16),(.int .i64 n17),(.sl s18)]),H15)
def gE.tw:=gE.twX F (iN.tw F)
def gE.cs (F:Nat) (sY:ade):Cs:=[(129,mk0 sY)]
theorem gE.eqX (sY:ade) (aa:Int) (ac:Int) (aJ:Sl) (H:Hp):EX (bH (gE.cs F sY)) bI lh0 F Try.f79 [(.agg [(.int .i64 aa),(.int .i64 ac),(.sl aJ)])] H=gE.twX F sY aa ac aJ H:=by kernel_rfl
theorem gE.k:Ok Try.prog 79 (mk9 (gE.tw F)):=by
 intro args H v H' h
 unfold mk9 at h
 split at h
 ·exact okT (TB:=bI) Try.func79 (bl (iN.k F) cV) af.no ((gE.eqX F (iN.tw F) _ _ _ H).trans h) (by kernel_rfl)
 ·cases h
def jj.twX (F:Nat) (jT:adb) (sZ:ada) (aa:Int) (ac:Int) (aJ:Sl) (H:Hp):OA:=(Hp.new H [(.int .i64 aa),(.int .i64 ac),(.sl aJ)]).bind λH4=>(Hp.ldI H4 .i64 H.length 0).bind λn5=>(jT n5 H4).bind λr6=>((r6.1).asAgg 3).bind λl7=>(l7[0]?).bind λv8=>((v8).asI .i64).bind λn9=>(l7[1]?).bind λv10=>((v10).asI .i64).bind λn11=>(l7[2]?).bind λv12=>((v12).asSl).bind λs13=>(if bh H4 r6.2 then ((Hp.ldI r6.2 .i64 H.length 0).bind λn14=>(jT n14 r6.2).bind λr15=>((r15.1).asAgg 3).bind λl16=>(l16[0]?).bind λv17=>((v17).asI .i64).bind λn18=>(l16[1]?).bind λv19=>((v19).asI .i64).bind λn20=>(l16[2]?).bind λv21=>((v21).asSl).bind λs22=>(if bh r6.2 r15.2 then ((Hp.ldI r15.2 .i64 H.length 0).bind λn23=>(Hp.ldI r15.2 .i64 H.length (0+1)).bind λn24=>(Hp.ldSl r15.2 H.length (0+2)).bind λs25=>(sZ n23 n24 s25 r15.2).bind λr26=>((r26.1).asAgg 3).bind λl27=>(l27[0]?).bind λv28=>((v28).asI .i64).bind λn29=>(l27[1]?).bind λv30=>((v30).asI .i64).bind λn31=>(l27[2]?).bind λv32=>((v32).asSl).bind λs33=>(if bh r15.2 r26.2 then ((Hp.ldI r26.2 .i64 H.length 1).bind λn34=>(jT n34 r26.2).bind λr35=>((r35.1).asAgg 3).bind λl36=>(l36[0]?).bind λv37=>((v37).asI .i64).bind λn38=>(l36[1]?).bind λv39=>((v39).asI .i64).bind λn40=>(l36[2]?).bind λv41=>((v41).asSl).bind λs42=>(if bh r26.2 r35.2 then ((Hp.ldI r35.2 .i64 H.length 1).bind λn43=>(jT n43 r35.2).bind λr44=>((r44.1).asAgg 3).bind λl45=>(l45[0]?).bind λv46=>((v46).asI .i64).bind λn47=>(l45[1]?).bind λv48=>((v48).asI .i64).bind λn49=>(l45[2]?).bind λv50=>((v50).asSl).bind λs51=>(Hp.new r44.2 [(.int .i64 n9),(.int .i64 n11),(.sl s13),(.int .i64 n18),(.int .i64 n20),(.sl s22),(.int .i64 n29),(.int .i64 n31),(.sl s33),(.int .i64 n38),(.int .i64 n40),(.sl s42),(.int .i64 n47),(.int .i64 n49),(.sl s51),(.bool false)]).bind λH52=>some ((.ptr r44.2.length 0),H52)) else none)) else none)) else none)) else none)
def jj.tw:=jj.twX F (bU.tw F) (gE.tw F)
def jj.pn:Nat->List Nat:=eP [(1,[13])]
def jj.tb:Nat->List (List Nat):=eP [(1,[[],[0],[0,1],[],[3],[0,1,2,3,4],[],[0,1,2,3,4,5,6],[],[8],[0,1,2,3,4,5,6,7,8,9],[],[11],[0,1,2,3,4,5,6,7,8,9,10,11,12],[0,1,2,3,4,5,6,7,8,9,10,11,12,13],[0,1,2,3,4,5,6,7,8,9,10,11,12,13,14],[0,1,2,3,4,5,6,7,8,9,10,11,12,13,14,15],[0,1,2,3,4,5,6,7,8,9,10,11,12,13,14,15,16]])]
def jj.cs (F:Nat) (jT:adb) (sZ:ada):Cs:=[(134,mk7 jT),(79,mk9 sZ)]
theorem jj.eqX (jT:adb) (sZ:ada) (aa:Int) (ac:Int) (aJ:Sl) (H:Hp):EX (bH (jj.cs F jT sZ)) jj.pn lh0 F Try.f132 [(.agg [(.int .i64 aa),(.int .i64 ac),(.sl aJ)])] H=jj.twX F jT sZ aa ac aJ H:=by kernel_rfl
theorem jj.k:Ok Try.prog 132 (mk9 (jj.tw F)):=by
 intro args H v H' h
 unfold mk9 at h
 split at h
 ·exact okT (TB:=jj.tb) Try.func132 (bl (bU.k F) (bl (gE.k F) cV)) af.no ((jj.eqX F (bU.tw F) (gE.tw F) _ _ _ H).trans h) (by kernel_rfl)
 ·cases h
def cP.twX (F:Nat) (aa:Int) (H:Hp):OA:=(bif (decide (aa<0)) then (some ((.int .i64 (wrap .i64 (0 - aa))),H)) else (some ((.int .i64 aa),H)))
def cP.tw:=cP.twX F
theorem cP.k:Ok Try.prog 97 (mk7 (cP.tw F)):=by
 intro args H v H' h
 unfold mk7 at h
 split at h
 ·exact ok0 Try.func97 (Eq.trans (by kernel_rfl) h) (by kernel_rfl) (by kernel_rfl)
 ·cases h
def aG.j5 (F:Nat) (ae:ac8) (bQ:adb) (s_:Int) (ta:Int) (tc:Bool) (H134:Hp):OA:=some ((.tup [(.int .i64 s_),(.int .i64 ta),(.bool tc)]),H134)
def aG.j7 (F:Nat) (ae:ac8) (bQ:adb) (C29_:adI) (te:Int) (tf:Int) (tg:Int) (th:Bool) (zq:Nat) (Tp:Nat) (ti:Int) (H205:Hp):OA:=C29_ te tf tg th zq Tp (wrap .i64 (ti+1)) H205
def aG.j8 (ae:ac8) (bQ:adb) (C29_:adI) (tj:Int) (tl:Int) (tn:Int) (tp:Bool) (zt:Nat) (Tq:Nat) (tq:Int) (H192:Hp):OA:=aG.j7 F ae bQ C29_ tj tl tn tp zt Tq tq H192
def aG.j9 (F:Nat) (ae:ac8) (bQ:adb) (C469_:ad6) (tt:Int) (tu:Int) (tv:Int) (tz:Bool) (zu:Nat) (Ts:Nat) (tA:Int) (tB:Int) (H237:Hp):OA:=C469_ tt tu tv tz zu Ts tA (wrap .i64 (tB+1)) H237
def aG.l469 (F:Nat) (ae:ac8) (bQ:adb) (C29_:adI):Nat->Int->Int->Int->Bool->Nat->Nat->Int->Int->Hp->OA
 | 0,_,_,_,_,_,_,_,_,_=>none
 | pE+1,jE,kf,kg,ki,ju,kR,ib,ic,H147=>(Hp.ldI H147 .i64 ju (kR+1)).bind λn206=>(bif (decide (ic<n206)) then ((Hp.ldI H147 .i64 ju kR).bind λn207=>(Hp.ldI H147 .i64 ju (kR+1)).bind λn208=>(Hp.ldSl H147 ju (kR+2)).bind λs209=>(ae n207 n208 s209 ib ic H147).bind λr210=>((r210.1).asP).bind λp211=>(Hp.ldI r210.2 .i64 p211.1 p211.2).bind λn212=>(bQ n212 r210.2).bind λr213=>((r213.1).asI .i64).bind λn214=>(bif (n214 != 0) then ((bif (!ki) then (aG.l469 F ae bQ C29_ pE jE ib ic true ju kR ib (wrap .i64 (ic+1)) r213.2) else ((Hp.ldI r213.2 .i64 ju kR).bind λn215=>(Hp.ldI r213.2 .i64 ju (kR+1)).bind λn216=>(Hp.ldSl r213.2 ju (kR+2)).bind λs217=>(ae n215 n216 s217 kf kg r213.2).bind λr218=>((r218.1).asP).bind λp219=>(Hp.ldI r218.2 .i64 p219.1 p219.2).bind λn220=>(bQ n220 r218.2).bind λr221=>((r221.1).asI .i64).bind λn222=>(bif (decide (n214<n222)) then (aG.j9 F ae bQ (aG.l469 F ae bQ C29_ pE) jE ib ic true ju kR ib ic r221.2) else (aG.j9 F ae bQ (aG.l469 F ae bQ C29_ pE) jE kf kg ki ju kR ib ic r221.2))))) else (aG.l469 F ae bQ C29_ pE jE kf kg ki ju kR ib (wrap .i64 (ic+1)) r213.2))) else (aG.j8 F ae bQ C29_ jE kf kg ki ju kR ib H147))
termination_by structural n=>n
def aG.l29 (F:Nat) (ae:ac8) (bQ:adb) :Nat->Int->Int->Int->Bool->Nat->Nat->Int->Hp->OA
 | 0,_,_,_,_,_,_,_,_=>none
 | ft+1,dc,gj,hO,mw,pF,zw,mz,H20=>(Hp.ldI H20 .i64 pF zw).bind λn135=>(bif (decide (mz<n135)) then (aG.l469 F ae bQ (aG.l29 F ae bQ ft) F dc gj hO mw pF zw mz dc H20) else (aG.j5 F ae bQ gj hO mw H20))
termination_by structural n=>n
def aG.twX (ae:ac8) (bQ:adb) (aa:Nat) (ac:Nat) (ai:Int) (H:Hp):OA:=(Hp.ldI H .i64 aa (ac+6)).bind λn4=>(Hp.ldI H .i64 aa ((ac+6)+1)).bind λn5=>(Hp.ldSl H aa ((ac+6)+2)).bind λs6=>(Hp.new H [.int .i64 0,.int .i64 0,.sl ⟨none,0,.ex 0⟩]).bind λH7=>(Hp.st H7 H.length 0 (.int .i64 n4)).bind λH8=>(Hp.st H8 H.length (0+1) (.int .i64 n5)).bind λH9=>(Hp.st H9 H.length (0+1+1) (.sl s6)).bind λH10=>aG.l29 F ae bQ F ai 0 0 false H.length 0 ai H10
def aG.tw:=aG.twX F (aS.tw F) (cP.tw F)
def aG.lh29 (ae:ac8) (bQ:adb) (ks:adc) (n:Nat) (tm:Tm) (H:Hp):OA:=match ks,tm 1,tm 4,tm 5,tm 6,tm 7,tm 8 with
 | [],(.int .i64 dc),(.int .i64 gj),(.int .i64 hO),(.bool mw),(.ptr pF zw),(.int .i64 mz)=>aG.l29 F ae bQ n dc gj hO mw pF zw mz H
 | _,_,_,_,_,_,_=>none
def aG.lh469 (ae:ac8) (bQ:adb) (ks:adc) (n:Nat) (tm:Tm) (H:Hp):OA:=match ks,tm 1,tm 4,tm 5,tm 6,tm 7,tm 8,tm 9 with
 | [ft],(.int .i64 jE),(.int .i64 kf),(.int .i64 kg),(.bool ki),(.ptr ju kR),(.int .i64 ib),(.int .i64 ic)=>aG.l469 F ae bQ (aG.l29 F ae bQ ft) n jE kf kg ki ju kR ib ic H
 | _,_,_,_,_,_,_,_=>none
def aG.lh (ae:ac8) (bQ:adb) (p:Nat) (ks:adc) (n:Nat) (tm:Tm) (H:Hp):OA:=bif p.beq 469 then aG.lh469 F ae bQ ks n tm H else (bif p.beq 29 then aG.lh29 F ae bQ ks n tm H else (none))
def aG.cs (F:Nat) (ae:ac8) (bQ:adb):Cs:=[(75,mk10 ae),(97,mk7 bQ)]
theorem aG.loops (ae:ac8) (bQ:adb):LO (bH (aG.cs F ae bQ)) bI (aG.lh F ae bQ) F Try.f204:=
 (af.rt (af.rt (af.lt (af.rt (af.block (af.la (λn tm H r h=>by change aG.lh29 F ae bQ [] n tm H=_ at h;unfold aG.lh29 at h;split at h;have e:eH tm [(1,_),(4,_),(5,_),(6,_),(7,_),(8,_)]:=⟨‹_›,‹_›,‹_›,‹_›,‹_›,‹_›,trivial⟩;obtain _ | k29:=n;cases h;exact ⟨_,rfl,by rw [<- eQ e];exact Eq.trans (by kernel_rfl) h⟩;cases h) λk29=>(af.rt (af.lt (af.block (af.rt (af.block (af.la (λn tm H r h=>by change aG.lh469 F ae bQ [k29] n tm H=_ at h;unfold aG.lh469 at h;split at h;have e:eH tm [(1,_),(4,_),(5,_),(6,_),(7,_),(8,_),(9,_)]:=⟨‹_›,‹_›,‹_›,‹_›,‹_›,‹_›,‹_›,trivial⟩;cases (show [k29]=_ from ‹_›);obtain _ | k469:=n;cases h;exact ⟨_,rfl,by rw [<- eQ e];exact Eq.trans (by kernel_rfl) h⟩;cases h) λk469=>af.no))))))))))))
theorem aG.eqX (ae:ac8) (bQ:adb) (aa:Nat) (ac:Nat) (ai:Int) (H:Hp):EX (bH (aG.cs F ae bQ)) bI (aG.lh F ae bQ) F Try.f204 [(.ptr aa ac),(.int .i64 ai)] H=aG.twX F ae bQ aa ac ai H:=by kernel_rfl
theorem aG.k:Ok Try.prog 204 (mk2 (aG.tw F)):=by
 intro args H v H' h
 unfold mk2 at h
 split at h
 ·exact okT (TB:=bI) Try.func204 (bl (aS.k F) (bl (cP.k F) cV)) (aG.loops F (aS.tw F) (cP.tw F)) ((aG.eqX F (aS.tw F) (cP.tw F) _ _ _ H).trans h) (by kernel_rfl)
 ·cases h
def bY.l7 (F:Nat) (ae:ac8) :Nat->Int->Int->Nat->Nat->Int->Int->Hp->OA
 | 0,_,_,_,_,_,_,_=>none
 | qN+1,ig,ii,gF,jk,ij,fL,H17=>(bif (decide (fL<ij)) then ((Hp.ldI H17 .i64 gF jk).bind λn32=>(Hp.ldI H17 .i64 gF (jk+1)).bind λn33=>(Hp.ldSl H17 gF (jk+2)).bind λs34=>(ae n32 n33 s34 ig fL H17).bind λr35=>((r35.1).asP).bind λp36=>(if bh H17 r35.2 then ((Hp.ldI r35.2 .i64 gF jk).bind λn37=>(Hp.ldI r35.2 .i64 gF (jk+1)).bind λn38=>(Hp.ldSl r35.2 gF (jk+2)).bind λs39=>(ae n37 n38 s39 ii fL r35.2).bind λr40=>((r40.1).asP).bind λp41=>(Hp.ldI r40.2 .i64 p41.1 p41.2).bind λn42=>(Hp.ldI r40.2 .i64 p36.1 p36.2).bind λn43=>(Hp.st r40.2 p36.1 p36.2 (.int .i64 n42)).bind λH44=>(Hp.st H44 p41.1 p41.2 (.int .i64 n43)).bind λH45=>bY.l7 F ae qN ig ii gF jk ij (wrap .i64 (fL+1)) H45) else none)) else (some ((.tup []),H17)))
termination_by structural n=>n
def bY.twX (ae:ac8) (aa:Int) (ac:Int) (aJ:Sl) (ak:Int) (bX:Int) (H:Hp):OA:=(Hp.new H [(.int .i64 aa),(.int .i64 ac),(.sl aJ)]).bind λH6=>(Hp.ldI H6 .i64 H.length 1).bind λn7=>bY.l7 F ae F ak bX H.length 0 n7 0 H6
def bY.tw:=bY.twX F (aS.tw F)
def bY.lh7 (ae:ac8) (ks:adc) (n:Nat) (tm:Tm) (H:Hp):OA:=match ks,tm 1,tm 2,tm 3,tm 10,tm 11 with
 | [],(.int .i64 ig),(.int .i64 ii),(.ptr gF jk),(.int .i64 ij),(.int .i64 fL)=>bY.l7 F ae n ig ii gF jk ij fL H
 | _,_,_,_,_,_=>none
def bY.lh (ae:ac8) (p:Nat) (ks:adc) (n:Nat) (tm:Tm) (H:Hp):OA:=bif p.beq 7 then bY.lh7 F ae ks n tm H else (none)
def bY.pn:Nat->List Nat:=eP [(4,[7]),(5,[9,11])]
def bY.tb:Nat->List (List Nat):=eP [(4,[[],[],[],[0,1,2],[],[],[],[0,1,2,3,4,5,6],[0,1,2,3,4,5,6,7],[0,1,2,3,4,5,6,7,8]]),(5,[[],[],[],[2],[2,3],[],[5],[5,6],[0,2,3,4,5,6,7],[0,2,3,4,5,6,7,8],[0,1,2,3,4,5,6,7,8,9],[0,1,2,3,4,5,6,7,8,9,10]])]
def bY.cs (F:Nat) (ae:ac8):Cs:=[(75,mk10 ae)]
theorem bY.loops (ae:ac8):LO (bH (bY.cs F ae)) bY.pn (bY.lh F ae) F Try.f205:=
 (af.rt (af.rt (af.block (af.la (λn tm H r h=>by change bY.lh7 F ae [] n tm H=_ at h;unfold bY.lh7 at h;split at h;have e:eH tm [(1,_),(2,_),(3,_),(10,_),(11,_)]:=⟨‹_›,‹_›,‹_›,‹_›,‹_›,trivial⟩;obtain _ | k7:=n;cases h;exact ⟨_,rfl,by rw [<- eQ e];exact Eq.trans (by kernel_rfl) h⟩;cases h) λk7=>af.no))))
theorem bY.eqX (ae:ac8) (aa:Int) (ac:Int) (aJ:Sl) (ak:Int) (bX:Int) (H:Hp):EX (bH (bY.cs F ae)) bY.pn (bY.lh F ae) F Try.f205 [(.agg [(.int .i64 aa),(.int .i64 ac),(.sl aJ)]),(.int .i64 ak),(.int .i64 bX)] H=bY.twX F ae aa ac aJ ak bX H:=by kernel_rfl
theorem bY.k:Ok Try.prog 205 (mk10 (bY.tw F)):=by
 intro args H v H' h
 unfold mk10 at h
 split at h
 ·exact okT (TB:=bY.tb) Try.func205 (bl (aS.k F) cV) (bY.loops F (aS.tw F)) ((bY.eqX F (aS.tw F) _ _ _ _ _ H).trans h) (by kernel_rfl)
 ·cases h
def bZ.l7 (F:Nat) (ae:ac8) :Nat->Int->Int->Nat->Nat->Int->Int->Hp->OA
 | 0,_,_,_,_,_,_,_=>none
 | qN+1,ig,ii,gF,jk,ij,fL,H17=>(bif (decide (fL<ij)) then ((Hp.ldI H17 .i64 gF jk).bind λn32=>(Hp.ldI H17 .i64 gF (jk+1)).bind λn33=>(Hp.ldSl H17 gF (jk+2)).bind λs34=>(ae n32 n33 s34 fL ig H17).bind λr35=>((r35.1).asP).bind λp36=>(if bh H17 r35.2 then ((Hp.ldI r35.2 .i64 gF jk).bind λn37=>(Hp.ldI r35.2 .i64 gF (jk+1)).bind λn38=>(Hp.ldSl r35.2 gF (jk+2)).bind λs39=>(ae n37 n38 s39 fL ii r35.2).bind λr40=>((r40.1).asP).bind λp41=>(Hp.ldI r40.2 .i64 p41.1 p41.2).bind λn42=>(Hp.ldI r40.2 .i64 p36.1 p36.2).bind λn43=>(Hp.st r40.2 p36.1 p36.2 (.int .i64 n42)).bind λH44=>(Hp.st H44 p41.1 p41.2 (.int .i64 n43)).bind λH45=>bZ.l7 F ae qN ig ii gF jk ij (wrap .i64 (fL+1)) H45) else none)) else (some ((.tup []),H17)))
termination_by structural n=>n
def bZ.twX (ae:ac8) (aa:Int) (ac:Int) (aJ:Sl) (ak:Int) (bX:Int) (H:Hp):OA:=(Hp.new H [(.int .i64 aa),(.int .i64 ac),(.sl aJ)]).bind λH6=>(Hp.ldI H6 .i64 H.length 0).bind λn7=>bZ.l7 F ae F ak bX H.length 0 n7 0 H6
def bZ.tw:=bZ.twX F (aS.tw F)
def bZ.lh7 (ae:ac8) (ks:adc) (n:Nat) (tm:Tm) (H:Hp):OA:=match ks,tm 1,tm 2,tm 3,tm 10,tm 11 with
 | [],(.int .i64 ig),(.int .i64 ii),(.ptr gF jk),(.int .i64 ij),(.int .i64 fL)=>bZ.l7 F ae n ig ii gF jk ij fL H
 | _,_,_,_,_,_=>none
def bZ.lh (ae:ac8) (p:Nat) (ks:adc) (n:Nat) (tm:Tm) (H:Hp):OA:=bif p.beq 7 then bZ.lh7 F ae ks n tm H else (none)
def bZ.pn:Nat->List Nat:=eP [(4,[7]),(5,[9,11])]
def bZ.tb:Nat->List (List Nat):=eP [(4,[[],[],[],[0,1,2],[],[],[],[0,1,2,3,4,5,6],[0,1,2,3,4,5,6,7],[0,1,2,3,4,5,6,7,8]]),(5,[[],[],[],[2],[2,3],[],[5],[5,6],[0,2,3,4,5,6,7],[0,2,3,4,5,6,7,8],[0,1,2,3,4,5,6,7,8,9],[0,1,2,3,4,5,6,7,8,9,10]])]
def bZ.cs (F:Nat) (ae:ac8):Cs:=[(75,mk10 ae)]
theorem bZ.loops (ae:ac8):LO (bH (bZ.cs F ae)) bZ.pn (bZ.lh F ae) F Try.f206:=
 (af.rt (af.rt (af.block (af.la (λn tm H r h=>by change bZ.lh7 F ae [] n tm H=_ at h;unfold bZ.lh7 at h;split at h;have e:eH tm [(1,_),(2,_),(3,_),(10,_),(11,_)]:=⟨‹_›,‹_›,‹_›,‹_›,‹_›,trivial⟩;obtain _ | k7:=n;cases h;exact ⟨_,rfl,by rw [<- eQ e];exact Eq.trans (by kernel_rfl) h⟩;cases h) λk7=>af.no))))
theorem bZ.eqX (ae:ac8) (aa:Int) (ac:Int) (aJ:Sl) (ak:Int) (bX:Int) (H:Hp):EX (bH (bZ.cs F ae)) bZ.pn (bZ.lh F ae) F Try.f206 [(.agg [(.int .i64 aa),(.int .i64 ac),(.sl aJ)]),(.int .i64 ak),(.int .i64 bX)] H=bZ.twX F ae aa ac aJ ak bX H:=by kernel_rfl
theorem bZ.k:Ok Try.prog 206 (mk10 (bZ.tw F)):=by
 intro args H v H' h
 unfold mk10 at h
 split at h
 ·exact okT (TB:=bZ.tb) Try.func206 (bl (aS.k F) cV) (bZ.loops F (aS.tw F)) ((bZ.eqX F (aS.tw F) _ _ _ _ _ H).trans h) (by kernel_rfl)
 ·cases h
def ee.twX (F:Nat) (aa:Int) (ac:Int) (aJ:Sl) (ak:Int) (H:Hp):OA:=(Hp.new H [(.int .i64 aa),(.int .i64 ac),(.sl aJ)]).bind λH5=>(Hp.ldSl H5 H.length 2).bind λs6=>(Hp.ldI H5 .i64 H.length 1).bind λn7=>(Hp.ldI H5 .i64 H.length 1).bind λn8=>(Sl.cut s6 1 (wrap .i64 (ak * n7)) (wrap .i64 ((wrap .i64 (ak+1)) * n8))).bind λs9=>some ((.sl s9),H5)
def ee.tw:=ee.twX F
def mk11 (g:adk) (args:adg) (H:Hp):OA:=match args with
 | [(.agg [(.int .i64 aa),(.int .i64 ac),(.sl aJ)]),(.int .i64 ak)]=>g aa ac aJ ak H
 | _=>none
theorem mk11_E (g:adk) (aa:Int) (ac:Int) (aJ:Sl) (ak:Int) (H:Hp):mk11 g [(.agg [(.int .i64 aa),(.int .i64 ac),(.sl aJ)]),(.int .i64 ak)] H=g aa ac aJ ak H:=rfl
theorem ee.k:Ok Try.prog 128 (mk11 (ee.tw F)):=by
 intro args H v H' h
 unfold mk11 at h
 split at h
 ·exact ok0 Try.func128 (Eq.trans (by kernel_rfl) h) (by kernel_rfl) (by kernel_rfl)
 ·cases h
def bi.l32747 (F:Nat) (eL:ac_) (et:ac8) (eu:ac8) (ae:ac8) (bG:adk) :Nat->Nat->Nat->Int->Int->Int->Hp->OA
 | 0,_,_,_,_,_,_=>none
 | Tt+1,oy,oz,lp,mC,kj,H159=>(bif (decide (kj<mC)) then ((Hp.ldI H159 .i64 oy (oz+3)).bind λn172=>(Hp.ldI H159 .i64 oy ((oz+3)+1)).bind λn173=>(Hp.ldSl H159 oy ((oz+3)+2)).bind λs174=>(ae n172 n173 s174 kj lp H159).bind λr175=>((r175.1).asP).bind λp176=>(if bh H159 r175.2 then ((Hp.ldI r175.2 .i64 oy (oz+3)).bind λn177=>(Hp.ldI r175.2 .i64 oy ((oz+3)+1)).bind λn178=>(Hp.ldSl r175.2 oy ((oz+3)+2)).bind λs179=>(ae n177 n178 s179 kj lp r175.2).bind λr180=>((r180.1).asP).bind λp181=>(Hp.ldI r180.2 .i64 p181.1 p181.2).bind λn182=>(Hp.st r180.2 p176.1 p176.2 (.int .i64 (wrap .i64 (0 - n182)))).bind λH183=>bi.l32747 F eL et eu ae bG Tt oy oz lp mC (wrap .i64 (kj+1)) H183) else none)) else (some ((.bool true),H159)))
termination_by structural n=>n
def bi.j3 (eL:ac_) (et:ac8) (eu:ac8) (ae:ac8) (bG:adk) (Lw:Nat) (Lx:Nat) (tC:Int) (H142:Hp):OA:=(Hp.ldI H142 .i64 Lw (Lx+3)).bind λn143=>bi.l32747 F eL et eu ae bG F Lw Lx tC n143 0 H142
def bi.j4 (F:Nat) (eL:ac_) (et:ac8) (eu:ac8) (ae:ac8) (bG:adk) (C32745_:adY) (Tu:Nat) (Tv:Nat) (Tw:Int) (Tx:Sl) (Ty:Int) (Tz:Int) (H242:Hp):OA:=C32745_ Tu Tv Tw Tx Ty (wrap .i64 (Tz+1)) H242
def bi.j5 (eL:ac_) (et:ac8) (eu:ac8) (ae:ac8) (bG:adk) (C32745_:adY) (TA:Nat) (TC:Nat) (TE:Int) (TF:Sl) (TG:Int) (TH:Int) (H224:Hp):OA:=bi.j4 F eL et eu ae bG C32745_ TA TC TE TF TG TH H224
def bi.l2095707 (F:Nat) (eL:ac_) (et:ac8) (eu:ac8) (ae:ac8) (bG:adk) (C32745_:adY):Nat->Nat->Nat->Int->Sl->Int->Int->Sl->Int->Int->Hp->OA
 | 0,_,_,_,_,_,_,_,_,_,_=>none
 | TJ+1,zx,zy,zA,zB,zC,zD,wY,zE,tD,H202=>(bif (decide (tD<zE)) then ((Sl.idx wY tD 1).bind λp243=>(Hp.ldI H202 .i64 p243.1 p243.2).bind λn244=>(Sl.idx wY tD 1).bind λp245=>(Hp.st H202 p245.1 p245.2 (.int .i64 (wrap .i64 (0 - n244)))).bind λH246=>bi.l2095707 F eL et eu ae bG C32745_ TJ zx zy zA zB zC zD wY zE (wrap .i64 (tD+1)) H246) else (bi.j5 F eL et eu ae bG C32745_ zx zy zA zB zC zD H202))
termination_by structural n=>n
def bi.l32745 (F:Nat) (eL:ac_) (et:ac8) (eu:ac8) (ae:ac8) (bG:adk) :Nat->Nat->Nat->Int->Sl->Int->Int->Hp->OA
 | 0,_,_,_,_,_,_,_=>none
 | Ex+1,mD,mE,hQ,zF,zG,wZ,H65=>(bif (decide (wZ<zG)) then ((Sl.idx zF wZ 1).bind λp184=>(Hp.ldSl H65 p184.1 p184.2).bind λs185=>bi.l2095707 F eL et eu ae bG (bi.l32745 F eL et eu ae bG Ex) F mD mE hQ zF zG wZ s185 (s185.n:Int) 0 H65) else (bi.j3 F eL et eu ae bG mD mE hQ H65))
termination_by structural n=>n
def bi.twX (eL:ac_) (et:ac8) (eu:ac8) (ae:ac8) (bG:adk) (aa:Nat) (ac:Nat) (ai:Int) (H:Hp):OA:=(eL aa ac ai H).bind λr4=>((r4.1).asTup 3).bind λl5=>(l5[0]?).bind λv6=>((v6).asI .i64).bind λn7=>(l5[1]?).bind λv8=>((v8).asI .i64).bind λn9=>(l5[2]?).bind λv10=>((v10).asB).bind λb11=>(bif (!b11) then (some ((.bool false),r4.2)) else ((Hp.ldI r4.2 .i64 aa (ac+6)).bind λn12=>(Hp.ldI r4.2 .i64 aa ((ac+6)+1)).bind λn13=>(Hp.ldSl r4.2 aa ((ac+6)+2)).bind λs14=>(et n12 n13 s14 n7 ai r4.2).bind λr15=>(Hp.ldI r15.2 .i64 aa ac).bind λn16=>(Hp.ldI r15.2 .i64 aa (ac+1)).bind λn17=>(Hp.ldSl r15.2 aa (ac+2)).bind λs18=>(et n16 n17 s18 n7 ai r15.2).bind λr19=>(Hp.ldI r19.2 .i64 aa (ac+3)).bind λn20=>(Hp.ldI r19.2 .i64 aa ((ac+3)+1)).bind λn21=>(Hp.ldSl r19.2 aa ((ac+3)+2)).bind λs22=>(eu n20 n21 s22 n7 ai r19.2).bind λr23=>(Hp.ldI r23.2 .i64 aa (ac+6)).bind λn24=>(Hp.ldI r23.2 .i64 aa ((ac+6)+1)).bind λn25=>(Hp.ldSl r23.2 aa ((ac+6)+2)).bind λs26=>(eu n24 n25 s26 n9 ai r23.2).bind λr27=>(Hp.ldI r27.2 .i64 aa (ac+9)).bind λn28=>(Hp.ldI r27.2 .i64 aa ((ac+9)+1)).bind λn29=>(Hp.ldSl r27.2 aa ((ac+9)+2)).bind λs30=>(eu n28 n29 s30 n9 ai r27.2).bind λr31=>(Hp.ldI r31.2 .i64 aa (ac+12)).bind λn32=>(Hp.ldI r31.2 .i64 aa ((ac+12)+1)).bind λn33=>(Hp.ldSl r31.2 aa ((ac+12)+2)).bind λs34=>(et n32 n33 s34 n9 ai r31.2).bind λr35=>(Hp.ldI r35.2 .i64 aa (ac+6)).bind λn36=>(Hp.ldI r35.2 .i64 aa ((ac+6)+1)).bind λn37=>(Hp.ldSl r35.2 aa ((ac+6)+2)).bind λs38=>(ae n36 n37 s38 ai ai r35.2).bind λr39=>((r39.1).asP).bind λp40=>(Hp.ldI r39.2 .i64 p40.1 p40.2).bind λn41=>(bif (decide (n41<0)) then ((Hp.ldI r39.2 .i64 aa (ac+6)).bind λn42=>(Hp.ldI r39.2 .i64 aa ((ac+6)+1)).bind λn43=>(Hp.ldSl r39.2 aa ((ac+6)+2)).bind λs44=>(bG n42 n43 s44 ai r39.2).bind λr45=>((r45.1).asSl).bind λs46=>(if bh r39.2 r45.2 then ((Hp.ldI r45.2 .i64 aa ac).bind λn47=>(Hp.ldI r45.2 .i64 aa (ac+1)).bind λn48=>(Hp.ldSl r45.2 aa (ac+2)).bind λs49=>(bG n47 n48 s49 ai r45.2).bind λr50=>((r50.1).asSl).bind λs51=>(Hp.new r50.2 [(.sl s46),(.sl s51)]).bind λH52=>bi.l32745 F eL et eu ae bG F aa ac ai (⟨some (r50.2.length,0),2,.ex 2⟩:Sl) ((⟨some (r50.2.length,0),2,.ex 2⟩:Sl).n:Int) 0 H52) else none)) else (some ((.bool true),r39.2)))))
def bi.tw:=bi.twX F (aG.tw F) (bY.tw F) (bZ.tw F) (aS.tw F) (ee.tw F)
def bi.lh32745 (eL:ac_) (et:ac8) (eu:ac8) (ae:ac8) (bG:adk) (ks:adc) (n:Nat) (tm:Tm) (H:Hp):OA:=match ks,tm 0,tm 1,tm 94,tm 95,tm 96 with
 | [],(.ptr mD mE),(.int .i64 hQ),(.sl zF),(.int .i64 zG),(.int .i64 wZ)=>bi.l32745 F eL et eu ae bG n mD mE hQ zF zG wZ H
 | _,_,_,_,_,_=>none
def bi.lh32747 (eL:ac_) (et:ac8) (eu:ac8) (ae:ac8) (bG:adk) (ks:adc) (n:Nat) (tm:Tm) (H:Hp):OA:=match ks,tm 0,tm 1,tm 120,tm 121 with
 | [],(.ptr oy oz),(.int .i64 lp),(.int .i64 mC),(.int .i64 kj)=>bi.l32747 F eL et eu ae bG n oy oz lp mC kj H
 | _,_,_,_,_=>none
def bi.lh2095707 (eL:ac_) (et:ac8) (eu:ac8) (ae:ac8) (bG:adk) (ks:adc) (n:Nat) (tm:Tm) (H:Hp):OA:=match ks,tm 0,tm 1,tm 9,tm 94,tm 95,tm 96,tm 101,tm 102 with
 | [Ex],(.ptr zx zy),(.int .i64 zA),(.sl wY),(.sl zB),(.int .i64 zC),(.int .i64 zD),(.int .i64 zE),(.int .i64 tD)=>bi.l2095707 F eL et eu ae bG (bi.l32745 F eL et eu ae bG Ex) n zx zy zA zB zC zD wY zE tD H
 | _,_,_,_,_,_,_,_,_=>none
def bi.lh (eL:ac_) (et:ac8) (eu:ac8) (ae:ac8) (bG:adk) (p:Nat) (ks:adc) (n:Nat) (tm:Tm) (H:Hp):OA:=bif p.beq 2095707 then bi.lh2095707 F eL et eu ae bG ks n tm H else (bif p.beq 32747 then bi.lh32747 F eL et eu ae bG ks n tm H else (bif p.beq 32745 then bi.lh32745 F eL et eu ae bG ks n tm H else (none)))
def bi.pn:Nat->List Nat:=eP [(11,[13]),(23,[15,20])]
def bi.tb:Nat->List (List Nat):=eP [(11,[[],[0],[0,1],[0,1,2],[0,1,2,3],[],[0,1,2,3,4,5],[],[7],[7,8],[7,8,9],[7,8,9,10],[],[0,1,2,3,4,5,6,7,8,9,10,11,12],[0,1,2,3,4,5,6,7,8,9,10,11,12,13],[0,1,2,3,4,5,6,7,8,9,10,11,12,13,14],[]]),(23,[[],[0],[0,1],[0,1,2],[0,1,2,3],[],[],[0,1,2,3,4,5,6],[],[8],[8,9],[8,9,10],[8,9,10,11],[],[],[0,1,2,3,4,5,6,7,8,9,10,11,12,13,14],[0,1,2,3,4,5,6,7,8,9,10,11,12,13,14,15],[0,1,2,3,4,5,6,7,8,9,10,11,12,13,14,15,16],[0,1,2,3,4,5,6,7,8,9,10,11,12,13,14,15,16,17],[0,1,2,3,4,5,6,7,8,9,10,11,12,13,14,15,16,17,18],[0,1,2,3,4,5,6,7,8,9,10,11,12,13,14,15,16,17,18,19]])]
def bi.cs (F:Nat) (eL:ac_) (et:ac8) (eu:ac8) (ae:ac8) (bG:adk):Cs:=[(204,mk2 eL),(205,mk10 et),(206,mk10 eu),(75,mk10 ae),(128,mk11 bG)]
theorem bi.loops (eL:ac_) (et:ac8) (eu:ac8) (ae:ac8) (bG:adk):LO (bH (bi.cs F eL et eu ae bG)) bi.pn (bi.lh F eL et eu ae bG) F Try.f173:=
 (af.rt (af.rt (af.rt (af.rt (af.rt (af.rt (af.rt (af.rt (af.rt (af.lt (af.rt (af.cond (af.seq (af.rt (af.block (af.la (λn tm H r h=>by change bi.lh32745 F eL et eu ae bG [] n tm H=_ at h;unfold bi.lh32745 at h;split at h;have e:eH tm [(0,_),(1,_),(94,_),(95,_),(96,_)]:=⟨‹_›,‹_›,‹_›,‹_›,‹_›,trivial⟩;obtain _ | k32745:=n;cases h;exact ⟨_,rfl,by rw [<- eQ e];exact Eq.trans (by kernel_rfl) h⟩;cases h) λk32745=>(af.rt (af.rt (af.lt (af.block (af.rt (af.rt (af.block (af.la (λn tm H r h=>by change bi.lh2095707 F eL et eu ae bG [k32745] n tm H=_ at h;unfold bi.lh2095707 at h;split at h;have e:eH tm [(0,_),(1,_),(9,_),(94,_),(95,_),(96,_),(101,_),(102,_)]:=⟨‹_›,‹_›,‹_›,‹_›,‹_›,‹_›,‹_›,‹_›,trivial⟩;cases (show [k32745]=_ from ‹_›);obtain _ | k2095707:=n;cases h;exact ⟨_,rfl,by rw [<- eQ e];exact Eq.trans (by kernel_rfl) h⟩;cases h) λk2095707=>af.no))))))))))) (af.rt (af.block (af.la (λn tm H r h=>by change bi.lh32747 F eL et eu ae bG [] n tm H=_ at h;unfold bi.lh32747 at h;split at h;have e:eH tm [(0,_),(1,_),(120,_),(121,_)]:=⟨‹_›,‹_›,‹_›,‹_›,trivial⟩;obtain _ | k32747:=n;cases h;exact ⟨_,rfl,by rw [<- eQ e];exact Eq.trans (by kernel_rfl) h⟩;cases h) λk32747=>af.no)))) af.no))))))))))))
theorem bi.eqX (eL:ac_) (et:ac8) (eu:ac8) (ae:ac8) (bG:adk) (aa:Nat) (ac:Nat) (ai:Int) (H:Hp):EX (bH (bi.cs F eL et eu ae bG)) bi.pn (bi.lh F eL et eu ae bG) F Try.f173 [(.ptr aa ac),(.int .i64 ai)] H=bi.twX F eL et eu ae bG aa ac ai H:=by kernel_rfl
theorem bi.k:Ok Try.prog 173 (mk2 (bi.tw F)):=by
 intro args H v H' h
 unfold mk2 at h
 split at h
 ·exact okT (TB:=bi.tb) Try.func173 (bl (aG.k F) (bl (bY.k F) (bl (bZ.k F) (bl (aS.k F) (bl (ee.k F) cV))))) (bi.loops F (aG.tw F) (bY.tw F) (bZ.tw F) (aS.tw F) (ee.tw F)) ((bi.eqX F (aG.tw F) (bY.tw F) (bZ.tw F) (aS.tw F) (ee.tw F) _ _ _ H).trans h) (by kernel_rfl)
 ·cases h
def gC.twX (F:Nat) (aa:Int) (ax:Int) (H:Hp):OA:=(if ax=0 then none else ((if ax=0 then none else ((bif (decide ((Int.tmod aa ax)<0)) then (some ((.int .i64 (wrap .i64 ((wrap .i64 (Int.tdiv aa ax)) - 1))),H)) else (some ((.int .i64 (wrap .i64 (Int.tdiv aa ax))),H)))))))
def gC.tw:=gC.twX F
theorem gC.k:Ok Try.prog 207 (mk3 (gC.tw F)):=by
 intro args H v H' h
 unfold mk3 at h
 split at h
 ·exact ok0 Try.func207 (Eq.trans (by kernel_rfl) h) (by kernel_rfl) (by kernel_rfl)
 ·cases h
def eM.twX (F:Nat) (bQ:adb) (aa:Int) (ax:Int) (eF:Int) (H:Hp):OA:=(bif (aa != 0) then ((bQ ax H).bind λr4=>((r4.1).asI .i64).bind λn5=>(bQ aa r4.2).bind λr6=>((r6.1).asI .i64).bind λn7=>(if n7=0 then none else ((bif (decide (n5>(wrap .i64 (Int.tdiv eF n7)))) then (some ((.tup [(.int .i64 0),(.bool false)]),r6.2)) else (some ((.tup [(.int .i64 (wrap .i64 (aa * ax))),(.bool true)]),r6.2)))))) else (some ((.tup [(.int .i64 (wrap .i64 (aa * ax))),(.bool true)]),H)))
def eM.tw:=eM.twX F (cP.tw F)
def eM.cs (F:Nat) (bQ:adb):Cs:=[(97,mk7 bQ)]
theorem eM.eqX (bQ:adb) (aa:Int) (ax:Int) (eF:Int) (H:Hp):EX (bH (eM.cs F bQ)) bI lh0 F Try.f172 [(.int .i64 aa),(.int .i64 ax),(.int .i64 eF)] H=eM.twX F bQ aa ax eF H:=by kernel_rfl
theorem eM.k:Ok Try.prog 172 (mk6 (eM.tw F)):=by
 intro args H v H' h
 unfold mk6 at h
 split at h
 ·exact okT (TB:=bI) Try.func172 (bl (cP.k F) cV) af.no ((eM.eqX F (cP.tw F) _ _ _ H).trans h) (by kernel_rfl)
 ·cases h
def fI.twX (F:Nat) (g_:adi) (bQ:adb) (aa:Nat) (ac:Nat) (ai:Nat) (ak:Nat) (bX:Int) (jF:Int) (H:Hp):OA:=(g_ bX jF 2000000000000 H).bind λr7=>((r7.1).asTup 2).bind λl8=>(l8[0]?).bind λv9=>((v9).asI .i64).bind λn10=>(l8[1]?).bind λv11=>((v11).asB).bind λb12=>(Hp.ldI r7.2 .i64 ai ak).bind λn13=>(Hp.st r7.2 ai ak (.int .i64 (wrap .i64 (n13+n10)))).bind λH14=>(bif (!b12) then ((Hp.st H14 aa (ac+15) (.bool true)).bind λH15=>(Hp.st H15 ai ak (.int .i64 0)).bind λH16=>some ((.tup []),H16)) else ((Hp.ldI H14 .i64 ai ak).bind λn17=>(bQ n17 H14).bind λr18=>((r18.1).asI .i64).bind λn19=>(bif (decide (n19>1000000000000)) then ((Hp.st r18.2 aa (ac+15) (.bool true)).bind λH20=>(Hp.st H20 ai ak (.int .i64 0)).bind λH21=>some ((.tup []),H21)) else (some ((.tup []),r18.2)))))
def fI.tw:=fI.twX F (eM.tw F) (cP.tw F)
def mk12 (g:adq) (args:adg) (H:Hp):OA:=match args with
 | [(.ptr aa ac),(.ptr ai ak),(.int .i64 bX),(.int .i64 jF)]=>g aa ac ai ak bX jF H
 | _=>none
theorem mk12_E (g:adq) (aa:Nat) (ac:Nat) (ai:Nat) (ak:Nat) (bX:Int) (jF:Int) (H:Hp):mk12 g [(.ptr aa ac),(.ptr ai ak),(.int .i64 bX),(.int .i64 jF)] H=g aa ac ai ak bX jF H:=rfl
def fI.cs (F:Nat) (g_:adi) (bQ:adb):Cs:=[(172,mk6 g_),(97,mk7 bQ)]
theorem fI.eqX (g_:adi) (bQ:adb) (aa:Nat) (ac:Nat) (ai:Nat) (ak:Nat) (bX:Int) (jF:Int) (H:Hp):EX (bH (fI.cs F g_ bQ)) bI lh0 F Try.f217 [(.ptr aa ac),(.ptr ai ak),(.int .i64 bX),(.int .i64 jF)] H=fI.twX F g_ bQ aa ac ai ak bX jF H:=by kernel_rfl
theorem fI.k:Ok Try.prog 217 (mk12 (fI.tw F)):=by
 intro args H v H' h
 unfold mk12 at h
 split at h
 ·exact okT (TB:=bI) Try.func217 (bl (eM.k F) (bl (cP.k F) cV)) af.no ((fI.eqX F (eM.tw F) (cP.tw F) _ _ _ _ _ _ H).trans h) (by kernel_rfl)
 ·cases h
def bV.l7 (F:Nat) (ae:ac8) (eU:adq) :Nat->Nat->Nat->Int->Int->Int->Nat->Nat->Int->Int->Hp->OA
 | 0,_,_,_,_,_,_,_,_,_,_=>none
 | qN+1,jv,jw,es,fD,gG,gH,jl,gI,fh,H23=>(bif (decide (fh<gI)) then ((Hp.ldI H23 .i64 gH jl).bind λn36=>(Hp.ldI H23 .i64 gH (jl+1)).bind λn37=>(Hp.ldSl H23 gH (jl+2)).bind λs38=>(ae n36 n37 s38 es fh H23).bind λr39=>((r39.1).asP).bind λp40=>(if bh H23 r39.2 then ((Hp.ldI r39.2 .i64 gH jl).bind λn41=>(Hp.ldI r39.2 .i64 gH (jl+1)).bind λn42=>(Hp.ldSl r39.2 gH (jl+2)).bind λs43=>(ae n41 n42 s43 fD fh r39.2).bind λr44=>((r44.1).asP).bind λp45=>(Hp.ldI r44.2 .i64 p45.1 p45.2).bind λn46=>(eU jv jw p40.1 p40.2 n46 gG r44.2).bind λr47=>bV.l7 F ae eU qN jv jw es fD gG gH jl gI (wrap .i64 (fh+1)) r47.2) else none)) else (some ((.tup []),H23)))
termination_by structural n=>n
def bV.twX (ae:ac8) (eU:adq) (aa:Nat) (ac:Nat) (ai:Int) (ak:Int) (aO:Sl) (fS:Int) (fT:Int) (fM:Int) (H:Hp):OA:=(Hp.new H [(.int .i64 ai),(.int .i64 ak),(.sl aO)]).bind λH9=>(Hp.ldI H9 .i64 H.length 1).bind λn10=>bV.l7 F ae eU F aa ac fS fT fM H.length 0 n10 0 H9
def bV.tw:=bV.twX F (aS.tw F) (fI.tw F)
def bV.lh7 (ae:ac8) (eU:adq) (ks:adc) (n:Nat) (tm:Tm) (H:Hp):OA:=match ks,tm 0,tm 2,tm 3,tm 4,tm 6,tm 12,tm 13 with
 | [],(.ptr jv jw),(.int .i64 es),(.int .i64 fD),(.int .i64 gG),(.ptr gH jl),(.int .i64 gI),(.int .i64 fh)=>bV.l7 F ae eU n jv jw es fD gG gH jl gI fh H
 | _,_,_,_,_,_,_,_=>none
def bV.lh (ae:ac8) (eU:adq) (p:Nat) (ks:adc) (n:Nat) (tm:Tm) (H:Hp):OA:=bif p.beq 7 then bV.lh7 F ae eU ks n tm H else (none)
def bV.pn:Nat->List Nat:=eP [(4,[8,12])]
def bV.tb:Nat->List (List Nat):=eP [(4,[[],[],[],[],[1,2,3],[],[],[],[1,2,3,4,5,6,7],[1,2,3,4,5,6,7,8],[1,2,3,4,5,6,7,8,9],[],[0,1,2,3,4,5,6,7,8,9,10,11]])]
def mk13 (g:ads) (args:adg) (H:Hp):OA:=match args with
 | [(.ptr aa ac),(.agg [(.int .i64 ai),(.int .i64 ak),(.sl aO)]),(.int .i64 fS),(.int .i64 fT),(.int .i64 fM)]=>g aa ac ai ak aO fS fT fM H
 | _=>none
theorem mk13_E (g:ads) (aa:Nat) (ac:Nat) (ai:Int) (ak:Int) (aO:Sl) (fS:Int) (fT:Int) (fM:Int) (H:Hp):mk13 g [(.ptr aa ac),(.agg [(.int .i64 ai),(.int .i64 ak),(.sl aO)]),(.int .i64 fS),(.int .i64 fT),(.int .i64 fM)] H=g aa ac ai ak aO fS fT fM H:=rfl
def bV.cs (F:Nat) (ae:ac8) (eU:adq):Cs:=[(75,mk10 ae),(217,mk12 eU)]
theorem bV.loops (ae:ac8) (eU:adq):LO (bH (bV.cs F ae eU)) bV.pn (bV.lh F ae eU) F Try.f211:=
 (af.rt (af.rt (af.block (af.la (λn tm H r h=>by change bV.lh7 F ae eU [] n tm H=_ at h;unfold bV.lh7 at h;split at h;have e:eH tm [(0,_),(2,_),(3,_),(4,_),(6,_),(12,_),(13,_)]:=⟨‹_›,‹_›,‹_›,‹_›,‹_›,‹_›,‹_›,trivial⟩;obtain _ | k7:=n;cases h;exact ⟨_,rfl,by rw [<- eQ e];exact Eq.trans (by kernel_rfl) h⟩;cases h) λk7=>af.no))))
theorem bV.eqX (ae:ac8) (eU:adq) (aa:Nat) (ac:Nat) (ai:Int) (ak:Int) (aO:Sl) (fS:Int) (fT:Int) (fM:Int) (H:Hp):EX (bH (bV.cs F ae eU)) bV.pn (bV.lh F ae eU) F Try.f211 [(.ptr aa ac),(.agg [(.int .i64 ai),(.int .i64 ak),(.sl aO)]),(.int .i64 fS),(.int .i64 fT),(.int .i64 fM)] H=bV.twX F ae eU aa ac ai ak aO fS fT fM H:=by kernel_rfl
theorem bV.k:Ok Try.prog 211 (mk13 (bV.tw F)):=by
 intro args H v H' h
 unfold mk13 at h
 split at h
 ·exact okT (TB:=bV.tb) Try.func211 (bl (aS.k F) (bl (fI.k F) cV)) (bV.loops F (aS.tw F) (fI.tw F)) ((bV.eqX F (aS.tw F) (fI.tw F) _ _ _ _ _ _ _ _ H).trans h) (by kernel_rfl)
 ·cases h
def bW.l7 (F:Nat) (ae:ac8) (eU:adq) :Nat->Nat->Nat->Int->Int->Int->Nat->Nat->Int->Int->Hp->OA
 | 0,_,_,_,_,_,_,_,_,_,_=>none
 | qN+1,jv,jw,es,fD,gG,gH,jl,gI,fh,H23=>(bif (decide (fh<gI)) then ((Hp.ldI H23 .i64 gH jl).bind λn36=>(Hp.ldI H23 .i64 gH (jl+1)).bind λn37=>(Hp.ldSl H23 gH (jl+2)).bind λs38=>(ae n36 n37 s38 fh es H23).bind λr39=>((r39.1).asP).bind λp40=>(if bh H23 r39.2 then ((Hp.ldI r39.2 .i64 gH jl).bind λn41=>(Hp.ldI r39.2 .i64 gH (jl+1)).bind λn42=>(Hp.ldSl r39.2 gH (jl+2)).bind λs43=>(ae n41 n42 s43 fh fD r39.2).bind λr44=>((r44.1).asP).bind λp45=>(Hp.ldI r44.2 .i64 p45.1 p45.2).bind λn46=>(eU jv jw p40.1 p40.2 n46 gG r44.2).bind λr47=>bW.l7 F ae eU qN jv jw es fD gG gH jl gI (wrap .i64 (fh+1)) r47.2) else none)) else (some ((.tup []),H23)))
termination_by structural n=>n
def bW.twX (ae:ac8) (eU:adq) (aa:Nat) (ac:Nat) (ai:Int) (ak:Int) (aO:Sl) (fS:Int) (fT:Int) (fM:Int) (H:Hp):OA:=(Hp.new H [(.int .i64 ai),(.int .i64 ak),(.sl aO)]).bind λH9=>(Hp.ldI H9 .i64 H.length 0).bind λn10=>bW.l7 F ae eU F aa ac fS fT fM H.length 0 n10 0 H9
def bW.tw:=bW.twX F (aS.tw F) (fI.tw F)
def bW.lh7 (ae:ac8) (eU:adq) (ks:adc) (n:Nat) (tm:Tm) (H:Hp):OA:=match ks,tm 0,tm 2,tm 3,tm 4,tm 6,tm 12,tm 13 with
 | [],(.ptr jv jw),(.int .i64 es),(.int .i64 fD),(.int .i64 gG),(.ptr gH jl),(.int .i64 gI),(.int .i64 fh)=>bW.l7 F ae eU n jv jw es fD gG gH jl gI fh H
 | _,_,_,_,_,_,_,_=>none
def bW.lh (ae:ac8) (eU:adq) (p:Nat) (ks:adc) (n:Nat) (tm:Tm) (H:Hp):OA:=bif p.beq 7 then bW.lh7 F ae eU ks n tm H else (none)
def bW.pn:Nat->List Nat:=eP [(4,[8,12])]
def bW.tb:Nat->List (List Nat):=eP [(4,[[],[],[],[],[1,2,3],[],[],[],[1,2,3,4,5,6,7],[1,2,3,4,5,6,7,8],[1,2,3,4,5,6,7,8,9],[],[0,1,2,3,4,5,6,7,8,9,10,11]])]
def bW.cs (F:Nat) (ae:ac8) (eU:adq):Cs:=[(75,mk10 ae),(217,mk12 eU)]
theorem bW.loops (ae:ac8) (eU:adq):LO (bH (bW.cs F ae eU)) bW.pn (bW.lh F ae eU) F Try.f212:=
 (af.rt (af.rt (af.block (af.la (λn tm H r h=>by change bW.lh7 F ae eU [] n tm H=_ at h;unfold bW.lh7 at h;split at h;have e:eH tm [(0,_),(2,_),(3,_),(4,_),(6,_),(12,_),(13,_)]:=⟨‹_›,‹_›,‹_›,‹_›,‹_›,‹_›,‹_›,trivial⟩;obtain _ | k7:=n;cases h;exact ⟨_,rfl,by rw [<- eQ e];exact Eq.trans (by kernel_rfl) h⟩;cases h) λk7=>af.no))))
theorem bW.eqX (ae:ac8) (eU:adq) (aa:Nat) (ac:Nat) (ai:Int) (ak:Int) (aO:Sl) (fS:Int) (fT:Int) (fM:Int) (H:Hp):EX (bH (bW.cs F ae eU)) bW.pn (bW.lh F ae eU) F Try.f212 [(.ptr aa ac),(.agg [(.int .i64 ai),(.int .i64 ak),(.sl aO)]),(.int .i64 fS),(.int .i64 fT),(.int .i64 fM)] H=bW.twX F ae eU aa ac ai ak aO fS fT fM H:=by kernel_rfl
theorem bW.k:Ok Try.prog 212 (mk13 (bW.tw F)):=by
 intro args H v H' h
 unfold mk13 at h
 split at h
 ·exact okT (TB:=bW.tb) Try.func212 (bl (aS.k F) (bl (fI.k F) cV)) (bW.loops F (aS.tw F) (fI.tw F)) ((bW.eqX F (aS.tw F) (fI.tw F) _ _ _ _ _ _ _ _ H).trans h) (by kernel_rfl)
 ·cases h
def ef.twX (F:Nat) (kS:ads) (kT:ads) (aa:Nat) (ac:Nat) (ai:Int) (bP:Int) (eg:Int) (H:Hp):OA:=(Hp.ldI H .i64 aa (ac+6)).bind λn6=>(Hp.ldI H .i64 aa ((ac+6)+1)).bind λn7=>(Hp.ldSl H aa ((ac+6)+2)).bind λs8=>(kS aa ac n6 n7 s8 ai bP eg H).bind λr9=>(Hp.ldI r9.2 .i64 aa ac).bind λn10=>(Hp.ldI r9.2 .i64 aa (ac+1)).bind λn11=>(Hp.ldSl r9.2 aa (ac+2)).bind λs12=>(kS aa ac n10 n11 s12 ai bP eg r9.2).bind λr13=>(Hp.ldI r13.2 .i64 aa (ac+3)).bind λn14=>(Hp.ldI r13.2 .i64 aa ((ac+3)+1)).bind λn15=>(Hp.ldSl r13.2 aa ((ac+3)+2)).bind λs16=>(kT aa ac n14 n15 s16 bP ai (wrap .i64 (0 - eg)) r13.2).bind λr17=>some ((.tup []),r17.2)
def ef.tw:=ef.twX F (bV.tw F) (bW.tw F)
def mk14 (g:adh) (args:adg) (H:Hp):OA:=match args with
 | [(.ptr aa ac),(.int .i64 ai),(.int .i64 bP),(.int .i64 eg)]=>g aa ac ai bP eg H
 | _=>none
theorem mk14_E (g:adh) (aa:Nat) (ac:Nat) (ai:Int) (bP:Int) (eg:Int) (H:Hp):mk14 g [(.ptr aa ac),(.int .i64 ai),(.int .i64 bP),(.int .i64 eg)] H=g aa ac ai bP eg H:=rfl
def ef.cs (F:Nat) (kS:ads) (kT:ads):Cs:=[(211,mk13 kS),(212,mk13 kT)]
theorem ef.eqX (kS:ads) (kT:ads) (aa:Nat) (ac:Nat) (ai:Int) (bP:Int) (eg:Int) (H:Hp):EX (bH (ef.cs F kS kT)) bI lh0 F Try.f177 [(.ptr aa ac),(.int .i64 ai),(.int .i64 bP),(.int .i64 eg)] H=ef.twX F kS kT aa ac ai bP eg H:=by kernel_rfl
theorem ef.k:Ok Try.prog 177 (mk14 (ef.tw F)):=by
 intro args H v H' h
 unfold mk14 at h
 split at h
 ·exact okT (TB:=bI) Try.func177 (bl (bV.k F) (bl (bW.k F) cV)) af.no ((ef.eqX F (bV.tw F) (bW.tw F) _ _ _ _ _ H).trans h) (by kernel_rfl)
 ·cases h
def fN.twX (F:Nat) (kT:ads) (kS:ads) (aa:Nat) (ac:Nat) (ai:Int) (bP:Int) (eg:Int) (H:Hp):OA:=(Hp.ldI H .i64 aa (ac+6)).bind λn6=>(Hp.ldI H .i64 aa ((ac+6)+1)).bind λn7=>(Hp.ldSl H aa ((ac+6)+2)).bind λs8=>(kT aa ac n6 n7 s8 ai bP eg H).bind λr9=>(Hp.ldI r9.2 .i64 aa (ac+9)).bind λn10=>(Hp.ldI r9.2 .i64 aa ((ac+9)+1)).bind λn11=>(Hp.ldSl r9.2 aa ((ac+9)+2)).bind λs12=>(kT aa ac n10 n11 s12 ai bP eg r9.2).bind λr13=>(Hp.ldI r13.2 .i64 aa (ac+12)).bind λn14=>(Hp.ldI r13.2 .i64 aa ((ac+12)+1)).bind λn15=>(Hp.ldSl r13.2 aa ((ac+12)+2)).bind λs16=>(kS aa ac n14 n15 s16 bP ai (wrap .i64 (0 - eg)) r13.2).bind λr17=>some ((.tup []),r17.2)
def fN.tw:=fN.twX F (bW.tw F) (bV.tw F)
def fN.cs (F:Nat) (kT:ads) (kS:ads):Cs:=[(212,mk13 kT),(211,mk13 kS)]
theorem fN.eqX (kT:ads) (kS:ads) (aa:Nat) (ac:Nat) (ai:Int) (bP:Int) (eg:Int) (H:Hp):EX (bH (fN.cs F kT kS)) bI lh0 F Try.f208 [(.ptr aa ac),(.int .i64 ai),(.int .i64 bP),(.int .i64 eg)] H=fN.twX F kT kS aa ac ai bP eg H:=by kernel_rfl
theorem fN.k:Ok Try.prog 208 (mk14 (fN.tw F)):=by
 intro args H v H' h
 unfold mk14 at h
 split at h
 ·exact okT (TB:=bI) Try.func208 (bl (bW.k F) (bl (bV.k F) cV)) af.no ((fN.eqX F (bW.tw F) (bV.tw F) _ _ _ _ _ H).trans h) (by kernel_rfl)
 ·cases h
def aE.j3 (F:Nat) (ae:ac8) (eV:adf) (cg:adh) (e_:adh) (C15_:adS) (TK:Nat) (TL:Nat) (tE:Int) (zH:Nat) (TN:Nat) (tF:Int) (H119:Hp):OA:=C15_ TK TL tE zH TN (wrap .i64 (tF+1)) H119
def aE.l15 (F:Nat) (ae:ac8) (eV:adf) (cg:adh) (e_:adh) :Nat->Nat->Nat->Int->Nat->Nat->Int->Hp->OA
 | 0,_,_,_,_,_,_,_=>none
 | Ly+1,mD,mE,hQ,kl,mF,jG,H61=>(Hp.ldI H61 .i64 kl (mF+1)).bind λn91=>(bif (decide (jG<n91)) then ((Hp.ldB H61 mD (mE+15)).bind λb92=>(bif (!b92) then ((Hp.ldI H61 .i64 kl mF).bind λn93=>(Hp.ldI H61 .i64 kl (mF+1)).bind λn94=>(Hp.ldSl H61 kl (mF+2)).bind λs95=>(ae n93 n94 s95 hQ jG H61).bind λr96=>((r96.1).asP).bind λp97=>(if bh H61 r96.2 then ((Hp.ldI r96.2 .i64 p97.1 p97.2).bind λn98=>(Hp.ldI r96.2 .i64 kl mF).bind λn99=>(Hp.ldI r96.2 .i64 kl (mF+1)).bind λn100=>(Hp.ldSl r96.2 kl (mF+2)).bind λs101=>(ae n99 n100 s101 hQ hQ r96.2).bind λr102=>((r102.1).asP).bind λp103=>(if bh r96.2 r102.2 then ((Hp.ldI r102.2 .i64 p103.1 p103.2).bind λn104=>(eV n98 n104 r102.2).bind λr105=>((r105.1).asI .i64).bind λn106=>(bif (n106 != 0) then ((e_ mD mE jG hQ (wrap .i64 (0 - n106)) r105.2).bind λr107=>aE.j3 F ae eV cg e_ (aE.l15 F ae eV cg e_ Ly) mD mE hQ kl mF jG r107.2) else (aE.j3 F ae eV cg e_ (aE.l15 F ae eV cg e_ Ly) mD mE hQ kl mF jG r105.2))) else none)) else none)) else (some ((.tup []),H61)))) else (some ((.tup []),H61)))
termination_by structural n=>n
def aE.j4 (ae:ac8) (eV:adf) (cg:adh) (e_:adh) (TO:Nat) (TP:Nat) (pG:Int) (zI:Nat) (TQ:Nat) (H52:Hp):OA:=aE.l15 F ae eV cg e_ F TO TP pG zI TQ (wrap .i64 (pG+1)) H52
def aE.j5 (F:Nat) (ae:ac8) (eV:adf) (cg:adh) (e_:adh) (C13_:adS) (TS:Nat) (TT:Nat) (tG:Int) (zJ:Nat) (Ey:Nat) (tH:Int) (H146:Hp):OA:=C13_ TS TT tG zJ Ey (wrap .i64 (tH+1)) H146
def aE.l13 (F:Nat) (ae:ac8) (eV:adf) (cg:adh) (e_:adh) :Nat->Nat->Nat->Int->Nat->Nat->Int->Hp->OA
 | 0,_,_,_,_,_,_,_=>none
 | pB+1,jv,jw,dc,gj,lq,gS,H17=>(Hp.ldI H17 .i64 gj lq).bind λn120=>(bif (decide (gS<n120)) then ((Hp.ldB H17 jv (jw+15)).bind λb121=>(bif (!b121) then ((Hp.ldI H17 .i64 gj lq).bind λn122=>(Hp.ldI H17 .i64 gj (lq+1)).bind λn123=>(Hp.ldSl H17 gj (lq+2)).bind λs124=>(ae n122 n123 s124 gS dc H17).bind λr125=>((r125.1).asP).bind λp126=>(if bh H17 r125.2 then ((Hp.ldI r125.2 .i64 p126.1 p126.2).bind λn127=>(Hp.ldI r125.2 .i64 gj lq).bind λn128=>(Hp.ldI r125.2 .i64 gj (lq+1)).bind λn129=>(Hp.ldSl r125.2 gj (lq+2)).bind λs130=>(ae n128 n129 s130 dc dc r125.2).bind λr131=>((r131.1).asP).bind λp132=>(if bh r125.2 r131.2 then ((Hp.ldI r131.2 .i64 p132.1 p132.2).bind λn133=>(eV n127 n133 r131.2).bind λr134=>((r134.1).asI .i64).bind λn135=>(bif (n135 != 0) then ((cg jv jw gS dc (wrap .i64 (0 - n135)) r134.2).bind λr136=>aE.j5 F ae eV cg e_ (aE.l13 F ae eV cg e_ pB) jv jw dc gj lq gS r136.2) else (aE.j5 F ae eV cg e_ (aE.l13 F ae eV cg e_ pB) jv jw dc gj lq gS r134.2))) else none)) else none)) else (aE.j4 F ae eV cg e_ jv jw dc gj lq H17))) else (aE.j4 F ae eV cg e_ jv jw dc gj lq H17))
termination_by structural n=>n
def aE.twX (ae:ac8) (eV:adf) (cg:adh) (e_:adh) (aa:Nat) (ac:Nat) (ai:Int) (H:Hp):OA:=(Hp.ldI H .i64 aa (ac+6)).bind λn4=>(Hp.ldI H .i64 aa ((ac+6)+1)).bind λn5=>(Hp.ldSl H aa ((ac+6)+2)).bind λs6=>(Hp.new H [.int .i64 0,.int .i64 0,.sl ⟨none,0,.ex 0⟩]).bind λH7=>(Hp.st H7 H.length 0 (.int .i64 n4)).bind λH8=>(Hp.st H8 H.length (0+1) (.int .i64 n5)).bind λH9=>(Hp.st H9 H.length (0+1+1) (.sl s6)).bind λH10=>aE.l13 F ae eV cg e_ F aa ac ai H.length 0 (wrap .i64 (ai+1)) H10
def aE.tw:=aE.twX F (aS.tw F) (gC.tw F) (ef.tw F) (fN.tw F)
def aE.lh13 (ae:ac8) (eV:adf) (cg:adh) (e_:adh) (ks:adc) (n:Nat) (tm:Tm) (H:Hp):OA:=match ks,tm 0,tm 1,tm 4,tm 5 with
 | [],(.ptr jv jw),(.int .i64 dc),(.ptr gj lq),(.int .i64 gS)=>aE.l13 F ae eV cg e_ n jv jw dc gj lq gS H
 | _,_,_,_,_=>none
def aE.lh15 (ae:ac8) (eV:adf) (cg:adh) (e_:adh) (ks:adc) (n:Nat) (tm:Tm) (H:Hp):OA:=match ks,tm 0,tm 1,tm 4,tm 7 with
 | [],(.ptr mD mE),(.int .i64 hQ),(.ptr kl mF),(.int .i64 jG)=>aE.l15 F ae eV cg e_ n mD mE hQ kl mF jG H
 | _,_,_,_,_=>none
def aE.lh (ae:ac8) (eV:adf) (cg:adh) (e_:adh) (p:Nat) (ks:adc) (n:Nat) (tm:Tm) (H:Hp):OA:=bif p.beq 15 then aE.lh15 F ae eV cg e_ ks n tm H else (bif p.beq 13 then aE.lh13 F ae eV cg e_ ks n tm H else (none))
def aE.pn:Nat->List Nat:=eP [(4,[12]),(10,[12])]
def aE.tb:Nat->List (List Nat):=eP [(4,[[],[],[],[0,1,2],[0,1,2,3],[0,1,2,3,4],[],[],[],[0,1,2,3,6,7,8],[0,1,2,3,6,7,8,9],[0,1,2,3,6,7,8,9,10],[0,1,2,3,4,5,6,7,8,9,10,11],[0,1,2,3,4,5,6,7,8,9,10,11,12]]),(10,[[],[],[],[0,1,2],[0,1,2,3],[0,1,2,3,4],[],[],[],[0,1,2,3,6,7,8],[0,1,2,3,6,7,8,9],[0,1,2,3,6,7,8,9,10],[0,1,2,3,4,5,6,7,8,9,10,11],[0,1,2,3,4,5,6,7,8,9,10,11,12]])]
def aE.cs (F:Nat) (ae:ac8) (eV:adf) (cg:adh) (e_:adh):Cs:=[(75,mk10 ae),(207,mk3 eV),(177,mk14 cg),(208,mk14 e_)]
theorem aE.loops (ae:ac8) (eV:adf) (cg:adh) (e_:adh):LO (bH (aE.cs F ae eV cg e_)) aE.pn (aE.lh F ae eV cg e_) F Try.f174:=
 (af.rt (af.seq (af.rt (af.block (af.la (λn tm H r h=>by change aE.lh13 F ae eV cg e_ [] n tm H=_ at h;unfold aE.lh13 at h;split at h;have e:eH tm [(0,_),(1,_),(4,_),(5,_)]:=⟨‹_›,‹_›,‹_›,‹_›,trivial⟩;obtain _ | k13:=n;cases h;exact ⟨_,rfl,by rw [<- eQ e];exact Eq.trans (by kernel_rfl) h⟩;cases h) λk13=>af.no))) (af.rt (af.block (af.la (λn tm H r h=>by change aE.lh15 F ae eV cg e_ [] n tm H=_ at h;unfold aE.lh15 at h;split at h;have e:eH tm [(0,_),(1,_),(4,_),(7,_)]:=⟨‹_›,‹_›,‹_›,‹_›,trivial⟩;obtain _ | k15:=n;cases h;exact ⟨_,rfl,by rw [<- eQ e];exact Eq.trans (by kernel_rfl) h⟩;cases h) λk15=>af.no)))))
theorem aE.eqX (ae:ac8) (eV:adf) (cg:adh) (e_:adh) (aa:Nat) (ac:Nat) (ai:Int) (H:Hp):EX (bH (aE.cs F ae eV cg e_)) aE.pn (aE.lh F ae eV cg e_) F Try.f174 [(.ptr aa ac),(.int .i64 ai)] H=aE.twX F ae eV cg e_ aa ac ai H:=by kernel_rfl
theorem aE.k:Ok Try.prog 174 (mk2 (aE.tw F)):=by
 intro args H v H' h
 unfold mk2 at h
 split at h
 ·exact okT (TB:=aE.tb) Try.func174 (bl (aS.k F) (bl (gC.k F) (bl (ef.k F) (bl (fN.k F) cV)))) (aE.loops F (aS.tw F) (gC.tw F) (ef.tw F) (fN.tw F)) ((aE.eqX F (aS.tw F) (gC.tw F) (ef.tw F) (fN.tw F) _ _ _ H).trans h) (by kernel_rfl)
 ·cases h
def iO.twX (F:Nat) (aa:Int) (H:Hp):OA:=some ((.bool (aa != 0)),H)
def iO.tw:=iO.twX F
theorem iO.k:Ok Try.prog 209 (mk7 (iO.tw F)):=by
 intro args H v H' h
 unfold mk7 at h
 split at h
 ·exact ok0 Try.func209 (Eq.trans (by kernel_rfl) h) (by kernel_rfl) (by kernel_rfl)
 ·cases h
def cM.l13 (F:Nat) (jx:adb) :Nat->Sl->Int->Int->Hp->OA
 | 0,_,_,_,_=>none
 | pB+1,ov,gh,eo,H6=>(bif (decide (eo<gh)) then ((Sl.idx ov eo 1).bind λp11=>(Hp.ldI H6 .i64 p11.1 p11.2).bind λn12=>(jx n12 H6).bind λr13=>((r13.1).asB).bind λb14=>(bif b14 then (some ((.int .i64 eo),r13.2)) else (cM.l13 F jx pB ov gh (wrap .i64 (eo+1)) r13.2))) else (some ((.int .i64 (-1)),H6)))
def cM.twX (jx:adb) (aa:Sl) (H:Hp):OA:=cM.l13 F jx F aa (aa.n:Int) 0 H
def cM.tw:=cM.twX F (iO.tw F)
def cM.lh13 (jx:adb) (ks:adc) (n:Nat) (tm:Tm) (H:Hp):OA:=match ks,tm 0,tm 1,tm 7,tm 8 with
 | [],(.sl ov),(.fn 209 []),(.int .i64 gh),(.int .i64 eo)=>cM.l13 F jx n ov gh eo H
 | _,_,_,_,_=>none
def cM.lh (jx:adb) (p:Nat) (ks:adc) (n:Nat) (tm:Tm) (H:Hp):OA:=bif p.beq 13 then cM.lh13 F jx ks n tm H else (none)
def mk15 (g:ade) (args:adg) (H:Hp):OA:=match args with
 | [(.sl aa),(.fn 209 [])]=>g aa H
 | _=>none
theorem mk15_E (g:ade) (aa:Sl) (H:Hp):mk15 g [(.sl aa),(.fn 209 [])] H=g aa H:=rfl
def cM.cs (F:Nat) (jx:adb):Cs:=[(209,mk7 jx)]
theorem cM.loops (jx:adb):LO (bH (cM.cs F jx)) bI (cM.lh F jx) F Try.f122:=
 (af.rt (af.lt (af.rt (af.block (af.la (λn tm H r h=>by change cM.lh13 F jx [] n tm H=_ at h;unfold cM.lh13 at h;split at h;have e:eH tm [(0,_),(1,_),(7,_),(8,_)]:=⟨‹_›,‹_›,‹_›,‹_›,trivial⟩;obtain _ | k13:=n;cases h;exact ⟨_,rfl,by rw [<- eQ e];exact Eq.trans (by kernel_rfl) h⟩;cases h) λk13=>af.no)))))
theorem cM.eqX (jx:adb) (aa:Sl) (H:Hp):EX (bH (cM.cs F jx)) bI (cM.lh F jx) F Try.f122 [(.sl aa),(.fn 209 [])] H=cM.twX F jx aa H:=by kernel_rfl
theorem cM.k:Ok Try.prog 122 (mk15 (cM.tw F)):=by
 intro args H v H' h
 unfold mk15 at h
 split at h
 ·exact okT (TB:=bI) Try.func122 (bl (iO.k F) cV) (cM.loops F (iO.tw F)) ((cM.eqX F (iO.tw F) _ H).trans h) (by kernel_rfl)
 ·cases h
def gJ.twX (F:Nat) (tI:ade) (aa:Sl) (H:Hp):OA:=(tI aa H).bind λr2=>((r2.1).asI .i64).bind λn3=>some ((.bool (decide (n3>=0))),r2.2)
def gJ.tw:=gJ.twX F (cM.tw F)
def gJ.cs (F:Nat) (tI:ade):Cs:=[(122,mk15 tI)]
theorem gJ.eqX (tI:ade) (aa:Sl) (H:Hp):EX (bH (gJ.cs F tI)) bI lh0 F Try.f65 [(.sl aa),(.fn 209 [])] H=gJ.twX F tI aa H:=by kernel_rfl
theorem gJ.k:Ok Try.prog 65 (mk15 (gJ.tw F)):=by
 intro args H v H' h
 unfold mk15 at h
 split at h
 ·exact okT (TB:=bI) Try.func65 (bl (cM.k F) cV) af.no ((gJ.eqX F (cM.tw F) _ H).trans h) (by kernel_rfl)
 ·cases h
def bR.j1 (F:Nat) (ae:ac8) (bG:adk) (iX:ade) (pH:Int) (tJ:Nat) (Ez:Nat) (H34:Hp):OA:=(Hp.ldI H34 .i64 tJ Ez).bind λn35=>(Hp.ldI H34 .i64 tJ (Ez+1)).bind λn36=>(Hp.ldSl H34 tJ (Ez+2)).bind λs37=>(bG n35 n36 s37 pH H34).bind λr38=>((r38.1).asSl).bind λs39=>(Sl.cut s39 1 (wrap .i64 (pH+1)) (s39.n:Int)).bind λs40=>(iX s40 r38.2).bind λr41=>((r41.1).asB).bind λb42=>some ((.bool (!b42)),r41.2)
def bR.l29 (F:Nat) (ae:ac8) (bG:adk) (iX:ade) :Nat->Int->Nat->Nat->Int->Hp->OA
 | 0,_,_,_,_,_=>none
 | ft+1,dc,hO,gS,lr,H18=>(Hp.ldI H18 .i64 hO gS).bind λn43=>(bif (decide (lr<n43)) then ((Hp.ldI H18 .i64 hO gS).bind λn44=>(Hp.ldI H18 .i64 hO (gS+1)).bind λn45=>(Hp.ldSl H18 hO (gS+2)).bind λs46=>(ae n44 n45 s46 lr dc H18).bind λr47=>((r47.1).asP).bind λp48=>(Hp.ldI r47.2 .i64 p48.1 p48.2).bind λn49=>(bif (n49 != 0) then (some ((.bool false),r47.2)) else (bR.l29 F ae bG iX ft dc hO gS (wrap .i64 (lr+1)) r47.2))) else (bR.j1 F ae bG iX dc hO gS H18))
termination_by structural n=>n
def bR.twX (ae:ac8) (bG:adk) (iX:ade) (aa:Nat) (ac:Nat) (ai:Int) (H:Hp):OA:=(Hp.ldI H .i64 aa (ac+6)).bind λn4=>(Hp.ldI H .i64 aa ((ac+6)+1)).bind λn5=>(Hp.ldSl H aa ((ac+6)+2)).bind λs6=>(Hp.new H [.int .i64 0,.int .i64 0,.sl ⟨none,0,.ex 0⟩]).bind λH7=>(Hp.st H7 H.length 0 (.int .i64 n4)).bind λH8=>(Hp.st H8 H.length (0+1) (.int .i64 n5)).bind λH9=>(Hp.st H9 H.length (0+1+1) (.sl s6)).bind λH10=>bR.l29 F ae bG iX F ai H.length 0 (wrap .i64 (ai+1)) H10
def bR.tw:=bR.twX F (aS.tw F) (ee.tw F) (gJ.tw F)
def bR.lh29 (ae:ac8) (bG:adk) (iX:ade) (ks:adc) (n:Nat) (tm:Tm) (H:Hp):OA:=match ks,tm 1,tm 5,tm 6 with
 | [],(.int .i64 dc),(.ptr hO gS),(.int .i64 lr)=>bR.l29 F ae bG iX n dc hO gS lr H
 | _,_,_,_=>none
def bR.lh (ae:ac8) (bG:adk) (iX:ade) (p:Nat) (ks:adc) (n:Nat) (tm:Tm) (H:Hp):OA:=bif p.beq 29 then bR.lh29 F ae bG iX ks n tm H else (none)
def bR.cs (F:Nat) (ae:ac8) (bG:adk) (iX:ade):Cs:=[(75,mk10 ae),(128,mk11 bG),(65,mk15 iX)]
theorem bR.loops (ae:ac8) (bG:adk) (iX:ade):LO (bH (bR.cs F ae bG iX)) bI (bR.lh F ae bG iX) F Try.f175:=
 (af.rt (af.rt (af.lt (af.rt (af.block (af.la (λn tm H r h=>by change bR.lh29 F ae bG iX [] n tm H=_ at h;unfold bR.lh29 at h;split at h;have e:eH tm [(1,_),(5,_),(6,_)]:=⟨‹_›,‹_›,‹_›,trivial⟩;obtain _ | k29:=n;cases h;exact ⟨_,rfl,by rw [<- eQ e];exact Eq.trans (by kernel_rfl) h⟩;cases h) λk29=>af.no))))))
theorem bR.eqX (ae:ac8) (bG:adk) (iX:ade) (aa:Nat) (ac:Nat) (ai:Int) (H:Hp):EX (bH (bR.cs F ae bG iX)) bI (bR.lh F ae bG iX) F Try.f175 [(.ptr aa ac),(.int .i64 ai)] H=bR.twX F ae bG iX aa ac ai H:=by kernel_rfl
theorem bR.k:Ok Try.prog 175 (mk2 (bR.tw F)):=by
 intro args H v H' h
 unfold mk2 at h
 split at h
 ·exact okT (TB:=bI) Try.func175 (bl (aS.k F) (bl (ee.k F) (bl (gJ.k F) cV))) (bR.loops F (aS.tw F) (ee.tw F) (gJ.tw F)) ((bR.eqX F (aS.tw F) (ee.tw F) (gJ.tw F) _ _ _ H).trans h) (by kernel_rfl)
 ·cases h
def gT.twX (F:Nat) (ae:ac8) (aa:Int) (ax:Nat) (ai:Nat) (bP:Nat) (bX:Nat) (H:Hp):OA:=(Hp.ldI H .i64 ax ai).bind λn6=>(Hp.ldI H .i64 ax (ai+1)).bind λn7=>(Hp.ldSl H ax (ai+2)).bind λs8=>(Hp.ldI H .i64 bP bX).bind λn9=>(Hp.ldI H .i64 bP bX).bind λn10=>(ae n6 n7 s8 n9 n10 H).bind λr11=>((r11.1).asP).bind λp12=>(Hp.ldI r11.2 .i64 p12.1 p12.2).bind λn13=>(if n13=0 then none else (some ((.bool ((Int.tmod aa n13) != 0)),r11.2)))
def gT.tw:=gT.twX F (aS.tw F)
def mk16 (g:adz) (args:adg) (H:Hp):OA:=match args with
 | [(.int .i64 aa),(.ptr ax ai),(.ptr bP bX)]=>g aa ax ai bP bX H
 | _=>none
theorem mk16_E (g:adz) (aa:Int) (ax:Nat) (ai:Nat) (bP:Nat) (bX:Nat) (H:Hp):mk16 g [(.int .i64 aa),(.ptr ax ai),(.ptr bP bX)] H=g aa ax ai bP bX H:=rfl
def gT.cs (F:Nat) (ae:ac8):Cs:=[(75,mk10 ae)]
theorem gT.eqX (ae:ac8) (aa:Int) (ax:Nat) (ai:Nat) (bP:Nat) (bX:Nat) (H:Hp):EX (bH (gT.cs F ae)) bI lh0 F Try.f210 [(.int .i64 aa),(.ptr ax ai),(.ptr bP bX)] H=gT.twX F ae aa ax ai bP bX H:=by kernel_rfl
theorem gT.k:Ok Try.prog 210 (mk16 (gT.tw F)):=by
 intro args H v H' h
 unfold mk16 at h
 split at h
 ·exact okT (TB:=bI) Try.func210 (bl (aS.k F) cV) af.no ((gT.eqX F (aS.tw F) _ _ _ _ _ H).trans h) (by kernel_rfl)
 ·cases h
def cN.l13 (F:Nat) (jy:adz) :Nat->Sl->Nat->Nat->Nat->Nat->Int->Int->Hp->OA
 | 0,_,_,_,_,_,_,_,_=>none
 | pB+1,oA,ax,ai,ak,aO,mG,kn,H10=>(bif (decide (kn<mG)) then ((Sl.idx oA kn 1).bind λp15=>(Hp.ldI H10 .i64 p15.1 p15.2).bind λn16=>(jy n16 ax ai ak aO H10).bind λr17=>((r17.1).asB).bind λb18=>(bif b18 then (some ((.int .i64 kn),r17.2)) else (cN.l13 F jy pB oA ax ai ak aO mG (wrap .i64 (kn+1)) r17.2))) else (some ((.int .i64 (-1)),H10)))
termination_by structural n=>n
def cN.twX (jy:adz) (aa:Sl) (ax:Nat) (ai:Nat) (ak:Nat) (aO:Nat) (H:Hp):OA:=cN.l13 F jy F aa ax ai ak aO (aa.n:Int) 0 H
def cN.tw:=cN.twX F (gT.tw F)
def cN.lh13 (jy:adz) (ks:adc) (n:Nat) (tm:Tm) (H:Hp):OA:=match ks,tm 0,tm 1,tm 7,tm 8 with
 | [],(.sl oA),(.fn 210 [(.ptr ax ai),(.ptr ak aO)]),(.int .i64 mG),(.int .i64 kn)=>cN.l13 F jy n oA ax ai ak aO mG kn H
 | _,_,_,_,_=>none
def cN.lh (jy:adz) (p:Nat) (ks:adc) (n:Nat) (tm:Tm) (H:Hp):OA:=bif p.beq 13 then cN.lh13 F jy ks n tm H else (none)
def mk17 (g:adv) (args:adg) (H:Hp):OA:=match args with
 | [(.sl aa),(.fn 210 [(.ptr ax ai),(.ptr ak aO)])]=>g aa ax ai ak aO H
 | _=>none
theorem mk17_E (g:adv) (aa:Sl) (ax:Nat) (ai:Nat) (ak:Nat) (aO:Nat) (H:Hp):mk17 g [(.sl aa),(.fn 210 [(.ptr ax ai),(.ptr ak aO)])] H=g aa ax ai ak aO H:=rfl
def cN.cs (F:Nat) (jy:adz):Cs:=[(210,mk16 jy)]
theorem cN.loops (jy:adz):LO (bH (cN.cs F jy)) bI (cN.lh F jy) F Try.f122:=
 (af.rt (af.lt (af.rt (af.block (af.la (λn tm H r h=>by change cN.lh13 F jy [] n tm H=_ at h;unfold cN.lh13 at h;split at h;have e:eH tm [(0,_),(1,_),(7,_),(8,_)]:=⟨‹_›,‹_›,‹_›,‹_›,trivial⟩;obtain _ | k13:=n;cases h;exact ⟨_,rfl,by rw [<- eQ e];exact Eq.trans (by kernel_rfl) h⟩;cases h) λk13=>af.no)))))
theorem cN.eqX (jy:adz) (aa:Sl) (ax:Nat) (ai:Nat) (ak:Nat) (aO:Nat) (H:Hp):EX (bH (cN.cs F jy)) bI (cN.lh F jy) F Try.f122 [(.sl aa),(.fn 210 [(.ptr ax ai),(.ptr ak aO)])] H=cN.twX F jy aa ax ai ak aO H:=by kernel_rfl
theorem cN.k:Ok Try.prog 122 (mk17 (cN.tw F)):=by
 intro args H v H' h
 unfold mk17 at h
 split at h
 ·exact okT (TB:=bI) Try.func122 (bl (gT.k F) cV) (cN.loops F (gT.tw F)) ((cN.eqX F (gT.tw F) _ _ _ _ _ H).trans h) (by kernel_rfl)
 ·cases h
def gU.twX (F:Nat) (tK:adv) (aa:Sl) (ax:Nat) (ai:Nat) (ak:Nat) (aO:Nat) (H:Hp):OA:=(tK aa ax ai ak aO H).bind λr6=>((r6.1).asI .i64).bind λn7=>some ((.bool (decide (n7>=0))),r6.2)
def gU.tw:=gU.twX F (cN.tw F)
def gU.cs (F:Nat) (tK:adv):Cs:=[(122,mk17 tK)]
theorem gU.eqX (tK:adv) (aa:Sl) (ax:Nat) (ai:Nat) (ak:Nat) (aO:Nat) (H:Hp):EX (bH (gU.cs F tK)) bI lh0 F Try.f65 [(.sl aa),(.fn 210 [(.ptr ax ai),(.ptr ak aO)])] H=gU.twX F tK aa ax ai ak aO H:=by kernel_rfl
theorem gU.k:Ok Try.prog 65 (mk17 (gU.tw F)):=by
 intro args H v H' h
 unfold mk17 at h
 split at h
 ·exact okT (TB:=bI) Try.func65 (bl (cN.k F) cV) af.no ((gU.eqX F (cN.tw F) _ _ _ _ _ H).trans h) (by kernel_rfl)
 ·cases h
def ch.l29 (F:Nat) (bG:adk) (jz:adv) :Nat->Nat->Nat->Nat->Nat->Int->Hp->OA
 | 0,_,_,_,_,_,_=>none
 | ft+1,ko,fD,lX,pI,kp,H22=>(Hp.ldI H22 .i64 lX pI).bind λn33=>(bif (decide (kp<n33)) then ((Hp.ldI H22 .i64 lX pI).bind λn34=>(Hp.ldI H22 .i64 lX (pI+1)).bind λn35=>(Hp.ldSl H22 lX (pI+2)).bind λs36=>(bG n34 n35 s36 kp H22).bind λr37=>((r37.1).asSl).bind λs38=>(if bh H22 r37.2 then ((Hp.ldI r37.2 .i64 ko fD).bind λn39=>(Sl.cut s38 1 (wrap .i64 (n39+1)) (s38.n:Int)).bind λs40=>(jz s40 lX pI ko fD r37.2).bind λr41=>((r41.1).asB).bind λb42=>(bif b42 then (some ((.int .i64 kp),r41.2)) else (ch.l29 F bG jz ft ko fD lX pI (wrap .i64 (kp+1)) r41.2))) else none)) else (some ((.int .i64 (-1)),H22)))
termination_by structural n=>n
def ch.twX (bG:adk) (jz:adv) (aa:Nat) (ac:Nat) (ai:Int) (H:Hp):OA:=(Hp.new H [(.int .i64 ai)]).bind λH4=>(Hp.ldI H4 .i64 aa (ac+6)).bind λn5=>(Hp.ldI H4 .i64 aa ((ac+6)+1)).bind λn6=>(Hp.ldSl H4 aa ((ac+6)+2)).bind λs7=>(Hp.new H4 [.int .i64 0,.int .i64 0,.sl ⟨none,0,.ex 0⟩]).bind λH8=>(Hp.st H8 H4.length 0 (.int .i64 n5)).bind λH9=>(Hp.st H9 H4.length (0+1) (.int .i64 n6)).bind λH10=>(Hp.st H10 H4.length (0+1+1) (.sl s7)).bind λH11=>(Hp.ldI H11 .i64 H.length 0).bind λn12=>ch.l29 F bG jz F H.length 0 H4.length 0 (wrap .i64 (n12+1)) H11
def ch.tw:=ch.twX F (ee.tw F) (gU.tw F)
def ch.lh29 (bG:adk) (jz:adv) (ks:adc) (n:Nat) (tm:Tm) (H:Hp):OA:=match ks,tm 3,tm 5,tm 6 with
 | [],(.ptr ko fD),(.ptr lX pI),(.int .i64 kp)=>ch.l29 F bG jz n ko fD lX pI kp H
 | _,_,_,_=>none
def ch.lh (bG:adk) (jz:adv) (p:Nat) (ks:adc) (n:Nat) (tm:Tm) (H:Hp):OA:=bif p.beq 29 then ch.lh29 F bG jz ks n tm H else (none)
def ch.pn:Nat->List Nat:=eP [(5,[7])]
def ch.tb:Nat->List (List Nat):=eP [(5,[[],[],[0,1],[],[3],[0,1,2,3,4],[],[0,1,2,3,4,5,6]])]
def ch.cs (F:Nat) (bG:adk) (jz:adv):Cs:=[(128,mk11 bG),(65,mk17 jz)]
theorem ch.loops (bG:adk) (jz:adv):LO (bH (ch.cs F bG jz)) ch.pn (ch.lh F bG jz) F Try.f176:=
 (af.rt (af.rt (af.lt (af.rt (af.block (af.la (λn tm H r h=>by change ch.lh29 F bG jz [] n tm H=_ at h;unfold ch.lh29 at h;split at h;have e:eH tm [(3,_),(5,_),(6,_)]:=⟨‹_›,‹_›,‹_›,trivial⟩;obtain _ | k29:=n;cases h;exact ⟨_,rfl,by rw [<- eQ e];exact Eq.trans (by kernel_rfl) h⟩;cases h) λk29=>af.no))))))
theorem ch.eqX (bG:adk) (jz:adv) (aa:Nat) (ac:Nat) (ai:Int) (H:Hp):EX (bH (ch.cs F bG jz)) ch.pn (ch.lh F bG jz) F Try.f176 [(.ptr aa ac),(.int .i64 ai)] H=ch.twX F bG jz aa ac ai H:=by kernel_rfl
theorem ch.k:Ok Try.prog 176 (mk2 (ch.tw F)):=by
 intro args H v H' h
 unfold mk2 at h
 split at h
 ·exact okT (TB:=ch.tb) Try.func176 (bl (ee.k F) (bl (gU.k F) cV)) (ch.loops F (ee.tw F) (gU.tw F)) ((ch.eqX F (ee.tw F) (gU.tw F) _ _ _ H).trans h) (by kernel_rfl)
 ·cases h
def aV.j4 (F:Nat) (gl:ac_) (gm:ac_) (gn:ac_) (gr:ac_) (cg:adh) (C3_:ac_) (TU:Nat) (TV:Nat) (tL:Int) (H57:Hp):OA:=C3_ TU TV tL H57
def aV.j5 (F:Nat) (gl:ac_) (gm:ac_) (gn:ac_) (gr:ac_) (cg:adh) (C3_:ac_) (TW:Nat) (Ew:Nat) (tM:Int) (H80:Hp):OA:=C3_ TW Ew tM H80
def aV.j6 (gl:ac_) (gm:ac_) (gn:ac_) (gr:ac_) (cg:adh) (C3_:ac_) (TX:Nat) (TY:Nat) (tN:Int) (H71:Hp):OA:=aV.j5 F gl gm gn gr cg C3_ TX TY tN H71
def aV.l3 (F:Nat) (gl:ac_) (gm:ac_) (gn:ac_) (gr:ac_) (cg:adh) :Nat->Nat->Nat->Int->Hp->OA
 | 0,_,_,_,_=>none
 | zK+1,fH,iL,gK,H6=>(Hp.ldB H6 fH (iL+15)).bind λb44=>(bif (!b44) then ((Hp.ldI H6 .i64 fH (iL+6)).bind λn45=>(Hp.ldI H6 .i64 fH ((iL+6)+1)).bind λn46=>(bif (decide (gK<(if n46<n45 then n46 else n45))) then ((gl fH iL gK H6).bind λr47=>((r47.1).asB).bind λb48=>(bif (!b48) then (some ((.tup []),r47.2)) else ((gm fH iL gK r47.2).bind λr49=>(Hp.ldB r49.2 fH (iL+15)).bind λb50=>(bif b50 then (aV.j4 F gl gm gn gr cg (aV.l3 F gl gm gn gr cg zK) fH iL gK r49.2) else ((gn fH iL gK r49.2).bind λr58=>((r58.1).asB).bind λb59=>(bif (!b59) then (aV.j4 F gl gm gn gr cg (aV.l3 F gl gm gn gr cg zK) fH iL gK r58.2) else ((gr fH iL gK r58.2).bind λr60=>((r60.1).asI .i64).bind λn61=>(bif (decide (n61>=0)) then ((cg fH iL gK n61 1 r60.2).bind λr62=>aV.j6 F gl gm gn gr cg (aV.l3 F gl gm gn gr cg zK) fH iL gK r62.2) else (aV.j6 F gl gm gn gr cg (aV.l3 F gl gm gn gr cg zK) fH iL (wrap .i64 (gK+1)) r60.2))))))))) else (some ((.tup []),H6)))) else (some ((.tup []),H6)))
termination_by structural n=>n
def aV.twX (gl:ac_) (gm:ac_) (gn:ac_) (gr:ac_) (cg:adh) (aa:Nat) (ac:Nat) (H:Hp):OA:=aV.l3 F gl gm gn gr cg F aa ac 0 H
def aV.tw:=aV.twX F (bi.tw F) (aE.tw F) (bR.tw F) (ch.tw F) (ef.tw F)
def aV.lh3 (gl:ac_) (gm:ac_) (gn:ac_) (gr:ac_) (cg:adh) (ks:adc) (n:Nat) (tm:Tm) (H:Hp):OA:=match ks,tm 0,tm 2 with
 | [],(.ptr fH iL),(.int .i64 gK)=>aV.l3 F gl gm gn gr cg n fH iL gK H
 | _,_,_=>none
def aV.lh (gl:ac_) (gm:ac_) (gn:ac_) (gr:ac_) (cg:adh) (p:Nat) (ks:adc) (n:Nat) (tm:Tm) (H:Hp):OA:=bif p.beq 3 then aV.lh3 F gl gm gn gr cg ks n tm H else (none)
def aV.tb:Nat->List (List Nat):=eP [(1,[[],[0],[0,1],[0,1,2],[0,1,2,3],[0,1,2,3,4],[0,1,2,3,4,5],[0,1,2,3,4,5],[0,1,2,3,4,5,7],[0,1,2,3,4,5,7,8],[0,1,2,3,4,5,7,8,9],[0,1,2,3,4,5,7,8,9,10],[0,1,2,3,4,5,7,8,9,10,11],[0,1,2,3,4,5],[0,1,2,3,4,5,13],[0,1,2,3,4,5,13,14],[0,1,2,3,4,5,13,14,15],[0,1,2,3,4,5,13,14,15,16],[0,1,2,3,4,5,13,14,15,16,17],[0,1,2,3,4,5,7,8,9,10,11,12,13,14,15,16,17,18],[0,1,2,3,4,5,6,7,8,9,10,11,12,13,14,15,16,17,18,19],[0,1,2,3,4,5,6,7,8,9,10,11,12,13,14,15,16,17,18,19,20]])]
def aV.cs (F:Nat) (gl:ac_) (gm:ac_) (gn:ac_) (gr:ac_) (cg:adh):Cs:=[(173,mk2 gl),(174,mk2 gm),(175,mk2 gn),(176,mk2 gr),(177,mk14 cg)]
theorem aV.loops (gl:ac_) (gm:ac_) (gn:ac_) (gr:ac_) (cg:adh):LO (bH (aV.cs F gl gm gn gr cg)) bI (aV.lh F gl gm gn gr cg) F Try.f133:=
 (af.rt (af.block (af.la (λn tm H r h=>by change aV.lh3 F gl gm gn gr cg [] n tm H=_ at h;unfold aV.lh3 at h;split at h;have e:eH tm [(0,_),(2,_)]:=⟨‹_›,‹_›,trivial⟩;obtain _ | k3:=n;cases h;exact ⟨_,rfl,by rw [<- eQ e];exact Eq.trans (by kernel_rfl) h⟩;cases h) λk3=>af.no)))
theorem aV.eqX (gl:ac_) (gm:ac_) (gn:ac_) (gr:ac_) (cg:adh) (aa:Nat) (ac:Nat) (H:Hp):EX (bH (aV.cs F gl gm gn gr cg)) bI (aV.lh F gl gm gn gr cg) F Try.f133 [(.ptr aa ac)] H=aV.twX F gl gm gn gr cg aa ac H:=by kernel_rfl
theorem aV.k:Ok Try.prog 133 (mk5 (aV.tw F)):=by
 intro args H v H' h
 unfold mk5 at h
 split at h
 ·exact okT (TB:=aV.tb) Try.func133 (bl (bi.k F) (bl (aE.k F) (bl (bR.k F) (bl (ch.k F) (bl (ef.k F) cV))))) (aV.loops F (bi.tw F) (aE.tw F) (bR.tw F) (ch.tw F) (ef.tw F)) ((aV.eqX F (bi.tw F) (aE.tw F) (bR.tw F) (ch.tw F) (ef.tw F) _ _ H).trans h) (by kernel_rfl)
 ·cases h
def eW.twX (F:Nat) (tO:ada) (tP:adE) (aa:Int) (ac:Int) (aJ:Sl) (H:Hp):OA:=(Hp.new H [(.int .i64 aa),(.int .i64 ac),(.sl aJ)]).bind λH4=>(Hp.new H4 [.int .i64 0,.int .i64 0,.sl ⟨none,0,.ex 0⟩,.int .i64 0,.int .i64 0,.sl ⟨none,0,.ex 0⟩,.int .i64 0,.int .i64 0,.sl ⟨none,0,.ex 0⟩,.int .i64 0,.int .i64 0,.sl ⟨none,0,.ex 0⟩,.int .i64 0,.int .i64 0,.sl ⟨none,0,.ex 0⟩]).bind λH5=>(Hp.ldI H5 .i64 H.length 0).bind λn6=>(Hp.ldI H5 .i64 H.length (0+1)).bind λn7=>(Hp.ldSl H5 H.length (0+2)).bind λs8=>(tO n6 n7 s8 H5).bind λr9=>((r9.1).asP).bind λp10=>(tP p10.1 p10.2 r9.2).bind λr11=>(Hp.ldB r11.2 p10.1 (p10.2+15)).bind λb12=>(bif b12 then ((Hp.st r11.2 H4.length 0 (.int .i64 0)).bind λH13=>(Hp.st H13 H4.length (0+1) (.int .i64 0)).bind λH14=>(Hp.st H14 H4.length (0+1+1) (.sl (⟨none,0,.ex 0⟩:Sl))).bind λH15=>(Hp.st H15 H4.length (0+1+1+1) (.int .i64 0)).bind λH16=>(Hp.st H16 H4.length (0+1+1+1+1) (.int .i64 0)).bind λH17=>(Hp.st H17 H4.length (0+1+1+1+1+1) (.sl (⟨none,0,.ex 0⟩:Sl))).bind λH18=>(Hp.st H18 H4.length (0+1+1+1+1+1+1) (.int .i64 0)).bind λH19=>(Hp.st H19 H4.length (0+1+1+1+1+1+1+1) (.int .i64 0)).bind λH20=>(Hp.st H20 H4.length (0+1+1+1+1+1+1+1+1) (.sl (⟨none,0,.ex 0⟩:Sl))).bind λH21=>(Hp.st H21 H4.length (0+1+1+1+1+1+1+1+1+1) (.int .i64 0)).bind λH22=>(Hp.st H22 H4.length (0+1+1+1+1+1+1+1+1+1+1) (.int .i64 0)).bind λH23=>(Hp.st H23 H4.length (0+1+1+1+1+1+1+1+1+1+1+1) (.sl (⟨none,0,.ex 0⟩:Sl))).bind λH24=>(Hp.st H24 H4.length (0+1+1+1+1+1+1+1+1+1+1+1+1) (.int .i64 0)).bind λH25=>(Hp.st H25 H4.length (0+1+1+1+1+1+1+1+1+1+1+1+1+1) (.int .i64 0)).bind λH26=>(Hp.st H26 H4.length (0+1+1+1+1+1+1+1+1+1+1+1+1+1+1) (.sl (⟨none,0,.ex 0⟩:Sl))).bind λH27=>(Hp.ldI H27 .i64 H4.length 0).bind λn28=>(Hp.ldI H27 .i64 H4.length (0+1)).bind λn29=>(Hp.ldSl H27 H4.length (0+2)).bind λs30=>(Hp.ldI H27 .i64 H4.length (0+3)).bind λn31=>(Hp.ldI H27 .i64 H4.length (0+4)).bind λn32=>(Hp.ldSl H27 H4.length (0+5)).bind λs33=>(Hp.ldI H27 .i64 H4.length (0+6)).bind λn34=>(Hp.ldI H27 .i64 H4.length (0+7)).bind λn35=>(Hp.ldSl H27 H4.length (0+8)).bind λs36=>(Hp.ldI H27 .i64 H4.length (0+9)).bind λn37=>(Hp.ldI H27 .i64 H4.length (0+10)).bind λn38=>(Hp.ldSl H27 H4.length (0+11)).bind λs39=>(Hp.ldI H27 .i64 H4.length (0+12)).bind λn40=>(Hp.ldI H27 .i64 H4.length (0+13)).bind λn41=>(Hp.ldSl H27 H4.length (0+14)).bind λs42=>some ((.tup [(.agg [(.int .i64 n28),(.int .i64 n29),(.sl s30),(.int .i64 n31),(.int .i64 n32),(.sl s33),(.int .i64 n34),(.int .i64 n35),(.sl s36),(.int .i64 n37),(.int .i64 n38),(.sl s39),(.int .i64 n40),(.int .i64 n41),(.sl s42)]),(.int .i64 3)]),H27)) else ((Hp.ldI r11.2 .i64 p10.1 p10.2).bind λn43=>(Hp.ldI r11.2 .i64 p10.1 (p10.2+1)).bind λn44=>(Hp.ldSl r11.2 p10.1 (p10.2+2)).bind λs45=>(Hp.ldI r11.2 .i64 p10.1 (p10.2+3)).bind λn46=>(Hp.ldI r11.2 .i64 p10.1 (p10.2+4)).bind λn47=>(Hp.ldSl r11.2 p10.1 (p10.2+5)).bind λs48=>(Hp.ldI r11.2 .i64 p10.1 (p10.2+6)).bind λn49=>(Hp.ldI r11.2 .i64 p10.1 (p10.2+7)).bind λn50=>(Hp.ldSl r11.2 p10.1 (p10.2+8)).bind λs51=>(Hp.ldI r11.2 .i64 p10.1 (p10.2+9)).bind λn52=>(Hp.ldI r11.2 .i64 p10.1 (p10.2+10)).bind λn53=>(Hp.ldSl r11.2 p10.1 (p10.2+11)).bind λs54=>(Hp.ldI r11.2 .i64 p10.1 (p10.2+12)).bind λn55=>(Hp.ldI r11.2 .i64 p10.1 (p10.2+13)).bind λn56=>(Hp.ldSl r11.2 p10.1 (p10.2+14)).bind λs57=>(Hp.st r11.2 H4.length 0 (.int .i64 n43)).bind λH58=>(Hp.st H58 H4.length (0+1) (.int .i64 n44)).bind λH59=>(Hp.st H59 H4.length (0+1+1) (.sl s45)).bind λH60=>(Hp.st H60 H4.length (0+1+1+1) (.int .i64 n46)).bind λH61=>(Hp.st H61 H4.length (0+1+1+1+1) (.int .i64 n47)).bind λH62=>(Hp.st H62 H4.length (0+1+1+1+1+1) (.sl s48)).bind λH63=>(Hp.st H63 H4.length (0+1+1+1+1+1+1) (.int .i64 n49)).bind λH64=>(Hp.st H64 H4.length (0+1+1+1+1+1+1+1) (.int .i64 n50)).bind λH65=>(Hp.st H65 H4.length (0+1+1+1+1+1+1+1+1) (.sl s51)).bind λH66=>(Hp.st H66 H4.length (0+1+1+1+1+1+1+1+1+1) (.int .i64 n52)).bind λH67=>(Hp.st H67 H4.length (0+1+1+1+1+1+1+1+1+1+1) (.int .i64 n53)).bind λH68=>(Hp.st H68 H4.length (0+1+1+1+1+1+1+1+1+1+1+1) (.sl s54)).bind λH69=>(Hp.st H69 H4.length (0+1+1+1+1+1+1+1+1+1+1+1+1) (.int .i64 n55)).bind λH70=>(Hp.st H70 H4.length (0+1+1+1+1+1+1+1+1+1+1+1+1+1) (.int .i64 n56)).bind λH71=>(Hp.st H71 H4.length (0+1+1+1+1+1+1+1+1+1+1+1+1+1+1) (.sl s57)).bind λH72=>(Hp.ldI H72 .i64 H4.length 0).bind λn73=>(Hp.ldI H72 .i64 H4.length (0+1)).bind λn74=>(Hp.ldSl H72 H4.length (0+2)).bind λs75=>(Hp.ldI H72 .i64 H4.length (0+3)).bind λn76=>(Hp.ldI H72 .i64 H4.length (0+4)).bind λn77=>(Hp.ldSl H72 H4.length (0+5)).bind λs78=>(Hp.ldI H72 .i64 H4.length (0+6)).bind λn79=>(Hp.ldI H72 .i64 H4.length (0+7)).bind λn80=>(Hp.ldSl H72 H4.length (0+8)).bind λs81=>(Hp.ldI H72 .i64 H4.length (0+9)).bind λn82=>(Hp.ldI H72 .i64 H4.length (0+10)).bind λn83=>(Hp.ldSl H72 H4.length (0+11)).bind λs84=>(Hp.ldI H72 .i64 H4.length (0+12)).bind λn85=>(Hp.ldI H72 .i64 H4.length (0+13)).bind λn86=>(Hp.ldSl H72 H4.length (0+14)).bind λs87=>some ((.tup [(.agg [(.int .i64 n73),(.int .i64 n74),(.sl s75),(.int .i64 n76),(.int .i64 n77),(.sl s78),(.int .i64 n79),(.int .i64 n80),(.sl s81),(.int .i64 n82),(.int .i64 n83),(.sl s84),(.int .i64 n85),(.int .i64 n86),(.sl s87)]),(.int .i64 0)]),H72)))
def eW.tw:=eW.twX F (jj.tw F) (aV.tw F)
def eW.cs (F:Nat) (tO:ada) (tP:adE):Cs:=[(132,mk9 tO),(133,mk5 tP)]
theorem eW.eqX (tO:ada) (tP:adE) (aa:Int) (ac:Int) (aJ:Sl) (H:Hp):EX (bH (eW.cs F tO tP)) bI lh0 F Try.f82 [(.agg [(.int .i64 aa),(.int .i64 ac),(.sl aJ)])] H=eW.twX F tO tP aa ac aJ H:=by kernel_rfl
theorem eW.k:Ok Try.prog 82 (mk9 (eW.tw F)):=by
 intro args H v H' h
 unfold mk9 at h
 split at h
 ·exact okT (TB:=bI) Try.func82 (bl (jj.k F) (bl (aV.k F) cV)) af.no ((eW.eqX F (jj.tw F) (aV.tw F) _ _ _ H).trans h) (by kernel_rfl)
 ·cases h
def fE.twX (F:Nat) (cQ:ada) (gu:ada) (aa:Int) (ac:Int) (aJ:Sl) (H:Hp):OA:=(Hp.new H [(.int .i64 aa),(.int .i64 ac),(.sl aJ)]).bind λH4=>(Hp.new H4 [.int .i64 0,.int .i64 0,.sl ⟨none,0,.ex 0⟩,.int .i64 0,.int .i64 0,.sl ⟨none,0,.ex 0⟩,.int .i64 0,.int .i64 0,.sl ⟨none,0,.ex 0⟩,.int .i64 0,.int .i64 0,.sl ⟨none,0,.ex 0⟩,.int .i64 0,.int .i64 0,.sl ⟨none,0,.ex 0⟩]).bind λH5=>(Hp.ldI H5 .i64 H.length 0).bind λn6=>(Hp.ldI H5 .i64 H.length (0+1)).bind λn7=>(Hp.ldSl H5 H.length (0+2)).bind λs8=>(cQ n6 n7 s8 H5).bind λr9=>((r9.1).asB).bind λb10=>(bif (!b10) then ((Hp.st r9.2 H4.length 0 (.int .i64 0)).bind λH11=>(Hp.st H11 H4.length (0+1) (.int .i64 0)).bind λH12=>(Hp.st H12 H4.length (0+1+1) (.sl (⟨none,0,.ex 0⟩:Sl))).bind λH13=>(Hp.st H13 H4.length (0+1+1+1) (.int .i64 0)).bind λH14=>(Hp.st H14 H4.length (0+1+1+1+1) (.int .i64 0)).bind λH15=>(Hp.st H15 H4.length (0+1+1+1+1+1) (.sl (⟨none,0,.ex 0⟩:Sl))).bind λH16=>(Hp.st H16 H4.length (0+1+1+1+1+1+1) (.int .i64 0)).bind λH17=>(Hp.st H17 H4.length (0+1+1+1+1+1+1+1) (.int .i64 0)).bind λH18=>(Hp.st H18 H4.length (0+1+1+1+1+1+1+1+1) (.sl (⟨none,0,.ex 0⟩:Sl))).bind λH19=>(Hp.st H19 H4.length (0+1+1+1+1+1+1+1+1+1) (.int .i64 0)).bind λH20=>(Hp.st H20 H4.length (0+1+1+1+1+1+1+1+1+1+1) (.int .i64 0)).bind λH21=>(Hp.st H21 H4.length (0+1+1+1+1+1+1+1+1+1+1+1) (.sl (⟨none,0,.ex 0⟩:Sl))).bind λH22=>(Hp.st H22 H4.length (0+1+1+1+1+1+1+1+1+1+1+1+1) (.int .i64 0)).bind λH23=>(Hp.st H23 H4.length (0+1+1+1+1+1+1+1+1+1+1+1+1+1) (.int .i64 0)).bind λH24=>(Hp.st H24 H4.length (0+1+1+1+1+1+1+1+1+1+1+1+1+1+1) (.sl (⟨none,0,.ex 0⟩:Sl))).bind λH25=>(Hp.ldI H25 .i64 H4.length 0).bind λn26=>(Hp.ldI H25 .i64 H4.length (0+1)).bind λn27=>(Hp.ldSl H25 H4.length (0+2)).bind λs28=>(Hp.ldI H25 .i64 H4.length (0+3)).bind λn29=>(Hp.ldI H25 .i64 H4.length (0+4)).bind λn30=>(Hp.ldSl H25 H4.length (0+5)).bind λs31=>(Hp.ldI H25 .i64 H4.length (0+6)).bind λn32=>(Hp.ldI H25 .i64 H4.length (0+7)).bind λn33=>(Hp.ldSl H25 H4.length (0+8)).bind λs34=>(Hp.ldI H25 .i64 H4.length (0+9)).bind λn35=>(Hp.ldI H25 .i64 H4.length (0+10)).bind λn36=>(Hp.ldSl H25 H4.length (0+11)).bind λs37=>(Hp.ldI H25 .i64 H4.length (0+12)).bind λn38=>(Hp.ldI H25 .i64 H4.length (0+13)).bind λn39=>(Hp.ldSl H25 H4.length (0+14)).bind λs40=>some ((.tup [(.agg [(.int .i64 n26),(.int .i64 n27),(.sl s28),(.int .i64 n29),(.int .i64 n30),(.sl s31),(.int .i64 n32),(.int .i64 n33),(.sl s34),(.int .i64 n35),(.int .i64 n36),(.sl s37),(.int .i64 n38),(.int .i64 n39),(.sl s40)]),(.int .i64 1)]),H25)) else ((Hp.ldI r9.2 .i64 H.length 0).bind λn41=>(Hp.ldI r9.2 .i64 H.length (0+1)).bind λn42=>(Hp.ldSl r9.2 H.length (0+2)).bind λs43=>(gu n41 n42 s43 r9.2).bind λr44=>((r44.1).asTup 2).bind λl45=>(l45[0]?).bind λv46=>((v46).asAgg 15).bind λl47=>(l47[0]?).bind λv48=>((v48).asI .i64).bind λn49=>(l47[1]?).bind λv50=>((v50).asI .i64).bind λn51=>(l47[2]?).bind λv52=>((v52).asSl).bind λs53=>(l47[3]?).bind λv54=>((v54).asI .i64).bind λn55=>(l47[4]?).bind λv56=>((v56).asI .i64).bind λn57=>(l47[5]?).bind λv58=>((v58).asSl).bind λs59=>(l47[6]?).bind λv60=>((v60).asI .i64).bind λn61=>(l47[7]?).bind λv62=>((v62).asI .i64).bind λn63=>(l47[8]?).bind λv64=>((v64).asSl).bind λs65=>(l47[9]?).bind λv66=>((v66).asI .i64).bind λn67=>(l47[10]?).bind λv68=>((v68).asI .i64).bind λn69=>(l47[11]?).bind λv70=>((v70).asSl).bind λs71=>(l47[12]?).bind λv72=>((v72).asI .i64).bind λn73=>(l47[13]?).bind λv74=>((v74).asI .i64).bind λn75=>(l47[14]?).bind λv76=>((v76).asSl).bind λs77=>(l45[1]?).bind λv78=>((v78).asI .i64).bind λn79=>(Hp.st r44.2 H4.length 0 (.int .i64 n49)).bind λH80=>(Hp.st H80 H4.length (0+1) (.int .i64 n51)).bind λH81=>(Hp.st H81 H4.length (0+1+1) (.sl s53)).bind λH82=>(Hp.st H82 H4.length (0+1+1+1) (.int .i64 n55)).bind λH83=>(Hp.st H83 H4.length (0+1+1+1+1) (.int .i64 n57)).bind λH84=>(Hp.st H84 H4.length (0+1+1+1+1+1) (.sl s59)).bind λH85=>(Hp.st H85 H4.length (0+1+1+1+1+1+1) (.int .i64 n61)).bind λH86=>(Hp.st H86 H4.length (0+1+1+1+1+1+1+1) (.int .i64 n63)).bind λH87=>(Hp.st H87 H4.length (0+1+1+1+1+1+1+1+1) (.sl s65)).bind λH88=>(Hp.st H88 H4.length (0+1+1+1+1+1+1+1+1+1) (.int .i64 n67)).bind λH89=>(Hp.st H89 H4.length (0+1+1+1+1+1+1+1+1+1+1) (.int .i64 n69)).bind λH90=>(Hp.st H90 H4.length (0+1+1+1+1+1+1+1+1+1+1+1) (.sl s71)).bind λH91=>(Hp.st H91 H4.length (0+1+1+1+1+1+1+1+1+1+1+1+1) (.int .i64 n73)).bind λH92=>(Hp.st H92 H4.length (0+1+1+1+1+1+1+1+1+1+1+1+1+1) (.int .i64 n75)).bind λH93=>(Hp.st H93 H4.length (0+1+1+1+1+1+1+1+1+1+1+1+1+1+1) (.sl s77)).bind λH94=>(Hp.ldI H94 .i64 H4.length 0).bind λn95=>(Hp.ldI H94 .i64 H4.length (0+1)).bind λn96=>(Hp.ldSl H94 H4.length (0+2)).bind λs97=>(Hp.ldI H94 .i64 H4.length (0+3)).bind λn98=>(Hp.ldI H94 .i64 H4.length (0+4)).bind λn99=>(Hp.ldSl H94 H4.length (0+5)).bind λs100=>(Hp.ldI H94 .i64 H4.length (0+6)).bind λn101=>(Hp.ldI H94 .i64 H4.length (0+7)).bind λn102=>(Hp.ldSl H94 H4.length (0+8)).bind λs103=>(Hp.ldI H94 .i64 H4.length (0+9)).bind λn104=>(Hp.ldI H94 .i64 H4.length (0+10)).bind λn105=>(Hp.ldSl H94 H4.length (0+11)).bind λs106=>(Hp.ldI H94 .i64 H4.length (0+12)).bind λn107=>(Hp.ldI H94 .i64 H4.length (0+13)).bind λn108=>(Hp.ldSl H94 H4.length (0+14)).bind λs109=>some ((.tup [(.agg [(.int .i64 n95),(.int .i64 n96),(.sl s97),(.int .i64 n98),(.int .i64 n99),(.sl s100),(.int .i64 n101),(.int .i64 n102),(.sl s103),(.int .i64 n104),(.int .i64 n105),(.sl s106),(.int .i64 n107),(.int .i64 n108),(.sl s109)]),(.int .i64 n79)]),H94)))
def fE.tw:=fE.twX F (cn.tw F) (eW.tw F)
def fE.cs (F:Nat) (cQ:ada) (gu:ada):Cs:=[(76,mk9 cQ),(82,mk9 gu)]
theorem fE.eqX (cQ:ada) (gu:ada) (aa:Int) (ac:Int) (aJ:Sl) (H:Hp):EX (bH (fE.cs F cQ gu)) bI lh0 F Try.f27 [(.agg [(.int .i64 aa),(.int .i64 ac),(.sl aJ)])] H=fE.twX F cQ gu aa ac aJ H:=by kernel_rfl
theorem fE.k:Ok Try.prog 27 (mk9 (fE.tw F)):=by
 intro args H v H' h
 unfold mk9 at h
 split at h
 ·exact okT (TB:=bI) Try.func27 (bl (cn.k F) (bl (eW.k F) cV)) af.no ((fE.eqX F (cn.tw F) (eW.tw F) _ _ _ H).trans h) (by kernel_rfl)
 ·cases h
def bu.j2 (F:Nat) (gu:ada) (ae:ac8) (C125_:ad7) (zL:Nat) (TZ:Nat) (T_:Sl) (tQ:Int) (tR:Int) (H132:Hp):OA:=C125_ zL TZ T_ tQ (wrap .i64 (tR+1)) H132
def bu.l125 (F:Nat) (gu:ada) (ae:ac8) :Nat->Nat->Nat->Sl->Int->Int->Hp->OA
 | 0,_,_,_,_,_,_=>none
 | Lz+1,mH,qO,w_,lu,jH,H76=>(bif (decide (jH<lu)) then ((Hp.ldI H76 .i64 mH (qO+6)).bind λn105=>(Hp.ldI H76 .i64 mH ((qO+6)+1)).bind λn106=>(Hp.ldSl H76 mH ((qO+6)+2)).bind λs107=>(ae n105 n106 s107 jH jH H76).bind λr108=>((r108.1).asP).bind λp109=>(Hp.ldI r108.2 .i64 p109.1 p109.2).bind λn110=>(bif (n110 != 0) then ((Hp.new r108.2 [(.int .i64 n110)]).bind λH111=>(Sl.row H111 (⟨some (r108.2.length,0),1,.ex 1⟩:Sl) 1).bind λxs113=>(Hp.app H111 1 8 w_ (⟨some (r108.2.length,0),1,.ex 1⟩:Sl).n xs113).bind λa112=>bu.j2 F gu ae (bu.l125 F gu ae Lz) mH qO a112.1 lu jH a112.2) else (bu.j2 F gu ae (bu.l125 F gu ae Lz) mH qO w_ lu jH r108.2))) else (some ((.tup [(.sl w_),(.int .i64 0)]),H76)))
termination_by structural n=>n
def bu.twX (gu:ada) (ae:ac8) (aa:Int) (ac:Int) (aJ:Sl) (H:Hp):OA:=(Hp.new H [(.int .i64 aa),(.int .i64 ac),(.sl aJ)]).bind λH4=>(Hp.ldI H4 .i64 H.length 0).bind λn5=>(Hp.ldI H4 .i64 H.length (0+1)).bind λn6=>(Hp.ldSl H4 H.length (0+2)).bind λs7=>(gu n5 n6 s7 H4).bind λr8=>((r8.1).asTup 2).bind λl9=>(l9[0]?).bind λv10=>((v10).asAgg 15).bind λl11=>(l11[0]?).bind λv12=>((v12).asI .i64).bind λn13=>(l11[1]?).bind λv14=>((v14).asI .i64).bind λn15=>(l11[2]?).bind λv16=>((v16).asSl).bind λs17=>(l11[3]?).bind λv18=>((v18).asI .i64).bind λn19=>(l11[4]?).bind λv20=>((v20).asI .i64).bind λn21=>(l11[5]?).bind λv22=>((v22).asSl).bind λs23=>(l11[6]?).bind λv24=>((v24).asI .i64).bind λn25=>(l11[7]?).bind λv26=>((v26).asI .i64).bind λn27=>(l11[8]?).bind λv28=>((v28).asSl).bind λs29=>(l11[9]?).bind λv30=>((v30).asI .i64).bind λn31=>(l11[10]?).bind λv32=>((v32).asI .i64).bind λn33=>(l11[11]?).bind λv34=>((v34).asSl).bind λs35=>(l11[12]?).bind λv36=>((v36).asI .i64).bind λn37=>(l11[13]?).bind λv38=>((v38).asI .i64).bind λn39=>(l11[14]?).bind λv40=>((v40).asSl).bind λs41=>(l9[1]?).bind λv42=>((v42).asI .i64).bind λn43=>(Hp.new r8.2 [.int .i64 0,.int .i64 0,.sl ⟨none,0,.ex 0⟩,.int .i64 0,.int .i64 0,.sl ⟨none,0,.ex 0⟩,.int .i64 0,.int .i64 0,.sl ⟨none,0,.ex 0⟩,.int .i64 0,.int .i64 0,.sl ⟨none,0,.ex 0⟩,.int .i64 0,.int .i64 0,.sl ⟨none,0,.ex 0⟩]).bind λH44=>(Hp.st H44 r8.2.length 0 (.int .i64 n13)).bind λH45=>(Hp.st H45 r8.2.length (0+1) (.int .i64 n15)).bind λH46=>(Hp.st H46 r8.2.length (0+1+1) (.sl s17)).bind λH47=>(Hp.st H47 r8.2.length (0+1+1+1) (.int .i64 n19)).bind λH48=>(Hp.st H48 r8.2.length (0+1+1+1+1) (.int .i64 n21)).bind λH49=>(Hp.st H49 r8.2.length (0+1+1+1+1+1) (.sl s23)).bind λH50=>(Hp.st H50 r8.2.length (0+1+1+1+1+1+1) (.int .i64 n25)).bind λH51=>(Hp.st H51 r8.2.length (0+1+1+1+1+1+1+1) (.int .i64 n27)).bind λH52=>(Hp.st H52 r8.2.length (0+1+1+1+1+1+1+1+1) (.sl s29)).bind λH53=>(Hp.st H53 r8.2.length (0+1+1+1+1+1+1+1+1+1) (.int .i64 n31)).bind λH54=>(Hp.st H54 r8.2.length (0+1+1+1+1+1+1+1+1+1+1) (.int .i64 n33)).bind λH55=>(Hp.st H55 r8.2.length (0+1+1+1+1+1+1+1+1+1+1+1) (.sl s35)).bind λH56=>(Hp.st H56 r8.2.length (0+1+1+1+1+1+1+1+1+1+1+1+1) (.int .i64 n37)).bind λH57=>(Hp.st H57 r8.2.length (0+1+1+1+1+1+1+1+1+1+1+1+1+1) (.int .i64 n39)).bind λH58=>(Hp.st H58 r8.2.length (0+1+1+1+1+1+1+1+1+1+1+1+1+1+1) (.sl s41)).bind λH59=>(bif (n43 != 0) then (some ((.tup [(.sl (⟨none,0,.ex 0⟩:Sl)),(.int .i64 n43)]),H59)) else ((Hp.ldI H59 .i64 H.length 0).bind λn60=>(Hp.ldI H59 .i64 H.length 1).bind λn61=>bu.l125 F gu ae F r8.2.length 0 (⟨none,0,.ex 0⟩:Sl) (if n61<n60 then n61 else n60) 0 H59))
def bu.tw:=bu.twX F (eW.tw F) (aS.tw F)
def bu.lh125 (gu:ada) (ae:ac8) (ks:adc) (n:Nat) (tm:Tm) (H:Hp):OA:=match ks,tm 4,tm 6,tm 21,tm 22 with
 | [],(.ptr mH qO),(.sl w_),(.int .i64 lu),(.int .i64 jH)=>bu.l125 F gu ae n mH qO w_ lu jH H
 | _,_,_,_,_=>none
def bu.lh (gu:ada) (ae:ac8) (p:Nat) (ks:adc) (n:Nat) (tm:Tm) (H:Hp):OA:=bif p.beq 125 then bu.lh125 F gu ae ks n tm H else (none)
def bu.cs (F:Nat) (gu:ada) (ae:ac8):Cs:=[(82,mk9 gu),(75,mk10 ae)]
theorem bu.loops (gu:ada) (ae:ac8):LO (bH (bu.cs F gu ae)) bI (bu.lh F gu ae) F Try.f67:=
 (af.rt (af.rt (af.rt (af.rt (af.lt (af.rt (af.block (af.la (λn tm H r h=>by change bu.lh125 F gu ae [] n tm H=_ at h;unfold bu.lh125 at h;split at h;have e:eH tm [(4,_),(6,_),(21,_),(22,_)]:=⟨‹_›,‹_›,‹_›,‹_›,trivial⟩;obtain _ | k125:=n;cases h;exact ⟨_,rfl,by rw [<- eQ e];exact Eq.trans (by kernel_rfl) h⟩;cases h) λk125=>af.no))))))))
theorem bu.eqX (gu:ada) (ae:ac8) (aa:Int) (ac:Int) (aJ:Sl) (H:Hp):EX (bH (bu.cs F gu ae)) bI (bu.lh F gu ae) F Try.f67 [(.agg [(.int .i64 aa),(.int .i64 ac),(.sl aJ)])] H=bu.twX F gu ae aa ac aJ H:=by kernel_rfl
theorem bu.k:Ok Try.prog 67 (mk9 (bu.tw F)):=by
 intro args H v H' h
 unfold mk9 at h
 split at h
 ·exact okT (TB:=bI) Try.func67 (bl (eW.k F) (bl (aS.k F) cV)) (bu.loops F (eW.tw F) (aS.tw F)) ((bu.eqX F (eW.tw F) (aS.tw F) _ _ _ H).trans h) (by kernel_rfl)
 ·cases h
def eR.twX (F:Nat) (cQ:ada) (tS:ada) (aa:Int) (ac:Int) (aJ:Sl) (H:Hp):OA:=(Hp.new H [(.int .i64 aa),(.int .i64 ac),(.sl aJ)]).bind λH4=>(Hp.ldI H4 .i64 H.length 0).bind λn5=>(Hp.ldI H4 .i64 H.length (0+1)).bind λn6=>(Hp.ldSl H4 H.length (0+2)).bind λs7=>(cQ n5 n6 s7 H4).bind λr8=>((r8.1).asB).bind λb9=>(bif (!b9) then (some ((.tup [(.sl (⟨none,0,.ex 0⟩:Sl)),(.int .i64 1)]),r8.2)) else ((Hp.ldI r8.2 .i64 H.length 0).bind λn10=>(Hp.ldI r8.2 .i64 H.length (0+1)).bind λn11=>(Hp.ldSl r8.2 H.length (0+2)).bind λs12=>(tS n10 n11 s12 r8.2).bind λr13=>((r13.1).asTup 2).bind λl14=>(l14[0]?).bind λv15=>((v15).asSl).bind λs16=>(l14[1]?).bind λv17=>((v17).asI .i64).bind λn18=>some ((.tup [(.sl s16),(.int .i64 n18)]),r13.2)))
def eR.tw:=eR.twX F (cn.tw F) (bu.tw F)
def eR.cs (F:Nat) (cQ:ada) (tS:ada):Cs:=[(76,mk9 cQ),(67,mk9 tS)]
theorem eR.eqX (cQ:ada) (tS:ada) (aa:Int) (ac:Int) (aJ:Sl) (H:Hp):EX (bH (eR.cs F cQ tS)) bI lh0 F Try.f24 [(.agg [(.int .i64 aa),(.int .i64 ac),(.sl aJ)])] H=eR.twX F cQ tS aa ac aJ H:=by kernel_rfl
theorem eR.k:Ok Try.prog 24 (mk9 (eR.tw F)):=by
 intro args H v H' h
 unfold mk9 at h
 split at h
 ·exact okT (TB:=bI) Try.func24 (bl (cn.k F) (bl (bu.k F) cV)) af.no ((eR.eqX F (cn.tw F) (bu.tw F) _ _ _ H).trans h) (by kernel_rfl)
 ·cases h
def ci.l29 (F:Nat) (ae:ac8) (g_:adi) (bQ:adb) :Nat->Int->Int->Nat->Nat->Nat->Nat->Int->Int->Int->Int->Hp->OA
 | 0,_,_,_,_,_,_,_,_,_,_,_=>none
 | ft+1,mI,iM,kq,tT,nP,tU,mJ,mK,mL,kr,H30=>(bif (decide (kr<mL)) then ((Hp.ldI H30 .i64 kq tT).bind λn51=>(Hp.ldI H30 .i64 kq (tT+1)).bind λn52=>(Hp.ldSl H30 kq (tT+2)).bind λs53=>(ae n51 n52 s53 mI kr H30).bind λr54=>((r54.1).asP).bind λp55=>(if bh H30 r54.2 then ((Hp.ldI r54.2 .i64 p55.1 p55.2).bind λn56=>(Hp.ldI r54.2 .i64 nP tU).bind λn57=>(Hp.ldI r54.2 .i64 nP (tU+1)).bind λn58=>(Hp.ldSl r54.2 nP (tU+2)).bind λs59=>(ae n57 n58 s59 kr iM r54.2).bind λr60=>((r60.1).asP).bind λp61=>(if bh r54.2 r60.2 then ((Hp.ldI r60.2 .i64 p61.1 p61.2).bind λn62=>(g_ n56 n62 1000000000000 r60.2).bind λr63=>((r63.1).asTup 2).bind λl64=>(l64[0]?).bind λv65=>((v65).asI .i64).bind λn66=>(l64[1]?).bind λv67=>((v67).asB).bind λb68=>(bQ n66 r63.2).bind λr69=>((r69.1).asI .i64).bind λn70=>(bif (!b68) then (some ((.tup [(.int .i64 0),(.bool false)]),r69.2)) else ((bif (decide ((wrap .i64 (mK+n70))>1000000000000)) then (some ((.tup [(.int .i64 0),(.bool false)]),r69.2)) else (ci.l29 F ae g_ bQ ft mI iM kq tT nP tU (wrap .i64 (mJ+n66)) (wrap .i64 (mK+n70)) mL (wrap .i64 (kr+1)) r69.2))))) else none)) else none)) else (some ((.tup [(.int .i64 mJ),(.bool true)]),H30)))
termination_by structural n=>n
def ci.twX (ae:ac8) (g_:adi) (bQ:adb) (aa:Int) (ac:Int) (aJ:Sl) (ak:Int) (aO:Int) (cO:Sl) (fF:Int) (kU:Int) (H:Hp):OA:=(Hp.new H [(.int .i64 aa),(.int .i64 ac),(.sl aJ)]).bind λH9=>(Hp.new H9 [(.int .i64 ak),(.int .i64 aO),(.sl cO)]).bind λH10=>(Hp.ldI H10 .i64 H.length 1).bind λn11=>ci.l29 F ae g_ bQ F fF kU H.length 0 H9.length 0 0 0 n11 0 H10
def ci.tw:=ci.twX F (aS.tw F) (eM.tw F) (cP.tw F)
def ci.lh29 (ae:ac8) (g_:adi) (bQ:adb) (ks:adc) (n:Nat) (tm:Tm) (H:Hp):OA:=match ks,tm 2,tm 3,tm 4,tm 5,tm 10,tm 11,tm 16,tm 17 with
 | [],(.int .i64 mI),(.int .i64 iM),(.ptr kq tT),(.ptr nP tU),(.int .i64 mJ),(.int .i64 mK),(.int .i64 mL),(.int .i64 kr)=>ci.l29 F ae g_ bQ n mI iM kq tT nP tU mJ mK mL kr H
 | _,_,_,_,_,_,_,_,_=>none
def ci.lh (ae:ac8) (g_:adi) (bQ:adb) (p:Nat) (ks:adc) (n:Nat) (tm:Tm) (H:Hp):OA:=bif p.beq 29 then ci.lh29 F ae g_ bQ ks n tm H else (none)
def ci.pn:Nat->List Nat:=eP [(5,[12])]
def ci.tb:Nat->List (List Nat):=eP [(5,[[],[],[],[0,1,2],[0,1,2,3],[0,1,2,3,4],[],[],[],[0,1,2,3,6,7,8],[0,1,2,3,6,7,8,9],[0,1,2,3,6,7,8,9,10],[0,1,2,3,4,5,6,7,8,9,10,11],[0,1,2,3,4,5,6,7,8,9,10,11,12],[0,1,2,3,4,5,6,7,8,9,10,11,12,13],[0,1,2,3,4,5,6,7,8,9,10,11,12,13],[0,1,2,3,4,5,6,7,8,9,10,11,12,13,14],[0,1,2,3,4,5,6,7,8,9,10,11,12,13,14,15,16]])]
def mk18 (g:adu) (args:adg) (H:Hp):OA:=match args with
 | [(.agg [(.int .i64 aa),(.int .i64 ac),(.sl aJ)]),(.agg [(.int .i64 ak),(.int .i64 aO),(.sl cO)]),(.int .i64 fF),(.int .i64 kU)]=>g aa ac aJ ak aO cO fF kU H
 | _=>none
theorem mk18_E (g:adu) (aa:Int) (ac:Int) (aJ:Sl) (ak:Int) (aO:Int) (cO:Sl) (fF:Int) (kU:Int) (H:Hp):mk18 g [(.agg [(.int .i64 aa),(.int .i64 ac),(.sl aJ)]),(.agg [(.int .i64 ak),(.int .i64 aO),(.sl cO)]),(.int .i64 fF),(.int .i64 kU)] H=g aa ac aJ ak aO cO fF kU H:=rfl
def ci.cs (F:Nat) (ae:ac8) (g_:adi) (bQ:adb):Cs:=[(75,mk10 ae),(172,mk6 g_),(97,mk7 bQ)]
theorem ci.loops (ae:ac8) (g_:adi) (bQ:adb):LO (bH (ci.cs F ae g_ bQ)) ci.pn (ci.lh F ae g_ bQ) F Try.f121:=
 (af.rt (af.rt (af.lt (af.rt (af.block (af.la (λn tm H r h=>by change ci.lh29 F ae g_ bQ [] n tm H=_ at h;unfold ci.lh29 at h;split at h;have e:eH tm [(2,_),(3,_),(4,_),(5,_),(10,_),(11,_),(16,_),(17,_)]:=⟨‹_›,‹_›,‹_›,‹_›,‹_›,‹_›,‹_›,‹_›,trivial⟩;obtain _ | k29:=n;cases h;exact ⟨_,rfl,by rw [<- eQ e];exact Eq.trans (by kernel_rfl) h⟩;cases h) λk29=>af.no))))))
theorem ci.eqX (ae:ac8) (g_:adi) (bQ:adb) (aa:Int) (ac:Int) (aJ:Sl) (ak:Int) (aO:Int) (cO:Sl) (fF:Int) (kU:Int) (H:Hp):EX (bH (ci.cs F ae g_ bQ)) ci.pn (ci.lh F ae g_ bQ) F Try.f121 [(.agg [(.int .i64 aa),(.int .i64 ac),(.sl aJ)]),(.agg [(.int .i64 ak),(.int .i64 aO),(.sl cO)]),(.int .i64 fF),(.int .i64 kU)] H=ci.twX F ae g_ bQ aa ac aJ ak aO cO fF kU H:=by kernel_rfl
theorem ci.k:Ok Try.prog 121 (mk18 (ci.tw F)):=by
 intro args H v H' h
 unfold mk18 at h
 split at h
 ·exact okT (TB:=ci.tb) Try.func121 (bl (aS.k F) (bl (eM.k F) (bl (cP.k F) cV))) (ci.loops F (aS.tw F) (eM.tw F) (cP.tw F)) ((ci.eqX F (aS.tw F) (eM.tw F) (cP.tw F) _ _ _ _ _ _ _ _ H).trans h) (by kernel_rfl)
 ·cases h
def aL.j3 (F:Nat) (cQ:ada) (db:adf) (fU:adu) (ae:ac8) (C61_:adt) (zM:Nat) (Ua:Nat) (zN:Nat) (Ub:Nat) (zO:Nat) (Uc:Nat) (zP:Nat) (Ud:Nat) (tV:Int) (tW:Int) (H305:Hp):OA:=C61_ zM Ua zN Ub zO Uc zP Ud tV (wrap .i64 (tW+1)) H305
def aL.j4 (cQ:ada) (db:adf) (fU:adu) (ae:ac8) (C61_:adt) (zQ:Nat) (Ue:Nat) (zR:Nat) (Uf:Nat) (zS:Nat) (Ug:Nat) (zT:Nat) (Uh:Nat) (tX:Int) (tY:Int) (H280:Hp):OA:=aL.j3 F cQ db fU ae C61_ zQ Ue zR Uf zS Ug zT Uh tX tY H280
def aL.l3931 (F:Nat) (cQ:ada) (db:adf) (fU:adu) (ae:ac8) (C61_:adt):Nat->Nat->Nat->Nat->Nat->Nat->Nat->Nat->Nat->Int->Int->Int->Int->Int->Hp->OA
 | 0,_,_,_,_,_,_,_,_,_,_,_,_,_,_=>none
 | Ui+1,mM,qP,mN,qQ,kV,nQ,mO,qR,mP,mQ,lw,mR,kt,H231=>(bif (decide (kt<mR)) then ((Hp.ldI H231 .i64 mM qP).bind λn306=>(Hp.ldI H231 .i64 mM (qP+1)).bind λn307=>(Hp.ldSl H231 mM (qP+2)).bind λs308=>(Hp.ldI H231 .i64 mN qQ).bind λn309=>(Hp.ldI H231 .i64 mN (qQ+1)).bind λn310=>(Hp.ldSl H231 mN (qQ+2)).bind λs311=>(fU n306 n307 s308 n309 n310 s311 lw kt H231).bind λr312=>((r312.1).asTup 2).bind λl313=>(l313[0]?).bind λv314=>((v314).asI .i64).bind λn315=>(l313[1]?).bind λv316=>((v316).asB).bind λb317=>(bif (!b317) then ((Hp.st r312.2 kV nQ (.int .i64 0)).bind λH318=>(Hp.st H318 kV (nQ+1) (.int .i64 0)).bind λH319=>(Hp.st H319 kV (nQ+1+1) (.sl (⟨none,0,.ex 0⟩:Sl))).bind λH320=>(Hp.ldI H320 .i64 kV nQ).bind λn321=>(Hp.ldI H320 .i64 kV (nQ+1)).bind λn322=>(Hp.ldSl H320 kV (nQ+2)).bind λs323=>some ((.tup [(.agg [(.int .i64 n321),(.int .i64 n322),(.sl s323)]),(.int .i64 3)]),H320)) else ((Hp.ldI r312.2 .i64 mO qR).bind λn324=>(Hp.ldI r312.2 .i64 mO (qR+1)).bind λn325=>(Hp.ldSl r312.2 mO (qR+2)).bind λs326=>(ae n324 n325 s326 lw kt r312.2).bind λr327=>((r327.1).asP).bind λp328=>(Hp.st r327.2 p328.1 p328.2 (.int .i64 n315)).bind λH329=>aL.l3931 F cQ db fU ae C61_ Ui mM qP mN qQ kV nQ mO qR mP mQ lw mR (wrap .i64 (kt+1)) H329))) else (aL.j4 F cQ db fU ae C61_ mM qP mN qQ kV nQ mO qR mP mQ H231))
termination_by structural n=>n
def aL.l61 (F:Nat) (cQ:ada) (db:adf) (fU:adu) (ae:ac8) :Nat->Nat->Nat->Nat->Nat->Nat->Nat->Nat->Nat->Int->Int->Hp->OA
 | 0,_,_,_,_,_,_,_,_,_,_,_=>none
 | pA+1,qS,EA,pJ,zU,lx,oB,nR,tZ,mS,ly,H74=>(bif (decide (ly<mS)) then ((Hp.ldI H74 .i64 pJ (zU+1)).bind λn207=>aL.l3931 F cQ db fU ae (aL.l61 F cQ db fU ae pA) F qS EA pJ zU lx oB nR tZ mS ly ly n207 0 H74) else ((Hp.ldI H74 .i64 nR tZ).bind λn330=>(Hp.ldI H74 .i64 nR (tZ+1)).bind λn331=>(Hp.ldSl H74 nR (tZ+2)).bind λs332=>(Hp.st H74 lx oB (.int .i64 n330)).bind λH333=>(Hp.st H333 lx (oB+1) (.int .i64 n331)).bind λH334=>(Hp.st H334 lx (oB+1+1) (.sl s332)).bind λH335=>(Hp.ldI H335 .i64 lx oB).bind λn336=>(Hp.ldI H335 .i64 lx (oB+1)).bind λn337=>(Hp.ldSl H335 lx (oB+2)).bind λs338=>some ((.tup [(.agg [(.int .i64 n336),(.int .i64 n337),(.sl s338)]),(.int .i64 0)]),H335)))
termination_by structural n=>n
def aL.twX (cQ:ada) (db:adf) (fU:adu) (ae:ac8) (aa:Int) (ac:Int) (aJ:Sl) (ak:Int) (aO:Int) (cO:Sl) (H:Hp):OA:=(Hp.new H [(.int .i64 aa),(.int .i64 ac),(.sl aJ)]).bind λH7=>(Hp.new H7 [(.int .i64 ak),(.int .i64 aO),(.sl cO)]).bind λH8=>(Hp.new H8 [.int .i64 0,.int .i64 0,.sl ⟨none,0,.ex 0⟩]).bind λH9=>(Hp.ldI H9 .i64 H.length 0).bind λn10=>(Hp.ldI H9 .i64 H.length (0+1)).bind λn11=>(Hp.ldSl H9 H.length (0+2)).bind λs12=>(cQ n10 n11 s12 H9).bind λr13=>((r13.1).asB).bind λb14=>(bif (!b14) then ((Hp.st r13.2 H8.length 0 (.int .i64 0)).bind λH15=>(Hp.st H15 H8.length (0+1) (.int .i64 0)).bind λH16=>(Hp.st H16 H8.length (0+1+1) (.sl (⟨none,0,.ex 0⟩:Sl))).bind λH17=>(Hp.ldI H17 .i64 H8.length 0).bind λn18=>(Hp.ldI H17 .i64 H8.length (0+1)).bind λn19=>(Hp.ldSl H17 H8.length (0+2)).bind λs20=>some ((.tup [(.agg [(.int .i64 n18),(.int .i64 n19),(.sl s20)]),(.int .i64 1)]),H17)) else ((Hp.ldI r13.2 .i64 H7.length 0).bind λn21=>(Hp.ldI r13.2 .i64 H7.length (0+1)).bind λn22=>(Hp.ldSl r13.2 H7.length (0+2)).bind λs23=>(cQ n21 n22 s23 r13.2).bind λr24=>((r24.1).asB).bind λb25=>(bif (!b25) then ((Hp.st r24.2 H8.length 0 (.int .i64 0)).bind λH26=>(Hp.st H26 H8.length (0+1) (.int .i64 0)).bind λH27=>(Hp.st H27 H8.length (0+1+1) (.sl (⟨none,0,.ex 0⟩:Sl))).bind λH28=>(Hp.ldI H28 .i64 H8.length 0).bind λn29=>(Hp.ldI H28 .i64 H8.length (0+1)).bind λn30=>(Hp.ldSl H28 H8.length (0+2)).bind λs31=>some ((.tup [(.agg [(.int .i64 n29),(.int .i64 n30),(.sl s31)]),(.int .i64 1)]),H28)) else ((Hp.ldI r24.2 .i64 H.length 1).bind λn32=>(Hp.ldI r24.2 .i64 H7.length 0).bind λn33=>(bif (n32 != n33) then ((Hp.st r24.2 H8.length 0 (.int .i64 0)).bind λH34=>(Hp.st H34 H8.length (0+1) (.int .i64 0)).bind λH35=>(Hp.st H35 H8.length (0+1+1) (.sl (⟨none,0,.ex 0⟩:Sl))).bind λH36=>(Hp.ldI H36 .i64 H8.length 0).bind λn37=>(Hp.ldI H36 .i64 H8.length (0+1)).bind λn38=>(Hp.ldSl H36 H8.length (0+2)).bind λs39=>some ((.tup [(.agg [(.int .i64 n37),(.int .i64 n38),(.sl s39)]),(.int .i64 2)]),H36)) else ((Hp.ldI r24.2 .i64 H.length 0).bind λn40=>(Hp.ldI r24.2 .i64 H7.length 1).bind λn41=>(db n40 n41 r24.2).bind λr42=>((r42.1).asAgg 3).bind λl43=>(l43[0]?).bind λv44=>((v44).asI .i64).bind λn45=>(l43[1]?).bind λv46=>((v46).asI .i64).bind λn47=>(l43[2]?).bind λv48=>((v48).asSl).bind λs49=>(Hp.new r42.2 [.int .i64 0,.int .i64 0,.sl ⟨none,0,.ex 0⟩]).bind λH50=>(Hp.st H50 r42.2.length 0 (.int .i64 n45)).bind λH51=>(Hp.st H51 r42.2.length (0+1) (.int .i64 n47)).bind λH52=>(Hp.st H52 r42.2.length (0+1+1) (.sl s49)).bind λH53=>(Hp.ldI H53 .i64 H.length 0).bind λn54=>aL.l61 F cQ db fU ae F H.length 0 H7.length 0 H8.length 0 r42.2.length 0 n54 0 H53))))))
def aL.tw:=aL.twX F (cn.tw F) (eG.tw F) (ci.tw F) (aS.tw F)
def aL.lh61 (cQ:ada) (db:adf) (fU:adu) (ae:ac8) (ks:adc) (n:Nat) (tm:Tm) (H:Hp):OA:=match ks,tm 2,tm 3,tm 4,tm 6,tm 34,tm 35 with
 | [],(.ptr qS EA),(.ptr pJ zU),(.ptr lx oB),(.ptr nR tZ),(.int .i64 mS),(.int .i64 ly)=>aL.l61 F cQ db fU ae n qS EA pJ zU lx oB nR tZ mS ly H
 | _,_,_,_,_,_,_=>none
def aL.lh3931 (cQ:ada) (db:adf) (fU:adu) (ae:ac8) (ks:adc) (n:Nat) (tm:Tm) (H:Hp):OA:=match ks,tm 2,tm 3,tm 4,tm 6,tm 7,tm 34,tm 35,tm 39,tm 40 with
 | [pA],(.ptr mM qP),(.ptr mN qQ),(.ptr kV nQ),(.ptr mO qR),(.int .i64 lw),(.int .i64 mP),(.int .i64 mQ),(.int .i64 mR),(.int .i64 kt)=>aL.l3931 F cQ db fU ae (aL.l61 F cQ db fU ae pA) n mM qP mN qQ kV nQ mO qR mP mQ lw mR kt H
 | _,_,_,_,_,_,_,_,_,_=>none
def aL.lh (cQ:ada) (db:adf) (fU:adu) (ae:ac8) (p:Nat) (ks:adc) (n:Nat) (tm:Tm) (H:Hp):OA:=bif p.beq 3931 then aL.lh3931 F cQ db fU ae ks n tm H else (bif p.beq 61 then aL.lh61 F cQ db fU ae ks n tm H else (none))
def mk19 (g:adj) (args:adg) (H:Hp):OA:=match args with
 | [(.agg [(.int .i64 aa),(.int .i64 ac),(.sl aJ)]),(.agg [(.int .i64 ak),(.int .i64 aO),(.sl cO)])]=>g aa ac aJ ak aO cO H
 | _=>none
theorem mk19_E (g:adj) (aa:Int) (ac:Int) (aJ:Sl) (ak:Int) (aO:Int) (cO:Sl) (H:Hp):mk19 g [(.agg [(.int .i64 aa),(.int .i64 ac),(.sl aJ)]),(.agg [(.int .i64 ak),(.int .i64 aO),(.sl cO)])] H=g aa ac aJ ak aO cO H:=rfl
def aL.cs (F:Nat) (cQ:ada) (db:adf) (fU:adu) (ae:ac8):Cs:=[(76,mk9 cQ),(74,mk3 db),(121,mk18 fU),(75,mk10 ae)]
theorem aL.loops (cQ:ada) (db:adf) (fU:adu) (ae:ac8):LO (bH (aL.cs F cQ db fU ae)) bI (aL.lh F cQ db fU ae) F Try.f64:=
 (af.rt (af.rt (af.rt (af.lt (af.rt (af.block (af.la (λn tm H r h=>by change aL.lh61 F cQ db fU ae [] n tm H=_ at h;unfold aL.lh61 at h;split at h;have e:eH tm [(2,_),(3,_),(4,_),(6,_),(34,_),(35,_)]:=⟨‹_›,‹_›,‹_›,‹_›,‹_›,‹_›,trivial⟩;obtain _ | k61:=n;cases h;exact ⟨_,rfl,by rw [<- eQ e];exact Eq.trans (by kernel_rfl) h⟩;cases h) λk61=>(af.rt (af.rt (af.lt (af.block (af.rt (af.rt (af.block (af.la (λn tm H r h=>by change aL.lh3931 F cQ db fU ae [k61] n tm H=_ at h;unfold aL.lh3931 at h;split at h;have e:eH tm [(2,_),(3,_),(4,_),(6,_),(7,_),(34,_),(35,_),(39,_),(40,_)]:=⟨‹_›,‹_›,‹_›,‹_›,‹_›,‹_›,‹_›,‹_›,‹_›,trivial⟩;cases (show [k61]=_ from ‹_›);obtain _ | k3931:=n;cases h;exact ⟨_,rfl,by rw [<- eQ e];exact Eq.trans (by kernel_rfl) h⟩;cases h) λk3931=>af.no)))))))))))))))
theorem aL.eqX (cQ:ada) (db:adf) (fU:adu) (ae:ac8) (aa:Int) (ac:Int) (aJ:Sl) (ak:Int) (aO:Int) (cO:Sl) (H:Hp):EX (bH (aL.cs F cQ db fU ae)) bI (aL.lh F cQ db fU ae) F Try.f64 [(.agg [(.int .i64 aa),(.int .i64 ac),(.sl aJ)]),(.agg [(.int .i64 ak),(.int .i64 aO),(.sl cO)])] H=aL.twX F cQ db fU ae aa ac aJ ak aO cO H:=by kernel_rfl
theorem aL.k:Ok Try.prog 64 (mk19 (aL.tw F)):=by
 intro args H v H' h
 unfold mk19 at h
 split at h
 ·exact okT (TB:=bI) Try.func64 (bl (cn.k F) (bl (eG.k F) (bl (ci.k F) (bl (aS.k F) cV)))) (aL.loops F (cn.tw F) (eG.tw F) (ci.tw F) (aS.tw F)) ((aL.eqX F (cn.tw F) (eG.tw F) (ci.tw F) (aS.tw F) _ _ _ _ _ _ H).trans h) (by kernel_rfl)
 ·cases h
def cW.l29 (F:Nat) :Nat->Sl->Sl->Int->Int->Hp->OA
 | 0,_,_,_,_,_=>none
 | ft+1,fH,oC,mT,ku,H9=>(bif (decide (ku<mT)) then ((Sl.idx fH ku 1).bind λp14=>(Hp.ldI H9 .i64 p14.1 p14.2).bind λn15=>(Sl.idx oC ku 1).bind λp16=>(Hp.ldI H9 .i64 p16.1 p16.2).bind λn17=>(bif (n15 != n17) then (some ((.bool false),H9)) else (cW.l29 F ft fH oC mT (wrap .i64 (ku+1)) H9))) else (some ((.bool true),H9)))
def cW.twX (aa:Sl) (ax:Sl) (H:Hp):OA:=(bif ((aa.n:Int) != (ax.n:Int)) then (some ((.bool false),H)) else (cW.l29 F F aa ax (aa.n:Int) 0 H))
def cW.tw:=cW.twX F
def cW.lh29 (ks:adc) (n:Nat) (tm:Tm) (H:Hp):OA:=match ks,tm 0,tm 1,tm 12,tm 13 with
 | [],(.sl fH),(.sl oC),(.int .i64 mT),(.int .i64 ku)=>cW.l29 F n fH oC mT ku H
 | _,_,_,_,_=>none
def cW.lh (p:Nat) (ks:adc) (n:Nat) (tm:Tm) (H:Hp):OA:=bif p.beq 29 then cW.lh29 F ks n tm H else (none)
def cW.tb:Nat->List (List Nat):=eP [(6,[[],[],[0,1],[0,1,2],[],[],[4,5],[4,5,6],[0,1,2,3,4,5,6,7]])]
def mk20 (g:adl) (args:adg) (H:Hp):OA:=match args with
 | [(.sl aa),(.sl ax)]=>g aa ax H
 | _=>none
theorem mk20_E (g:adl) (aa:Sl) (ax:Sl) (H:Hp):mk20 g [(.sl aa),(.sl ax)] H=g aa ax H:=rfl
theorem cW.loops:LO (bH []) bI (cW.lh F) F Try.f135:=
 (af.rt (af.rt (af.lt (af.rt (af.block (af.la (λn tm H r h=>by change cW.lh29 F [] n tm H=_ at h;unfold cW.lh29 at h;split at h;have e:eH tm [(0,_),(1,_),(12,_),(13,_)]:=⟨‹_›,‹_›,‹_›,‹_›,trivial⟩;obtain _ | k29:=n;cases h;exact ⟨_,rfl,by rw [<- eQ e];exact Eq.trans (by kernel_rfl) h⟩;cases h) λk29=>af.no))))))
theorem cW.k:Ok Try.prog 135 (mk20 (cW.tw F)):=by
 intro args H v H' h
 unfold mk20 at h
 split at h
 ·exact okT (PN:=bI) (LH:=(cW.lh F)) (F:=F) (TB:=cW.tb) Try.func135 cV (cW.loops F) (Eq.trans (by kernel_rfl) h) (by kernel_rfl)
 ·cases h
def fV.twX (F:Nat) (t_:adl) (aa:Int) (ac:Int) (aJ:Sl) (ak:Int) (aO:Int) (cO:Sl) (H:Hp):OA:=(Hp.new H [(.int .i64 aa),(.int .i64 ac),(.sl aJ)]).bind λH7=>(Hp.new H7 [(.int .i64 ak),(.int .i64 aO),(.sl cO)]).bind λH8=>(Hp.ldI H8 .i64 H.length 0).bind λn9=>(Hp.ldI H8 .i64 H7.length 0).bind λn10=>(bif (n9==n10) then ((Hp.ldI H8 .i64 H.length 1).bind λn11=>(Hp.ldI H8 .i64 H7.length 1).bind λn12=>(bif (n11==n12) then ((Hp.ldSl H8 H.length 2).bind λs13=>(Hp.ldSl H8 H7.length 2).bind λs14=>(t_ s13 s14 H8).bind λr15=>((r15.1).asB).bind λb16=>some ((.bool b16),r15.2)) else (some ((.bool false),H8)))) else (some ((.bool false),H8)))
def fV.tw:=fV.twX F (cW.tw F)
def fV.cs (F:Nat) (t_:adl):Cs:=[(135,mk20 t_)]
theorem fV.eqX (t_:adl) (aa:Int) (ac:Int) (aJ:Sl) (ak:Int) (aO:Int) (cO:Sl) (H:Hp):EX (bH (fV.cs F t_)) bI lh0 F Try.f84 [(.agg [(.int .i64 aa),(.int .i64 ac),(.sl aJ)]),(.agg [(.int .i64 ak),(.int .i64 aO),(.sl cO)])] H=fV.twX F t_ aa ac aJ ak aO cO H:=by kernel_rfl
theorem fV.k:Ok Try.prog 84 (mk19 (fV.tw F)):=by
 intro args H v H' h
 unfold mk19 at h
 split at h
 ·exact okT (TB:=bI) Try.func84 (bl (cW.k F) cV) af.no ((fV.eqX F (cW.tw F) _ _ _ _ _ _ H).trans h) (by kernel_rfl)
 ·cases h
def fJ.twX (F:Nat) (kW:adj) (jT:adb) (lz:adj) (aa:Int) (ac:Int) (aJ:Sl) (ak:Int) (aO:Int) (cO:Sl) (fF:Int) (H:Hp):OA:=(Hp.new H [(.int .i64 aa),(.int .i64 ac),(.sl aJ)]).bind λH8=>(Hp.new H8 [(.int .i64 ak),(.int .i64 aO),(.sl cO)]).bind λH9=>(Hp.ldI H9 .i64 H.length 0).bind λn10=>(Hp.ldI H9 .i64 H.length (0+1)).bind λn11=>(Hp.ldSl H9 H.length (0+2)).bind λs12=>(Hp.ldI H9 .i64 H8.length 0).bind λn13=>(Hp.ldI H9 .i64 H8.length (0+1)).bind λn14=>(Hp.ldSl H9 H8.length (0+2)).bind λs15=>(kW n10 n11 s12 n13 n14 s15 H9).bind λr16=>((r16.1).asTup 2).bind λl17=>(l17[0]?).bind λv18=>((v18).asAgg 3).bind λl19=>(l19[0]?).bind λv20=>((v20).asI .i64).bind λn21=>(l19[1]?).bind λv22=>((v22).asI .i64).bind λn23=>(l19[2]?).bind λv24=>((v24).asSl).bind λs25=>(l17[1]?).bind λv26=>((v26).asI .i64).bind λn27=>(Hp.new r16.2 [.int .i64 0,.int .i64 0,.sl ⟨none,0,.ex 0⟩]).bind λH28=>(Hp.st H28 r16.2.length 0 (.int .i64 n21)).bind λH29=>(Hp.st H29 r16.2.length (0+1) (.int .i64 n23)).bind λH30=>(Hp.st H30 r16.2.length (0+1+1) (.sl s25)).bind λH31=>(bif (n27==0) then ((Hp.ldI H31 .i64 H.length 0).bind λn32=>(bif (n32==fF) then ((Hp.ldI H31 .i64 H.length 1).bind λn33=>(bif (n33==fF) then ((Hp.ldI H31 .i64 r16.2.length 0).bind λn34=>(Hp.ldI H31 .i64 r16.2.length (0+1)).bind λn35=>(Hp.ldSl H31 r16.2.length (0+2)).bind λs36=>(jT fF H31).bind λr37=>((r37.1).asAgg 3).bind λl38=>(l38[0]?).bind λv39=>((v39).asI .i64).bind λn40=>(l38[1]?).bind λv41=>((v41).asI .i64).bind λn42=>(l38[2]?).bind λv43=>((v43).asSl).bind λs44=>(if bh H31 r37.2 then ((lz n34 n35 s36 n40 n42 s44 r37.2).bind λr45=>((r45.1).asB).bind λb46=>some ((.bool b46),r45.2)) else none)) else (some ((.bool false),H31)))) else (some ((.bool false),H31)))) else (some ((.bool false),H31)))
def fJ.tw:=fJ.twX F (aL.tw F) (bU.tw F) (fV.tw F)
def fJ.pn:Nat->List Nat:=eP [(2,[18])]
def fJ.tb:Nat->List (List Nat):=eP [(2,[[],[0],[0,1],[0,1,2],[0,1,2,3],[0,1,2],[0,1,2,3,4,5],[0,1,2,3,4,5,6],[0,1,2,3,4,5,6,7],[0,1,2,3,4,5,6,7,8],[0,1,2,3,4,5,6,7,8,9],[0,1,2,3,4,5,6,7,8],[0,1,2,3,4,5,6,7,8,9,10,11],[0,1,2,3,4,5,6,7,8,9,10,11,12],[0,1,2,3,4,5,6,7,8,9,10,11,12,13],[0,1,2,3,4,5,6,7,8,9,10,11,12,13,14],[0,1,2,3,4,5,6,7,8,9,10,11,12,13,14],[0,1,2,3,4,5,6,7,8,9,10,11,12,13,14,16],[0,1,2,3,4,5,6,7,8,9,10,11,12,13,14,15,16,17],[0,1,2,3,4,5,6,7,8,9,10,11,12,13,14,15,16,17,18],[0,1,2,3,4,5,6,7,8,9,10,11,12,13,14,15,16,17,18,19]])]
def mk21 (g:adZ) (args:adg) (H:Hp):OA:=match args with
 | [(.agg [(.int .i64 aa),(.int .i64 ac),(.sl aJ)]),(.agg [(.int .i64 ak),(.int .i64 aO),(.sl cO)]),(.int .i64 fF)]=>g aa ac aJ ak aO cO fF H
 | _=>none
theorem mk21_E (g:adZ) (aa:Int) (ac:Int) (aJ:Sl) (ak:Int) (aO:Int) (cO:Sl) (fF:Int) (H:Hp):mk21 g [(.agg [(.int .i64 aa),(.int .i64 ac),(.sl aJ)]),(.agg [(.int .i64 ak),(.int .i64 aO),(.sl cO)]),(.int .i64 fF)] H=g aa ac aJ ak aO cO fF H:=rfl
def fJ.cs (F:Nat) (kW:adj) (jT:adb) (lz:adj):Cs:=[(64,mk19 kW),(134,mk7 jT),(84,mk19 lz)]
theorem fJ.eqX (kW:adj) (jT:adb) (lz:adj) (aa:Int) (ac:Int) (aJ:Sl) (ak:Int) (aO:Int) (cO:Sl) (fF:Int) (H:Hp):EX (bH (fJ.cs F kW jT lz)) fJ.pn lh0 F Try.f83 [(.agg [(.int .i64 aa),(.int .i64 ac),(.sl aJ)]),(.agg [(.int .i64 ak),(.int .i64 aO),(.sl cO)]),(.int .i64 fF)] H=fJ.twX F kW jT lz aa ac aJ ak aO cO fF H:=by kernel_rfl
theorem fJ.k:Ok Try.prog 83 (mk21 (fJ.tw F)):=by
 intro args H v H' h
 unfold mk21 at h
 split at h
 ·exact okT (TB:=fJ.tb) Try.func83 (bl (aL.k F) (bl (bU.k F) (bl (fV.k F) cV))) af.no ((fJ.eqX F (aL.tw F) (bU.tw F) (fV.tw F) _ _ _ _ _ _ _ H).trans h) (by kernel_rfl)
 ·cases h
def ag.j33 (F:Nat) (ae:ac8) (C29_:adh) (zV:Nat) (Uj:Nat) (ua:Int) (ub:Int) (uc:Int) (H723:Hp):OA:=C29_ zV Uj ua ub (wrap .i64 (uc+1)) H723
def ag.j34 (ae:ac8) (C29_:adh) (zW:Nat) (Uk:Nat) (ud:Int) (ue:Int) (uf:Int) (H708:Hp):OA:=ag.j33 F ae C29_ zW Uk ud ue uf H708
def ag.j35 (F:Nat) (ae:ac8) (C1883_:adm) (zX:Nat) (Ul:Nat) (ug:Int) (uh:Int) (ui:Int) (uj:Int) (uk:Int) (ul:Int) (H749:Hp):OA:=C1883_ zX Ul ug ui uj uh uk (wrap .i64 (ul+1)) H749
def ag.j36 (F:Nat) (ae:ac8) (C1883_:adm) (zY:Nat) (Um:Nat) (um:Int) (un:Int) (uo:Int) (uq:Int) (ur:Int) (ut:Int) (H769:Hp):OA:=C1883_ zY Um um uo uq un ur (wrap .i64 (ut+1)) H769
def ag.j37 (F:Nat) (ae:ac8) (C1883_:adm) (zZ:Nat) (Un:Nat) (uu:Int) (uv:Int) (uw:Int) (ux:Int) (uy:Int) (uz:Int) (H789:Hp):OA:=C1883_ zZ Un uu uw ux uv uy (wrap .i64 (uz+1)) H789
def ag.j38 (F:Nat) (ae:ac8) (C1883_:adm) (z_:Nat) (Uo:Nat) (uA:Int) (uB:Int) (uC:Int) (uD:Int) (uE:Int) (uF:Int) (H809:Hp):OA:=C1883_ z_ Uo uA uC uD uB uE (wrap .i64 (uF+1)) H809
def ag.j39 (F:Nat) (ae:ac8) (C1883_:adm) (Aa:Nat) (Up:Nat) (uG:Int) (uH:Int) (uI:Int) (uJ:Int) (uK:Int) (uL:Int) (H829:Hp):OA:=C1883_ Aa Up uG uI uJ uH uK (wrap .i64 (uL+1)) H829
def ag.j40 (F:Nat) (ae:ac8) (C1883_:adm) (Ab:Nat) (Uq:Nat) (uM:Int) (uN:Int) (uO:Int) (uP:Int) (uQ:Int) (uR:Int) (H849:Hp):OA:=C1883_ Ab Uq uM uO uP uN uQ (wrap .i64 (uR+1)) H849
def ag.j41 (F:Nat) (ae:ac8) (C1883_:adm) (Ac:Nat) (Ur:Nat) (uS:Int) (uT:Int) (uU:Int) (uV:Int) (uW:Int) (uX:Int) (H869:Hp):OA:=C1883_ Ac Ur uS uU uV uT uW (wrap .i64 (uX+1)) H869
def ag.j42 (F:Nat) (ae:ac8) (C1883_:adm) (Ad:Nat) (Us:Nat) (uY:Int) (uZ:Int) (u_:Int) (va:Int) (vb:Int) (vc:Int) (H889:Hp):OA:=C1883_ Ad Us uY u_ va uZ vb (wrap .i64 (vc+1)) H889
def ag.j43 (F:Nat) (ae:ac8) (C1883_:adm) (Ae:Nat) (Ut:Nat) (ve:Int) (vg:Int) (vh:Int) (vi:Int) (vj:Int) (vk:Int) (H909:Hp):OA:=C1883_ Ae Ut ve vh vi vg vj (wrap .i64 (vk+1)) H909
def ag.j44 (F:Nat) (ae:ac8) (C1883_:adm) (Af:Nat) (Uu:Nat) (vl:Int) (vm:Int) (vn:Int) (vo:Int) (vp:Int) (vq:Int) (H929:Hp):OA:=C1883_ Af Uu vl vn vo vm vp (wrap .i64 (vq+1)) H929
def ag.l1883 (F:Nat) (ae:ac8) (C29_:adh):Nat->Nat->Nat->Int->Int->Int->Int->Int->Int->Hp->OA
 | 0,_,_,_,_,_,_,_,_,_=>none
 | iY+1,fW,gV,cA,dd,de,bO,df,bM,H487=>(bif (decide (bM<df)) then ((Hp.ldI H487 .i64 fW gV).bind λn724=>(Hp.ldI H487 .i64 fW (gV+1)).bind λn725=>(Hp.ldSl H487 fW (gV+2)).bind λs726=>(ae n724 n725 s726 bO bM H487).bind λr727=>((r727.1).asP).bind λp728=>(Hp.ldI r727.2 .i64 p728.1 p728.2).bind λn729=>(bif (bO != bM) then ((bif (n729 != 0) then (some ((.bool false),r727.2)) else ((bif (decide (n729<0)) then (some ((.bool false),r727.2)) else ((bif (bO==bM) then ((bif (cA==0) then ((bif (n729 != 0) then (some ((.bool false),r727.2)) else ((bif (cA != 0) then ((if cA=0 then none else ((bif ((Int.tmod n729 cA) != 0) then (some ((.bool false),r727.2)) else ((bif (bO==bM) then (ag.j35 F ae (ag.l1883 F ae C29_ iY) fW gV n729 bO dd de df bM r727.2) else (ag.j35 F ae (ag.l1883 F ae C29_ iY) fW gV cA bO dd de df bM r727.2))))))) else ((bif (bO==bM) then (ag.j36 F ae (ag.l1883 F ae C29_ iY) fW gV n729 bO dd de df bM r727.2) else (ag.j36 F ae (ag.l1883 F ae C29_ iY) fW gV cA bO dd de df bM r727.2))))))) else ((bif (cA != 0) then ((if cA=0 then none else ((bif ((Int.tmod n729 cA) != 0) then (some ((.bool false),r727.2)) else ((bif (bO==bM) then (ag.j37 F ae (ag.l1883 F ae C29_ iY) fW gV n729 bO dd de df bM r727.2) else (ag.j37 F ae (ag.l1883 F ae C29_ iY) fW gV cA bO dd de df bM r727.2))))))) else ((bif (bO==bM) then (ag.j38 F ae (ag.l1883 F ae C29_ iY) fW gV n729 bO dd de df bM r727.2) else (ag.j38 F ae (ag.l1883 F ae C29_ iY) fW gV cA bO dd de df bM r727.2))))))) else ((bif (bO==bM) then (ag.j39 F ae (ag.l1883 F ae C29_ iY) fW gV n729 bO dd de df bM r727.2) else (ag.j39 F ae (ag.l1883 F ae C29_ iY) fW gV cA bO dd de df bM r727.2))))))))) else ((bif (decide (n729<0)) then (some ((.bool false),r727.2)) else ((bif (bO==bM) then ((bif (cA==0) then ((bif (n729 != 0) then (some ((.bool false),r727.2)) else ((bif (cA != 0) then ((if cA=0 then none else ((bif ((Int.tmod n729 cA) != 0) then (some ((.bool false),r727.2)) else ((bif (bO==bM) then (ag.j40 F ae (ag.l1883 F ae C29_ iY) fW gV n729 bO dd de df bM r727.2) else (ag.j40 F ae (ag.l1883 F ae C29_ iY) fW gV cA bO dd de df bM r727.2))))))) else ((bif (bO==bM) then (ag.j41 F ae (ag.l1883 F ae C29_ iY) fW gV n729 bO dd de df bM r727.2) else (ag.j41 F ae (ag.l1883 F ae C29_ iY) fW gV cA bO dd de df bM r727.2))))))) else ((bif (cA != 0) then ((if cA=0 then none else ((bif ((Int.tmod n729 cA) != 0) then (some ((.bool false),r727.2)) else ((bif (bO==bM) then (ag.j42 F ae (ag.l1883 F ae C29_ iY) fW gV n729 bO dd de df bM r727.2) else (ag.j42 F ae (ag.l1883 F ae C29_ iY) fW gV cA bO dd de df bM r727.2))))))) else ((bif (bO==bM) then (ag.j43 F ae (ag.l1883 F ae C29_ iY) fW gV n729 bO dd de df bM r727.2) else (ag.j43 F ae (ag.l1883 F ae C29_ iY) fW gV cA bO dd de df bM r727.2))))))) else ((bif (bO==bM) then (ag.j44 F ae (ag.l1883 F ae C29_ iY) fW gV n729 bO dd de df bM r727.2) else (ag.j44 F ae (ag.l1883 F ae C29_ iY) fW gV cA bO dd de df bM r727.2))))))))) else (ag.j34 F ae C29_ fW gV cA dd de H487))
termination_by structural n=>n
def ag.l29 (F:Nat) (ae:ac8) :Nat->Nat->Nat->Int->Int->Int->Hp->OA
 | 0,_,_,_,_,_,_=>none
 | ft+1,pK,lY,oD,mU,lA,H15=>(bif (decide (lA<mU)) then ((Hp.ldI H15 .i64 pK (lY+1)).bind λn473=>ag.l1883 F ae (ag.l29 F ae ft) F pK lY oD mU lA lA n473 0 H15) else (some ((.bool true),H15)))
termination_by structural n=>n
def ag.twX (ae:ac8) (aa:Int) (ac:Int) (aJ:Sl) (H:Hp):OA:=(Hp.new H [(.int .i64 aa),(.int .i64 ac),(.sl aJ)]).bind λH4=>(Hp.ldI H4 .i64 H.length 0).bind λn5=>ag.l29 F ae F H.length 0 1 n5 0 H4
def ag.tw:=ag.twX F (aS.tw F)
def ag.lh29 (ae:ac8) (ks:adc) (n:Nat) (tm:Tm) (H:Hp):OA:=match ks,tm 1,tm 3,tm 8,tm 9 with
 | [],(.ptr pK lY),(.int .i64 oD),(.int .i64 mU),(.int .i64 lA)=>ag.l29 F ae n pK lY oD mU lA H
 | _,_,_,_,_=>none
def ag.lh1883 (ae:ac8) (ks:adc) (n:Nat) (tm:Tm) (H:Hp):OA:=match ks,tm 1,tm 3,tm 4,tm 8,tm 9,tm 13,tm 14 with
 | [ft],(.ptr fW gV),(.int .i64 cA),(.int .i64 bO),(.int .i64 dd),(.int .i64 de),(.int .i64 df),(.int .i64 bM)=>ag.l1883 F ae (ag.l29 F ae ft) n fW gV cA dd de bO df bM H
 | _,_,_,_,_,_,_,_=>none
def ag.lh (ae:ac8) (p:Nat) (ks:adc) (n:Nat) (tm:Tm) (H:Hp):OA:=bif p.beq 1883 then ag.lh1883 F ae ks n tm H else (bif p.beq 29 then ag.lh29 F ae ks n tm H else (none))
def ag.cs (F:Nat) (ae:ac8):Cs:=[(75,mk10 ae)]
theorem ag.loops (ae:ac8):LO (bH (ag.cs F ae)) bI (ag.lh F ae) F Try.f85:=
 (af.rt (af.rt (af.lt (af.rt (af.block (af.la (λn tm H r h=>by change ag.lh29 F ae [] n tm H=_ at h;unfold ag.lh29 at h;split at h;have e:eH tm [(1,_),(3,_),(8,_),(9,_)]:=⟨‹_›,‹_›,‹_›,‹_›,trivial⟩;obtain _ | k29:=n;cases h;exact ⟨_,rfl,by rw [<- eQ e];exact Eq.trans (by kernel_rfl) h⟩;cases h) λk29=>(af.rt (af.rt (af.lt (af.block (af.rt (af.rt (af.block (af.la (λn tm H r h=>by change ag.lh1883 F ae [k29] n tm H=_ at h;unfold ag.lh1883 at h;split at h;have e:eH tm [(1,_),(3,_),(4,_),(8,_),(9,_),(13,_),(14,_)]:=⟨‹_›,‹_›,‹_›,‹_›,‹_›,‹_›,‹_›,trivial⟩;cases (show [k29]=_ from ‹_›);obtain _ | k1883:=n;cases h;exact ⟨_,rfl,by rw [<- eQ e];exact Eq.trans (by kernel_rfl) h⟩;cases h) λk1883=>af.no))))))))))))))
theorem ag.eqX (ae:ac8) (aa:Int) (ac:Int) (aJ:Sl) (H:Hp):EX (bH (ag.cs F ae)) bI (ag.lh F ae) F Try.f85 [(.agg [(.int .i64 aa),(.int .i64 ac),(.sl aJ)])] H=ag.twX F ae aa ac aJ H:=by kernel_rfl
theorem ag.k:Ok Try.prog 85 (mk9 (ag.tw F)):=by
 intro args H v H' h
 unfold mk9 at h
 split at h
 ·exact okT (TB:=bI) Try.func85 (bl (aS.k F) cV) (ag.loops F (aS.tw F)) ((ag.eqX F (aS.tw F) _ _ _ H).trans h) (by kernel_rfl)
 ·cases h
def eN.twX (F:Nat) (cQ:ada) (qT:adZ) (kW:adj) (lz:adj) (vt:ada) (aa:Int) (ac:Int) (aJ:Sl) (ak:Int) (aO:Int) (cO:Sl) (kX:Int) (kY:Int) (oE:Sl) (kw:Int) (kx:Int) (oF:Sl) (ky:Int) (kz:Int) (oG:Sl) (kZ:Int) (k_:Int) (oH:Sl) (H:Hp):OA:=(Hp.new H [(.int .i64 aa),(.int .i64 ac),(.sl aJ)]).bind λH19=>(Hp.new H19 [(.int .i64 ak),(.int .i64 aO),(.sl cO),(.int .i64 kX),(.int .i64 kY),(.sl oE),(.int .i64 kw),(.int .i64 kx),(.sl oF),(.int .i64 ky),(.int .i64 kz),(.sl oG),(.int .i64 kZ),(.int .i64 k_),(.sl oH)]).bind λH20=>(Hp.ldI H20 .i64 H.length 0).bind λn21=>(Hp.ldI H20 .i64 H.length (0+1)).bind λn22=>(Hp.ldSl H20 H.length (0+2)).bind λs23=>(cQ n21 n22 s23 H20).bind λr24=>((r24.1).asB).bind λb25=>(bif (!b25) then (some ((.bool false),r24.2)) else ((Hp.ldI r24.2 .i64 H19.length 6).bind λn26=>(Hp.ldI r24.2 .i64 H19.length (6+1)).bind λn27=>(Hp.ldSl r24.2 H19.length (6+2)).bind λs28=>(cQ n26 n27 s28 r24.2).bind λr29=>((r29.1).asB).bind λb30=>(bif (!b30) then (some ((.bool false),r29.2)) else ((Hp.ldI r29.2 .i64 H19.length 3).bind λn31=>(Hp.ldI r29.2 .i64 H19.length (3+1)).bind λn32=>(Hp.ldSl r29.2 H19.length (3+2)).bind λs33=>(Hp.ldI r29.2 .i64 H19.length 0).bind λn34=>(Hp.ldI r29.2 .i64 H19.length (0+1)).bind λn35=>(Hp.ldSl r29.2 H19.length (0+2)).bind λs36=>(Hp.ldI r29.2 .i64 H.length 0).bind λn37=>(qT n31 n32 s33 n34 n35 s36 n37 r29.2).bind λr38=>((r38.1).asB).bind λb39=>(bif (!b39) then (some ((.bool false),r38.2)) else ((Hp.ldI r38.2 .i64 H19.length 12).bind λn40=>(Hp.ldI r38.2 .i64 H19.length (12+1)).bind λn41=>(Hp.ldSl r38.2 H19.length (12+2)).bind λs42=>(Hp.ldI r38.2 .i64 H19.length 9).bind λn43=>(Hp.ldI r38.2 .i64 H19.length (9+1)).bind λn44=>(Hp.ldSl r38.2 H19.length (9+2)).bind λs45=>(Hp.ldI r38.2 .i64 H.length 1).bind λn46=>(qT n40 n41 s42 n43 n44 s45 n46 r38.2).bind λr47=>((r47.1).asB).bind λb48=>(bif (!b48) then (some ((.bool false),r47.2)) else ((Hp.ldI r47.2 .i64 H19.length 0).bind λn49=>(Hp.ldI r47.2 .i64 H19.length (0+1)).bind λn50=>(Hp.ldSl r47.2 H19.length (0+2)).bind λs51=>(Hp.ldI r47.2 .i64 H.length 0).bind λn52=>(Hp.ldI r47.2 .i64 H.length (0+1)).bind λn53=>(Hp.ldSl r47.2 H.length (0+2)).bind λs54=>(kW n49 n50 s51 n52 n53 s54 r47.2).bind λr55=>((r55.1).asTup 2).bind λl56=>(l56[0]?).bind λv57=>((v57).asAgg 3).bind λl58=>(l58[0]?).bind λv59=>((v59).asI .i64).bind λn60=>(l58[1]?).bind λv61=>((v61).asI .i64).bind λn62=>(l58[2]?).bind λv63=>((v63).asSl).bind λs64=>(l56[1]?).bind λv65=>((v65).asI .i64).bind λn66=>(Hp.new r55.2 [.int .i64 0,.int .i64 0,.sl ⟨none,0,.ex 0⟩]).bind λH67=>(Hp.st H67 r55.2.length 0 (.int .i64 n60)).bind λH68=>(Hp.st H68 r55.2.length (0+1) (.int .i64 n62)).bind λH69=>(Hp.st H69 r55.2.length (0+1+1) (.sl s64)).bind λH70=>(bif (n66 != 0) then (some ((.bool false),H70)) else ((Hp.ldI H70 .i64 r55.2.length 0).bind λn71=>(Hp.ldI H70 .i64 r55.2.length (0+1)).bind λn72=>(Hp.ldSl H70 r55.2.length (0+2)).bind λs73=>(Hp.ldI H70 .i64 H19.length 9).bind λn74=>(Hp.ldI H70 .i64 H19.length (9+1)).bind λn75=>(Hp.ldSl H70 H19.length (9+2)).bind λs76=>(kW n71 n72 s73 n74 n75 s76 H70).bind λr77=>((r77.1).asTup 2).bind λl78=>(l78[0]?).bind λv79=>((v79).asAgg 3).bind λl80=>(l80[0]?).bind λv81=>((v81).asI .i64).bind λn82=>(l80[1]?).bind λv83=>((v83).asI .i64).bind λn84=>(l80[2]?).bind λv85=>((v85).asSl).bind λs86=>(l78[1]?).bind λv87=>((v87).asI .i64).bind λn88=>(Hp.new r77.2 [.int .i64 0,.int .i64 0,.sl ⟨none,0,.ex 0⟩]).bind λH89=>(Hp.st H89 r77.2.length 0 (.int .i64 n82)).bind λH90=>(Hp.st H90 r77.2.length (0+1) (.int .i64 n84)).bind λH91=>(Hp.st H91 r77.2.length (0+1+1) (.sl s86)).bind λH92=>(bif (n88==0) then ((Hp.ldI H92 .i64 r77.2.length 0).bind λn93=>(Hp.ldI H92 .i64 r77.2.length (0+1)).bind λn94=>(Hp.ldSl H92 r77.2.length (0+2)).bind λs95=>(Hp.ldI H92 .i64 H19.length 6).bind λn96=>(Hp.ldI H92 .i64 H19.length (6+1)).bind λn97=>(Hp.ldSl H92 H19.length (6+2)).bind λs98=>(lz n93 n94 s95 n96 n97 s98 H92).bind λr99=>((r99.1).asB).bind λb100=>(bif b100 then ((Hp.ldI r99.2 .i64 r77.2.length 0).bind λn101=>(Hp.ldI r99.2 .i64 r77.2.length (0+1)).bind λn102=>(Hp.ldSl r99.2 r77.2.length (0+2)).bind λs103=>(vt n101 n102 s103 r99.2).bind λr104=>((r104.1).asB).bind λb105=>some ((.bool b105),r104.2)) else (some ((.bool false),r99.2)))) else (some ((.bool false),H92)))))))))))))
def eN.tw:=eN.twX F (cn.tw F) (fJ.tw F) (aL.tw F) (fV.tw F) (ag.tw F)
def mk22 (g:adp) (args:adg) (H:Hp):OA:=match args with
 | [(.agg [(.int .i64 aa),(.int .i64 ac),(.sl aJ)]),(.agg [(.int .i64 ak),(.int .i64 aO),(.sl cO),(.int .i64 kX),(.int .i64 kY),(.sl oE),(.int .i64 kw),(.int .i64 kx),(.sl oF),(.int .i64 ky),(.int .i64 kz),(.sl oG),(.int .i64 kZ),(.int .i64 k_),(.sl oH)])]=>g aa ac aJ ak aO cO kX kY oE kw kx oF ky kz oG kZ k_ oH H
 | _=>none
theorem mk22_E (g:adp) (aa:Int) (ac:Int) (aJ:Sl) (ak:Int) (aO:Int) (cO:Sl) (kX:Int) (kY:Int) (oE:Sl) (kw:Int) (kx:Int) (oF:Sl) (ky:Int) (kz:Int) (oG:Sl) (kZ:Int) (k_:Int) (oH:Sl) (H:Hp):mk22 g [(.agg [(.int .i64 aa),(.int .i64 ac),(.sl aJ)]),(.agg [(.int .i64 ak),(.int .i64 aO),(.sl cO),(.int .i64 kX),(.int .i64 kY),(.sl oE),(.int .i64 kw),(.int .i64 kx),(.sl oF),(.int .i64 ky),(.int .i64 kz),(.sl oG),(.int .i64 kZ),(.int .i64 k_),(.sl oH)])] H=g aa ac aJ ak aO cO kX kY oE kw kx oF ky kz oG kZ k_ oH H:=rfl
def eN.cs (F:Nat) (cQ:ada) (qT:adZ) (kW:adj) (lz:adj) (vt:ada):Cs:=[(76,mk9 cQ),(83,mk21 qT),(64,mk19 kW),(84,mk19 lz),(85,mk9 vt)]
theorem eN.eqX (cQ:ada) (qT:adZ) (kW:adj) (lz:adj) (vt:ada) (aa:Int) (ac:Int) (aJ:Sl) (ak:Int) (aO:Int) (cO:Sl) (kX:Int) (kY:Int) (oE:Sl) (kw:Int) (kx:Int) (oF:Sl) (ky:Int) (kz:Int) (oG:Sl) (kZ:Int) (k_:Int) (oH:Sl) (H:Hp):EX (bH (eN.cs F cQ qT kW lz vt)) bI lh0 F Try.f28 [(.agg [(.int .i64 aa),(.int .i64 ac),(.sl aJ)]),(.agg [(.int .i64 ak),(.int .i64 aO),(.sl cO),(.int .i64 kX),(.int .i64 kY),(.sl oE),(.int .i64 kw),(.int .i64 kx),(.sl oF),(.int .i64 ky),(.int .i64 kz),(.sl oG),(.int .i64 kZ),(.int .i64 k_),(.sl oH)])] H=eN.twX F cQ qT kW lz vt aa ac aJ ak aO cO kX kY oE kw kx oF ky kz oG kZ k_ oH H:=by kernel_rfl
theorem eN.k:Ok Try.prog 28 (mk22 (eN.tw F)):=by
 intro args H v H' h
 unfold mk22 at h
 split at h
 ·exact okT (TB:=bI) Try.func28 (bl (cn.k F) (bl (fJ.k F) (bl (aL.k F) (bl (fV.k F) (bl (ag.k F) cV))))) af.no ((eN.eqX F (cn.tw F) (fJ.tw F) (aL.tw F) (fV.tw F) (ag.tw F) _ _ _ _ _ _ _ _ _ _ _ _ _ _ _ _ _ _ H).trans h) (by kernel_rfl)
 ·cases h
def gW.twX (F:Nat) (aa:Int) (ax:Int) (eF:Int) (H:Hp):OA:=(bif (decide (aa>=ax)) then (some ((.bool (decide (aa<=eF))),H)) else (some ((.bool false),H)))
def gW.tw:=gW.twX F
theorem gW.k:Ok Try.prog 70 (mk6 (gW.tw F)):=by
 intro args H v H' h
 unfold mk6 at h
 split at h
 ·exact ok0 Try.func70 (Eq.trans (by kernel_rfl) h) (by kernel_rfl) (by kernel_rfl)
 ·cases h
def bS.l29 (F:Nat) (iZ:adi) :Nat->Nat->Nat->Int->Hp->OA
 | 0,_,_,_,_=>none
 | ft+1,oI,xa,lC,H22=>(Hp.ldSl H22 oI (xa+2)).bind λs29=>(bif (decide (lC<(s29.n:Int))) then ((Hp.ldSl H22 oI (xa+2)).bind λs30=>(Sl.idx s30 lC 1).bind λp31=>(Hp.ldI H22 .i64 p31.1 p31.2).bind λn32=>(iZ n32 (-1000000000000) 1000000000000 H22).bind λr33=>((r33.1).asB).bind λb34=>(bif (!b34) then (some ((.bool false),r33.2)) else (bS.l29 F iZ ft oI xa (wrap .i64 (lC+1)) r33.2))) else (some ((.bool true),H22)))
termination_by structural n=>n
def bS.twX (iZ:adi) (aa:Int) (ac:Int) (aJ:Sl) (H:Hp):OA:=(Hp.new H [(.int .i64 aa),(.int .i64 ac),(.sl aJ)]).bind λH4=>(Hp.ldI H4 .i64 H.length 0).bind λn5=>(iZ n5 0 48 H4).bind λr6=>((r6.1).asB).bind λb7=>(bif (!b7) then (some ((.bool false),r6.2)) else ((Hp.ldI r6.2 .i64 H.length 1).bind λn8=>(iZ n8 0 48 r6.2).bind λr9=>((r9.1).asB).bind λb10=>(bif (!b10) then (some ((.bool false),r9.2)) else ((Hp.ldSl r9.2 H.length 2).bind λs11=>(Hp.ldI r9.2 .i64 H.length 0).bind λn12=>(Hp.ldI r9.2 .i64 H.length 1).bind λn13=>(bif ((s11.n:Int) != (wrap .i64 (n12 * n13))) then (some ((.bool false),r9.2)) else (bS.l29 F iZ F H.length 0 0 r9.2))))))
def bS.tw:=bS.twX F (gW.tw F)
def bS.lh29 (iZ:adi) (ks:adc) (n:Nat) (tm:Tm) (H:Hp):OA:=match ks,tm 1,tm 3 with
 | [],(.ptr oI xa),(.int .i64 lC)=>bS.l29 F iZ n oI xa lC H
 | _,_,_=>none
def bS.lh (iZ:adi) (p:Nat) (ks:adc) (n:Nat) (tm:Tm) (H:Hp):OA:=bif p.beq 29 then bS.lh29 F iZ ks n tm H else (none)
def bS.cs (F:Nat) (iZ:adi):Cs:=[(70,mk6 iZ)]
theorem bS.loops (iZ:adi):LO (bH (bS.cs F iZ)) bI (bS.lh F iZ) F Try.f29:=
 (af.rt (af.rt (af.lt (af.rt (af.block (af.la (λn tm H r h=>by change bS.lh29 F iZ [] n tm H=_ at h;unfold bS.lh29 at h;split at h;have e:eH tm [(1,_),(3,_)]:=⟨‹_›,‹_›,trivial⟩;obtain _ | k29:=n;cases h;exact ⟨_,rfl,by rw [<- eQ e];exact Eq.trans (by kernel_rfl) h⟩;cases h) λk29=>af.no))))))
theorem bS.eqX (iZ:adi) (aa:Int) (ac:Int) (aJ:Sl) (H:Hp):EX (bH (bS.cs F iZ)) bI (bS.lh F iZ) F Try.f29 [(.agg [(.int .i64 aa),(.int .i64 ac),(.sl aJ)])] H=bS.twX F iZ aa ac aJ H:=by kernel_rfl
theorem bS.k:Ok Try.prog 29 (mk9 (bS.tw F)):=by
 intro args H v H' h
 unfold mk9 at h
 split at h
 ·exact okT (TB:=bI) Try.func29 (bl (gW.k F) cV) (bS.loops F (gW.tw F)) ((bS.eqX F (gW.tw F) _ _ _ H).trans h) (by kernel_rfl)
 ·cases h
def cu.l29 (F:Nat) :Nat->Sl->Sl->Int->Hp->OA
 | 0,_,_,_,_=>none
 | ft+1,fH,oC,iH,H8=>(bif (decide (iH<(fH.n:Int))) then ((Sl.idx fH iH 1).bind λp13=>(Hp.ldI H8 .i64 p13.1 p13.2).bind λn14=>(Sl.idx oC iH 1).bind λp15=>(Hp.ldI H8 .i64 p15.1 p15.2).bind λn16=>(bif (n14 != n16) then (some ((.bool false),H8)) else (cu.l29 F ft fH oC (wrap .i64 (iH+1)) H8))) else (some ((.bool true),H8)))
def cu.twX (aa:Sl) (ax:Sl) (H:Hp):OA:=(bif ((aa.n:Int) != (ax.n:Int)) then (some ((.bool false),H)) else (cu.l29 F F aa ax 0 H))
def cu.tw:=cu.twX F
def cu.lh29 (ks:adc) (n:Nat) (tm:Tm) (H:Hp):OA:=match ks,tm 0,tm 1,tm 5 with
 | [],(.sl fH),(.sl oC),(.int .i64 iH)=>cu.l29 F n fH oC iH H
 | _,_,_,_=>none
def cu.lh (p:Nat) (ks:adc) (n:Nat) (tm:Tm) (H:Hp):OA:=bif p.beq 29 then cu.lh29 F ks n tm H else (none)
def cu.tb:Nat->List (List Nat):=eP [(6,[[],[],[0,1],[0,1,2],[],[],[4,5],[4,5,6],[0,1,2,3,4,5,6,7]])]
theorem cu.loops:LO (bH []) bI (cu.lh F) F Try.f30:=
 (af.rt (af.rt (af.lt (af.rt (af.block (af.la (λn tm H r h=>by change cu.lh29 F [] n tm H=_ at h;unfold cu.lh29 at h;split at h;have e:eH tm [(0,_),(1,_),(5,_)]:=⟨‹_›,‹_›,‹_›,trivial⟩;obtain _ | k29:=n;cases h;exact ⟨_,rfl,by rw [<- eQ e];exact Eq.trans (by kernel_rfl) h⟩;cases h) λk29=>af.no))))))
theorem cu.k:Ok Try.prog 30 (mk20 (cu.tw F)):=by
 intro args H v H' h
 unfold mk20 at h
 split at h
 ·exact okT (PN:=bI) (LH:=(cu.lh F)) (F:=F) (TB:=cu.tb) Try.func30 cV (cu.loops F) (Eq.trans (by kernel_rfl) h) (by kernel_rfl)
 ·cases h
def cS.twX (F:Nat) (aa:Int) (ac:Int) (aJ:Sl) (ak:Int) (bX:Int) (H:Hp):OA:=(Hp.new H [(.int .i64 aa),(.int .i64 ac),(.sl aJ)]).bind λH6=>(Hp.ldSl H6 H.length 2).bind λs7=>(Hp.ldI H6 .i64 H.length 1).bind λn8=>(Sl.idx s7 (wrap .i64 ((wrap .i64 (ak * n8))+bX)) 1).bind λp9=>(Hp.ldI H6 .i64 p9.1 p9.2).bind λn10=>some ((.int .i64 n10),H6)
def cS.tw:=cS.twX F
theorem cS.k:Ok Try.prog 62 (mk10 (cS.tw F)):=by
 intro args H v H' h
 unfold mk10 at h
 split at h
 ·exact ok0 Try.func62 (Eq.trans (by kernel_rfl) h) (by kernel_rfl) (by kernel_rfl)
 ·cases h
def eS.twX (F:Nat) (aa:Int) (H:Hp):OA:=some ((.int .i64 (if (wrap .i64 (0 - aa))>aa then (wrap .i64 (0 - aa)) else aa)),H)
def eS.tw:=eS.twX F
theorem eS.k:Ok Try.prog 130 (mk7 (eS.tw F)):=by
 intro args H v H' h
 unfold mk7 at h
 split at h
 ·exact ok0 Try.func130 (Eq.trans (by kernel_rfl) h) (by kernel_rfl) (by kernel_rfl)
 ·cases h
def fa.twX (F:Nat) (cT:adb) (aa:Int) (ax:Int) (eF:Int) (H:Hp):OA:=(bif (aa != 0) then ((cT ax H).bind λr4=>((r4.1).asI .i64).bind λn5=>(cT aa r4.2).bind λr6=>((r6.1).asI .i64).bind λn7=>(if n7=0 then none else ((bif (decide (n5>(wrap .i64 (Int.tdiv eF n7)))) then (some ((.tup [(.int .i64 0),(.bool false)]),r6.2)) else (some ((.tup [(.int .i64 (wrap .i64 (aa * ax))),(.bool true)]),r6.2)))))) else (some ((.tup [(.int .i64 (wrap .i64 (aa * ax))),(.bool true)]),H)))
def fa.tw:=fa.twX F (eS.tw F)
def fa.cs (F:Nat) (cT:adb):Cs:=[(130,mk7 cT)]
theorem fa.eqX (cT:adb) (aa:Int) (ax:Int) (eF:Int) (H:Hp):EX (bH (fa.cs F cT)) bI lh0 F Try.f136 [(.int .i64 aa),(.int .i64 ax),(.int .i64 eF)] H=fa.twX F cT aa ax eF H:=by kernel_rfl
theorem fa.k:Ok Try.prog 136 (mk6 (fa.tw F)):=by
 intro args H v H' h
 unfold mk6 at h
 split at h
 ·exact okT (TB:=bI) Try.func136 (bl (eS.k F) cV) af.no ((fa.eqX F (eS.tw F) _ _ _ H).trans h) (by kernel_rfl)
 ·cases h
def aw.j9 (F:Nat) (b_:adf) (dD:ac8) (dT:adi) (cT:adb) (C29_:adA) (Ag:Nat) (Uv:Nat) (Ah:Nat) (Uw:Nat) (Ai:Nat) (Ux:Nat) (Aj:Nat) (Uy:Nat) (vu:Int) (H583:Hp):OA:=C29_ Ag Uv Ah Uw Ai Ux Aj Uy (wrap .i64 (vu+1)) H583
def aw.j10 (b_:adf) (dD:ac8) (dT:adi) (cT:adb) (C29_:adA) (Ak:Nat) (Uz:Nat) (Al:Nat) (UA:Nat) (Am:Nat) (UB:Nat) (An:Nat) (UC:Nat) (vv:Int) (H563:Hp):OA:=aw.j9 F b_ dD dT cT C29_ Ak Uz Al UA Am UB An UC vv H563
def aw.j11 (F:Nat) (b_:adf) (dD:ac8) (dT:adi) (cT:adb) (C469_:adt) (Ao:Nat) (UD:Nat) (Ap:Nat) (UE:Nat) (Aq:Nat) (UF:Nat) (Ar:Nat) (UG:Nat) (vw:Int) (vx:Int) (H690:Hp):OA:=C469_ Ao UD Ap UE Aq UF Ar UG vw (wrap .i64 (vx+1)) H690
def aw.j12 (b_:adf) (dD:ac8) (dT:adi) (cT:adb) (C469_:adt) (As:Nat) (UH:Nat) (xb:Nat) (LA:Nat) (Au:Nat) (UI:Nat) (xc:Nat) (LB:Nat) (pL:Int) (pM:Int) (vy:Int) (H662:Hp):OA:=(Hp.ldSl H662 xc (LB+2)).bind λs663=>(Hp.ldI H662 .i64 xb (LA+1)).bind λn664=>(Sl.idx s663 (wrap .i64 ((wrap .i64 (pL * n664))+pM)) 1).bind λp665=>(Hp.st H662 p665.1 p665.2 (.int .i64 vy)).bind λH666=>aw.j11 F b_ dD dT cT C469_ As UH xb LA Au UI xc LB pL pM H666
def aw.l30037 (F:Nat) (b_:adf) (dD:ac8) (dT:adi) (cT:adb) (C29_:adA) (C469_:adt):Nat->Nat->Nat->Nat->Nat->Nat->Nat->Nat->Nat->Int->Int->Int->Int->Int->Hp->OA
 | 0,_,_,_,_,_,_,_,_,_,_,_,_,_,_=>none
 | UJ+1,lZ,pN,mV,qU,i_,jU,pO,Av,lD,lE,mW,mX,kA,H607=>(Hp.ldI H607 .i64 lZ (pN+1)).bind λn691=>(bif (decide (kA<n691)) then ((Hp.ldI H607 .i64 lZ pN).bind λn692=>(Hp.ldI H607 .i64 lZ (pN+1)).bind λn693=>(Hp.ldSl H607 lZ (pN+2)).bind λs694=>(dD n692 n693 s694 lD kA H607).bind λr695=>((r695.1).asI .i64).bind λn696=>(if bh H607 r695.2 then ((Hp.ldI r695.2 .i64 mV qU).bind λn697=>(Hp.ldI r695.2 .i64 mV (qU+1)).bind λn698=>(Hp.ldSl r695.2 mV (qU+2)).bind λs699=>(dD n697 n698 s699 kA lE r695.2).bind λr700=>((r700.1).asI .i64).bind λn701=>(dT n696 n701 1000000000000 r700.2).bind λr702=>((r702.1).asTup 2).bind λl703=>(l703[0]?).bind λv704=>((v704).asI .i64).bind λn705=>(l703[1]?).bind λv706=>((v706).asB).bind λb707=>(cT n705 r702.2).bind λr708=>((r708.1).asI .i64).bind λn709=>(bif (!b707) then ((Hp.st r708.2 i_ jU (.int .i64 0)).bind λH710=>(Hp.st H710 i_ (jU+1) (.int .i64 0)).bind λH711=>(Hp.st H711 i_ (jU+1+1) (.sl (⟨none,0,.ex 0⟩:Sl))).bind λH712=>(Hp.ldI H712 .i64 i_ jU).bind λn713=>(Hp.ldI H712 .i64 i_ (jU+1)).bind λn714=>(Hp.ldSl H712 i_ (jU+2)).bind λs715=>some ((.tup [(.agg [(.int .i64 n713),(.int .i64 n714),(.sl s715)]),(.bool false)]),H712)) else ((bif (decide ((wrap .i64 (mX+n709))>1000000000000)) then ((Hp.st r708.2 i_ jU (.int .i64 0)).bind λH716=>(Hp.st H716 i_ (jU+1) (.int .i64 0)).bind λH717=>(Hp.st H717 i_ (jU+1+1) (.sl (⟨none,0,.ex 0⟩:Sl))).bind λH718=>(Hp.ldI H718 .i64 i_ jU).bind λn719=>(Hp.ldI H718 .i64 i_ (jU+1)).bind λn720=>(Hp.ldSl H718 i_ (jU+2)).bind λs721=>some ((.tup [(.agg [(.int .i64 n719),(.int .i64 n720),(.sl s721)]),(.bool false)]),H718)) else (aw.l30037 F b_ dD dT cT C29_ C469_ UJ lZ pN mV qU i_ jU pO Av lD lE (wrap .i64 (mW+n705)) (wrap .i64 (mX+n709)) (wrap .i64 (kA+1)) r708.2))))) else none)) else (aw.j12 F b_ dD dT cT C469_ lZ pN mV qU i_ jU pO Av lD lE mW H607))
termination_by structural n=>n
def aw.l469 (F:Nat) (b_:adf) (dD:ac8) (dT:adi) (cT:adb) (C29_:adA):Nat->Nat->Nat->Nat->Nat->Nat->Nat->Nat->Nat->Int->Int->Hp->OA
 | 0,_,_,_,_,_,_,_,_,_,_,_=>none
 | pE+1,pP,Aw,oJ,xd,pQ,Ax,pR,Ay,mY,mZ,H405=>(Hp.ldI H405 .i64 oJ (xd+1)).bind λn584=>(bif (decide (mZ<n584)) then (aw.l30037 F b_ dD dT cT C29_ (aw.l469 F b_ dD dT cT C29_ pE) F pP Aw oJ xd pQ Ax pR Ay mY mZ 0 0 0 H405) else (aw.j10 F b_ dD dT cT C29_ pP Aw oJ xd pQ Ax pR Ay mY H405))
termination_by structural n=>n
def aw.l29 (F:Nat) (b_:adf) (dD:ac8) (dT:adi) (cT:adb) :Nat->Nat->Nat->Nat->Nat->Nat->Nat->Nat->Nat->Int->Hp->OA
 | 0,_,_,_,_,_,_,_,_,_,_=>none
 | ft+1,pS,Az,qV,EB,lF,oK,nS,vz,m_,H40=>(Hp.ldI H40 .i64 pS Az).bind λn386=>(bif (decide (m_<n386)) then (aw.l469 F b_ dD dT cT (aw.l29 F b_ dD dT cT ft) F pS Az qV EB lF oK nS vz m_ 0 H40) else ((Hp.ldI H40 .i64 nS vz).bind λn722=>(Hp.ldI H40 .i64 nS (vz+1)).bind λn723=>(Hp.ldSl H40 nS (vz+2)).bind λs724=>(Hp.st H40 lF oK (.int .i64 n722)).bind λH725=>(Hp.st H725 lF (oK+1) (.int .i64 n723)).bind λH726=>(Hp.st H726 lF (oK+1+1) (.sl s724)).bind λH727=>(Hp.ldI H727 .i64 lF oK).bind λn728=>(Hp.ldI H727 .i64 lF (oK+1)).bind λn729=>(Hp.ldSl H727 lF (oK+2)).bind λs730=>some ((.tup [(.agg [(.int .i64 n728),(.int .i64 n729),(.sl s730)]),(.bool true)]),H727)))
termination_by structural n=>n
def aw.twX (b_:adf) (dD:ac8) (dT:adi) (cT:adb) (aa:Int) (ac:Int) (aJ:Sl) (ak:Int) (aO:Int) (cO:Sl) (H:Hp):OA:=(Hp.new H [(.int .i64 aa),(.int .i64 ac),(.sl aJ)]).bind λH7=>(Hp.new H7 [(.int .i64 ak),(.int .i64 aO),(.sl cO)]).bind λH8=>(Hp.new H8 [.int .i64 0,.int .i64 0,.sl ⟨none,0,.ex 0⟩]).bind λH9=>(Hp.ldI H9 .i64 H.length 0).bind λn10=>(Hp.ldI H9 .i64 H7.length 1).bind λn11=>(b_ n10 n11 H9).bind λr12=>((r12.1).asAgg 3).bind λl13=>(l13[0]?).bind λv14=>((v14).asI .i64).bind λn15=>(l13[1]?).bind λv16=>((v16).asI .i64).bind λn17=>(l13[2]?).bind λv18=>((v18).asSl).bind λs19=>(Hp.new r12.2 [.int .i64 0,.int .i64 0,.sl ⟨none,0,.ex 0⟩]).bind λH20=>(Hp.st H20 r12.2.length 0 (.int .i64 n15)).bind λH21=>(Hp.st H21 r12.2.length (0+1) (.int .i64 n17)).bind λH22=>(Hp.st H22 r12.2.length (0+1+1) (.sl s19)).bind λH23=>aw.l29 F b_ dD dT cT F H.length 0 H7.length 0 H8.length 0 r12.2.length 0 0 H23
def aw.tw:=aw.twX F (eK.tw F) (cS.tw F) (fa.tw F) (eS.tw F)
def aw.lh29 (b_:adf) (dD:ac8) (dT:adi) (cT:adb) (ks:adc) (n:Nat) (tm:Tm) (H:Hp):OA:=match ks,tm 2,tm 3,tm 4,tm 6,tm 7 with
 | [],(.ptr pS Az),(.ptr qV EB),(.ptr lF oK),(.ptr nS vz),(.int .i64 m_)=>aw.l29 F b_ dD dT cT n pS Az qV EB lF oK nS vz m_ H
 | _,_,_,_,_,_=>none
def aw.lh469 (b_:adf) (dD:ac8) (dT:adi) (cT:adb) (ks:adc) (n:Nat) (tm:Tm) (H:Hp):OA:=match ks,tm 2,tm 3,tm 4,tm 6,tm 7,tm 8 with
 | [ft],(.ptr pP Aw),(.ptr oJ xd),(.ptr pQ Ax),(.ptr pR Ay),(.int .i64 mY),(.int .i64 mZ)=>aw.l469 F b_ dD dT cT (aw.l29 F b_ dD dT cT ft) n pP Aw oJ xd pQ Ax pR Ay mY mZ H
 | _,_,_,_,_,_,_=>none
def aw.lh30037 (b_:adf) (dD:ac8) (dT:adi) (cT:adb) (ks:adc) (n:Nat) (tm:Tm) (H:Hp):OA:=match ks,tm 2,tm 3,tm 4,tm 6,tm 7,tm 8,tm 9,tm 10,tm 11 with
 | [pE,ft],(.ptr lZ pN),(.ptr mV qU),(.ptr i_ jU),(.ptr pO Av),(.int .i64 lD),(.int .i64 lE),(.int .i64 mW),(.int .i64 mX),(.int .i64 kA)=>aw.l30037 F b_ dD dT cT (aw.l29 F b_ dD dT cT ft) (aw.l469 F b_ dD dT cT (aw.l29 F b_ dD dT cT ft) pE) n lZ pN mV qU i_ jU pO Av lD lE mW mX kA H
 | _,_,_,_,_,_,_,_,_,_=>none
def aw.lh (b_:adf) (dD:ac8) (dT:adi) (cT:adb) (p:Nat) (ks:adc) (n:Nat) (tm:Tm) (H:Hp):OA:=bif p.beq 30037 then aw.lh30037 F b_ dD dT cT ks n tm H else (bif p.beq 469 then aw.lh469 F b_ dD dT cT ks n tm H else (bif p.beq 29 then aw.lh29 F b_ dD dT cT ks n tm H else (none)))
def aw.pn:Nat->List Nat:=eP [(12,[7,8])]
def aw.tb:Nat->List (List Nat):=eP [(12,[[],[],[],[0,1,2],[],[],[],[0,1,2,3,4,5,6],[0,1,2,3,4,5,6,7],[0,1,2,3,4,5,6,7,8],[0,1,2,3,4,5,6,7,8,9],[0,1,2,3,4,5,6,7,8,9],[0,1,2,3,4,5,6,7,8,9,10],[0,1,2,3,4,5,6,7,8,9,10,11,12]])]
def aw.cs (F:Nat) (b_:adf) (dD:ac8) (dT:adi) (cT:adb):Cs:=[(63,mk3 b_),(62,mk10 dD),(136,mk6 dT),(130,mk7 cT)]
theorem aw.loops (b_:adf) (dD:ac8) (dT:adi) (cT:adb):LO (bH (aw.cs F b_ dD dT cT)) aw.pn (aw.lh F b_ dD dT cT) F Try.f86:=
 (af.rt (af.rt (af.lt (af.rt (af.block (af.la (λn tm H r h=>by change aw.lh29 F b_ dD dT cT [] n tm H=_ at h;unfold aw.lh29 at h;split at h;have e:eH tm [(2,_),(3,_),(4,_),(6,_),(7,_)]:=⟨‹_›,‹_›,‹_›,‹_›,‹_›,trivial⟩;obtain _ | k29:=n;cases h;exact ⟨_,rfl,by rw [<- eQ e];exact Eq.trans (by kernel_rfl) h⟩;cases h) λk29=>(af.rt (af.lt (af.block (af.rt (af.block (af.la (λn tm H r h=>by change aw.lh469 F b_ dD dT cT [k29] n tm H=_ at h;unfold aw.lh469 at h;split at h;have e:eH tm [(2,_),(3,_),(4,_),(6,_),(7,_),(8,_)]:=⟨‹_›,‹_›,‹_›,‹_›,‹_›,‹_›,trivial⟩;cases (show [k29]=_ from ‹_›);obtain _ | k469:=n;cases h;exact ⟨_,rfl,by rw [<- eQ e];exact Eq.trans (by kernel_rfl) h⟩;cases h) λk469=>(af.rt (af.lt (af.block (af.rt (af.lt (af.rt (af.block (af.la (λn tm H r h=>by change aw.lh30037 F b_ dD dT cT [k469,k29] n tm H=_ at h;unfold aw.lh30037 at h;split at h;have e:eH tm [(2,_),(3,_),(4,_),(6,_),(7,_),(8,_),(9,_),(10,_),(11,_)]:=⟨‹_›,‹_›,‹_›,‹_›,‹_›,‹_›,‹_›,‹_›,‹_›,trivial⟩;cases (show [k469,k29]=_ from ‹_›);obtain _ | k30037:=n;cases h;exact ⟨_,rfl,by rw [<- eQ e];exact Eq.trans (by kernel_rfl) h⟩;cases h) λk30037=>af.no))))))))))))))))))))
theorem aw.eqX (b_:adf) (dD:ac8) (dT:adi) (cT:adb) (aa:Int) (ac:Int) (aJ:Sl) (ak:Int) (aO:Int) (cO:Sl) (H:Hp):EX (bH (aw.cs F b_ dD dT cT)) aw.pn (aw.lh F b_ dD dT cT) F Try.f86 [(.agg [(.int .i64 aa),(.int .i64 ac),(.sl aJ)]),(.agg [(.int .i64 ak),(.int .i64 aO),(.sl cO)])] H=aw.twX F b_ dD dT cT aa ac aJ ak aO cO H:=by kernel_rfl
theorem aw.k:Ok Try.prog 86 (mk19 (aw.tw F)):=by
 intro args H v H' h
 unfold mk19 at h
 split at h
 ·exact okT (TB:=aw.tb) Try.func86 (bl (eK.k F) (bl (cS.k F) (bl (fa.k F) (bl (eS.k F) cV)))) (aw.loops F (eK.tw F) (cS.tw F) (fa.tw F) (eS.tw F)) ((aw.eqX F (eK.tw F) (cS.tw F) (fa.tw F) (eS.tw F) _ _ _ _ _ _ H).trans h) (by kernel_rfl)
 ·cases h
def dU.twX (F:Nat) (cB:ada) (vA:adj) (aa:Int) (ac:Int) (aJ:Sl) (ak:Int) (aO:Int) (cO:Sl) (H:Hp):OA:=(Hp.new H [(.int .i64 aa),(.int .i64 ac),(.sl aJ)]).bind λH7=>(Hp.new H7 [(.int .i64 ak),(.int .i64 aO),(.sl cO)]).bind λH8=>(Hp.new H8 [.int .i64 0,.int .i64 0,.sl ⟨none,0,.ex 0⟩]).bind λH9=>(Hp.ldI H9 .i64 H.length 0).bind λn10=>(Hp.ldI H9 .i64 H.length (0+1)).bind λn11=>(Hp.ldSl H9 H.length (0+2)).bind λs12=>(cB n10 n11 s12 H9).bind λr13=>((r13.1).asB).bind λb14=>(bif (!b14) then ((Hp.st r13.2 H8.length 0 (.int .i64 0)).bind λH15=>(Hp.st H15 H8.length (0+1) (.int .i64 0)).bind λH16=>(Hp.st H16 H8.length (0+1+1) (.sl (⟨none,0,.ex 0⟩:Sl))).bind λH17=>(Hp.ldI H17 .i64 H8.length 0).bind λn18=>(Hp.ldI H17 .i64 H8.length (0+1)).bind λn19=>(Hp.ldSl H17 H8.length (0+2)).bind λs20=>some ((.tup [(.agg [(.int .i64 n18),(.int .i64 n19),(.sl s20)]),(.int .i64 1)]),H17)) else ((Hp.ldI r13.2 .i64 H7.length 0).bind λn21=>(Hp.ldI r13.2 .i64 H7.length (0+1)).bind λn22=>(Hp.ldSl r13.2 H7.length (0+2)).bind λs23=>(cB n21 n22 s23 r13.2).bind λr24=>((r24.1).asB).bind λb25=>(bif (!b25) then ((Hp.st r24.2 H8.length 0 (.int .i64 0)).bind λH26=>(Hp.st H26 H8.length (0+1) (.int .i64 0)).bind λH27=>(Hp.st H27 H8.length (0+1+1) (.sl (⟨none,0,.ex 0⟩:Sl))).bind λH28=>(Hp.ldI H28 .i64 H8.length 0).bind λn29=>(Hp.ldI H28 .i64 H8.length (0+1)).bind λn30=>(Hp.ldSl H28 H8.length (0+2)).bind λs31=>some ((.tup [(.agg [(.int .i64 n29),(.int .i64 n30),(.sl s31)]),(.int .i64 1)]),H28)) else ((Hp.ldI r24.2 .i64 H.length 1).bind λn32=>(Hp.ldI r24.2 .i64 H7.length 0).bind λn33=>(bif (n32 != n33) then ((Hp.st r24.2 H8.length 0 (.int .i64 0)).bind λH34=>(Hp.st H34 H8.length (0+1) (.int .i64 0)).bind λH35=>(Hp.st H35 H8.length (0+1+1) (.sl (⟨none,0,.ex 0⟩:Sl))).bind λH36=>(Hp.ldI H36 .i64 H8.length 0).bind λn37=>(Hp.ldI H36 .i64 H8.length (0+1)).bind λn38=>(Hp.ldSl H36 H8.length (0+2)).bind λs39=>some ((.tup [(.agg [(.int .i64 n37),(.int .i64 n38),(.sl s39)]),(.int .i64 2)]),H36)) else ((Hp.ldI r24.2 .i64 H.length 0).bind λn40=>(Hp.ldI r24.2 .i64 H.length (0+1)).bind λn41=>(Hp.ldSl r24.2 H.length (0+2)).bind λs42=>(Hp.ldI r24.2 .i64 H7.length 0).bind λn43=>(Hp.ldI r24.2 .i64 H7.length (0+1)).bind λn44=>(Hp.ldSl r24.2 H7.length (0+2)).bind λs45=>(vA n40 n41 s42 n43 n44 s45 r24.2).bind λr46=>((r46.1).asTup 2).bind λl47=>(l47[0]?).bind λv48=>((v48).asAgg 3).bind λl49=>(l49[0]?).bind λv50=>((v50).asI .i64).bind λn51=>(l49[1]?).bind λv52=>((v52).asI .i64).bind λn53=>(l49[2]?).bind λv54=>((v54).asSl).bind λs55=>(l47[1]?).bind λv56=>((v56).asB).bind λb57=>(Hp.new r46.2 [.int .i64 0,.int .i64 0,.sl ⟨none,0,.ex 0⟩]).bind λH58=>(Hp.st H58 r46.2.length 0 (.int .i64 n51)).bind λH59=>(Hp.st H59 r46.2.length (0+1) (.int .i64 n53)).bind λH60=>(Hp.st H60 r46.2.length (0+1+1) (.sl s55)).bind λH61=>(bif (!b57) then ((Hp.st H61 H8.length 0 (.int .i64 0)).bind λH62=>(Hp.st H62 H8.length (0+1) (.int .i64 0)).bind λH63=>(Hp.st H63 H8.length (0+1+1) (.sl (⟨none,0,.ex 0⟩:Sl))).bind λH64=>(Hp.ldI H64 .i64 H8.length 0).bind λn65=>(Hp.ldI H64 .i64 H8.length (0+1)).bind λn66=>(Hp.ldSl H64 H8.length (0+2)).bind λs67=>some ((.tup [(.agg [(.int .i64 n65),(.int .i64 n66),(.sl s67)]),(.int .i64 3)]),H64)) else ((Hp.ldI H61 .i64 r46.2.length 0).bind λn68=>(Hp.ldI H61 .i64 r46.2.length (0+1)).bind λn69=>(Hp.ldSl H61 r46.2.length (0+2)).bind λs70=>(Hp.st H61 H8.length 0 (.int .i64 n68)).bind λH71=>(Hp.st H71 H8.length (0+1) (.int .i64 n69)).bind λH72=>(Hp.st H72 H8.length (0+1+1) (.sl s70)).bind λH73=>(Hp.ldI H73 .i64 H8.length 0).bind λn74=>(Hp.ldI H73 .i64 H8.length (0+1)).bind λn75=>(Hp.ldSl H73 H8.length (0+2)).bind λs76=>some ((.tup [(.agg [(.int .i64 n74),(.int .i64 n75),(.sl s76)]),(.int .i64 0)]),H73)))))))))
def dU.tw:=dU.twX F (bS.tw F) (aw.tw F)
def dU.cs (F:Nat) (cB:ada) (vA:adj):Cs:=[(29,mk9 cB),(86,mk19 vA)]
theorem dU.eqX (cB:ada) (vA:adj) (aa:Int) (ac:Int) (aJ:Sl) (ak:Int) (aO:Int) (cO:Sl) (H:Hp):EX (bH (dU.cs F cB vA)) bI lh0 F Try.f31 [(.agg [(.int .i64 aa),(.int .i64 ac),(.sl aJ)]),(.agg [(.int .i64 ak),(.int .i64 aO),(.sl cO)])] H=dU.twX F cB vA aa ac aJ ak aO cO H:=by kernel_rfl
theorem dU.k:Ok Try.prog 31 (mk19 (dU.tw F)):=by
 intro args H v H' h
 unfold mk19 at h
 split at h
 ·exact okT (TB:=bI) Try.func31 (bl (bS.k F) (bl (aw.k F) cV)) af.no ((dU.eqX F (bS.tw F) (aw.tw F) _ _ _ _ _ _ H).trans h) (by kernel_rfl)
 ·cases h
def ev.j1 (F:Nat) (kB:Int) (pT:Int) (H21:Hp):OA:=(if kB=0 then none else (some ((.int .i64 (Int.tmod pT kB)),H21)))
def ev.twX (aa:Nat) (ac:Nat) (ai:Int) (H:Hp):OA:=(Hp.ldI H .u64 aa (ac+2)).bind λn4=>(Hp.st H aa (ac+2) (.int .u64 (IntKind.u64.wrap ((IntKind.u64.wrap (n4 * 6364136223846793005))+1442695040888963407)))).bind λH5=>(Hp.ldI H5 .u64 aa (ac+2)).bind λn6=>(Hp.ldI H5 .i64 aa (ac+1)).bind λn7=>(Hp.ldSl H5 aa ac).bind λs8=>(bif (decide (n7<(s8.n:Int))) then ((Hp.ldSl H5 aa ac).bind λs9=>(Hp.ldI H5 .i64 aa (ac+1)).bind λn10=>(Sl.idx s9 n10 1).bind λp11=>(Hp.ldI H5 .u8 p11.1 p11.2).bind λn12=>(Hp.ldI H5 .i64 aa (ac+1)).bind λn13=>(Hp.st H5 aa (ac+1) (.int .i64 (wrap .i64 (n13+1)))).bind λH14=>ev.j1 F ai (wrap .i64 ((wrap .i64 (Go.bits .and .u64 (Int.fdiv n6 (2 ^ (min (33:Int).toNat (IntKind.u64).bits))) 16777215))+(wrap .i64 n12))) H14) else (ev.j1 F ai (wrap .i64 (Go.bits .and .u64 (Int.fdiv n6 (2 ^ (min (33:Int).toNat (IntKind.u64).bits))) 16777215)) H5))
def ev.tw:=ev.twX F
def ev.tb:Nat->List (List Nat):=eP [(3,[[],[0],[0,1],[0,1,2],[],[4],[4,5],[4,5,6],[4,5,6,7],[0,1,2,3,4,5,6,7,8]]),(4,[[],[],[1],[1,2],[1,2,3],[],[5],[5,6],[5,6,7],[1,2,3,4,5,6,7,8],[1,2,3,4,5,6,7,8,9],[1,2,3,4,5,6,7,8,9,10],[0,1,2,3,4,5,6,7,8,9,10,11],[0,1,2,3,4,5,6,7,8,9,10,11,12]])]
theorem ev.k:Ok Try.prog 87 (mk2 (ev.tw F)):=by
 intro args H v H' h
 unfold mk2 at h
 split at h
 ·exact okT (PN:=bI) (LH:=lh0) (F:=F) (TB:=ev.tb) Try.func87 cV af.no (Eq.trans (by kernel_rfl) h) (by kernel_rfl)
 ·cases h
def aY.l61 (F:Nat) (gL:ac_) :Nat->Nat->Nat->Sl->Int->Hp->OA
 | 0,_,_,_,_,_=>none
 | pA+1,AA,AB,pU,jI,H31=>(bif (decide (jI>0)) then ((gL AA AB (wrap .i64 (jI+1)) H31).bind λr42=>((r42.1).asI .i64).bind λn43=>(Sl.idx pU jI 1).bind λp44=>(Hp.ldI r42.2 .i64 p44.1 p44.2).bind λn45=>(Sl.idx pU n43 1).bind λp46=>(Hp.ldI r42.2 .i64 p46.1 p46.2).bind λn47=>(Sl.idx pU jI 1).bind λp48=>(Hp.st r42.2 p48.1 p48.2 (.int .i64 n47)).bind λH49=>(Sl.idx pU n43 1).bind λp50=>(Hp.st H49 p50.1 p50.2 (.int .i64 n45)).bind λH51=>aY.l61 F gL pA AA AB pU (wrap .i64 (jI - 1)) H51) else (some ((.sl pU),H31)))
termination_by structural n=>n
def aY.j1 (gL:ac_) (UK:Nat) (UL:Nat) (kB:Int) (pT:Sl) (H22:Hp):OA:=aY.l61 F gL F UK UL pT (wrap .i64 (kB - 1)) H22
def aY.l29 (F:Nat) (gL:ac_) :Nat->Nat->Nat->Int->Sl->Int->Hp->OA
 | 0,_,_,_,_,_,_=>none
 | ft+1,AC,oA,lG,AD,kC,H11=>(bif (decide (kC<lG)) then ((Hp.new H11 [(.int .i64 kC)]).bind λH52=>(Sl.row H52 (⟨some (H11.length,0),1,.ex 1⟩:Sl) 1).bind λxs54=>(Hp.app H52 1 8 AD (⟨some (H11.length,0),1,.ex 1⟩:Sl).n xs54).bind λa53=>aY.l29 F gL ft AC oA lG a53.1 (wrap .i64 (kC+1)) a53.2) else (aY.j1 F gL AC oA lG AD H11))
termination_by structural n=>n
def aY.twX (gL:ac_) (aa:Nat) (ac:Nat) (ai:Int) (H:Hp):OA:=(Hp.new H []).bind λH4=>aY.l29 F gL F aa ac ai (⟨some (H.length,0),0,.ex 0⟩:Sl) 0 H4
def aY.tw:=aY.twX F (ev.tw F)
def aY.lh29 (gL:ac_) (ks:adc) (n:Nat) (tm:Tm) (H:Hp):OA:=match ks,tm 0,tm 1,tm 5,tm 6 with
 | [],(.ptr AC oA),(.int .i64 lG),(.sl AD),(.int .i64 kC)=>aY.l29 F gL n AC oA lG AD kC H
 | _,_,_,_,_=>none
def aY.lh61 (gL:ac_) (ks:adc) (n:Nat) (tm:Tm) (H:Hp):OA:=match ks,tm 0,tm 5,tm 7 with
 | [],(.ptr AA AB),(.sl pU),(.int .i64 jI)=>aY.l61 F gL n AA AB pU jI H
 | _,_,_,_=>none
def aY.lh (gL:ac_) (p:Nat) (ks:adc) (n:Nat) (tm:Tm) (H:Hp):OA:=bif p.beq 61 then aY.lh61 F gL ks n tm H else (bif p.beq 29 then aY.lh29 F gL ks n tm H else (none))
def aY.cs (F:Nat) (gL:ac_):Cs:=[(87,mk2 gL)]
theorem aY.loops (gL:ac_):LO (bH (aY.cs F gL)) bI (aY.lh F gL) F Try.f32:=
 (af.rt (af.rt (af.seq (af.rt (af.block (af.la (λn tm H r h=>by change aY.lh29 F gL [] n tm H=_ at h;unfold aY.lh29 at h;split at h;have e:eH tm [(0,_),(1,_),(5,_),(6,_)]:=⟨‹_›,‹_›,‹_›,‹_›,trivial⟩;obtain _ | k29:=n;cases h;exact ⟨_,rfl,by rw [<- eQ e];exact Eq.trans (by kernel_rfl) h⟩;cases h) λk29=>af.no))) (af.lt (af.rt (af.block (af.la (λn tm H r h=>by change aY.lh61 F gL [] n tm H=_ at h;unfold aY.lh61 at h;split at h;have e:eH tm [(0,_),(5,_),(7,_)]:=⟨‹_›,‹_›,‹_›,trivial⟩;obtain _ | k61:=n;cases h;exact ⟨_,rfl,by rw [<- eQ e];exact Eq.trans (by kernel_rfl) h⟩;cases h) λk61=>af.no)))))))
theorem aY.eqX (gL:ac_) (aa:Nat) (ac:Nat) (ai:Int) (H:Hp):EX (bH (aY.cs F gL)) bI (aY.lh F gL) F Try.f32 [(.ptr aa ac),(.int .i64 ai)] H=aY.twX F gL aa ac ai H:=by kernel_rfl
theorem aY.k:Ok Try.prog 32 (mk2 (aY.tw F)):=by
 intro args H v H' h
 unfold mk2 at h
 split at h
 ·exact okT (TB:=bI) Try.func32 (bl (ev.k F) cV) (aY.loops F (ev.tw F)) ((aY.eqX F (ev.tw F) _ _ _ H).trans h) (by kernel_rfl)
 ·cases h
def ap.j4 (F:Nat) (dg:ade) (dh:ado) (di:ade) (dj:ada) (cZ:ada) (c_:adp) (cB:ada) (da:adl) (cU:adj) (cz:ac_) (UM:Sl) (vB:Nat) (EC:Nat) (H501:Hp):OA:=(Hp.ldI H501 .i64 vB EC).bind λn502=>(Hp.ldI H501 .i64 vB (EC+1)).bind λn503=>(Hp.ldSl H501 vB (EC+2)).bind λs504=>(cZ n502 n503 s504 H501).bind λr505=>((r505.1).asTup 2).bind λl506=>(l506[0]?).bind λv507=>((v507).asSl).bind λs508=>(l506[1]?).bind λv509=>((v509).asI .i64).bind λn510=>(bif (n510==3) then (some ((.bool true),r505.2)) else ((bif (n510==0) then ((da s508 UM r505.2).bind λr511=>((r511.1).asB).bind λb512=>some ((.bool b512),r511.2)) else (some ((.bool false),r505.2)))))
def ap.j5 (F:Nat) (dg:ade) (dh:ado) (di:ade) (dj:ada) (cZ:ada) (c_:adp) (cB:ada) (da:adl) (cU:adj) (cz:ac_) (C4194301_:adJ) (AF:Nat) (UN:Nat) (UO:Sl) (UP:Sl) (UQ:Sl) (AG:Nat) (UR:Nat) (vC:Int) (H631:Hp):OA:=C4194301_ AF UN UO UP UQ AG UR (wrap .i64 (vC+1)) H631
def ap.j6 (dg:ade) (dh:ado) (di:ade) (dj:ada) (cZ:ada) (c_:adp) (cB:ada) (da:adl) (cU:adj) (cz:ac_) (C4194301_:adJ) (AH:Nat) (US:Nat) (UT:Sl) (UU:Sl) (UV:Sl) (AI:Nat) (UW:Nat) (vD:Int) (H596:Hp):OA:=ap.j5 F dg dh di dj cZ c_ cB da cU cz C4194301_ AH US UT UU UV AI UW vD H596
def ap.l67108821 (F:Nat) (dg:ade) (dh:ado) (di:ade) (dj:ada) (cZ:ada) (c_:adp) (cB:ada) (da:adl) (cU:adj) (cz:ac_) (C4194301_:adJ):Nat->Nat->Nat->Sl->Sl->Sl->Nat->Nat->Int->Int->Hp->OA
 | 0,_,_,_,_,_,_,_,_,_,_=>none
 | UX+1,na,qW,AJ,xe,xf,nT,vE,lH,lJ,H547=>(Hp.ldI H547 .i64 na (qW+1)).bind λn632=>(bif (decide (lJ<n632)) then ((Hp.ldSl H547 nT (vE+2)).bind λs633=>(Hp.ldSl H547 na (qW+2)).bind λs634=>(Sl.idx xe lH 1).bind λp635=>(Hp.ldI H547 .i64 p635.1 p635.2).bind λn636=>(Hp.ldI H547 .i64 na (qW+1)).bind λn637=>(Sl.idx xf lJ 1).bind λp638=>(Hp.ldI H547 .i64 p638.1 p638.2).bind λn639=>(Sl.idx s634 (wrap .i64 ((wrap .i64 (n636 * n637))+n639)) 1).bind λp640=>(Hp.ldI H547 .i64 p640.1 p640.2).bind λn641=>(Hp.new H547 [(.int .i64 n641)]).bind λH642=>(Sl.row H642 (⟨some (H547.length,0),1,.ex 1⟩:Sl) 1).bind λxs644=>(Hp.app H642 1 8 s633 (⟨some (H547.length,0),1,.ex 1⟩:Sl).n xs644).bind λa643=>(Hp.st a643.2 nT (vE+2) (.sl a643.1)).bind λH645=>ap.l67108821 F dg dh di dj cZ c_ cB da cU cz C4194301_ UX na qW AJ xe xf nT vE lH (wrap .i64 (lJ+1)) H645) else (ap.j6 F dg dh di dj cZ c_ cB da cU cz C4194301_ na qW AJ xe xf nT vE lH H547))
termination_by structural n=>n
def ap.l4194301 (F:Nat) (dg:ade) (dh:ado) (di:ade) (dj:ada) (cZ:ada) (c_:adp) (cB:ada) (da:adl) (cU:adj) (cz:ac_) :Nat->Nat->Nat->Sl->Sl->Sl->Nat->Nat->Int->Hp->OA
 | 0,_,_,_,_,_,_,_,_,_=>none
 | ED+1,pV,AK,AL,EE,EF,pW,AM,nb,H335=>(Hp.ldI H335 .i64 pV AK).bind λn513=>(bif (decide (nb<n513)) then (ap.l67108821 F dg dh di dj cZ c_ cB da cU cz (ap.l4194301 F dg dh di dj cZ c_ cB da cU cz ED) F pV AK AL EE EF pW AM nb 0 H335) else (ap.j4 F dg dh di dj cZ c_ cB da cU cz AL pW AM H335))
termination_by structural n=>n
def ap.j7 (dg:ade) (dh:ado) (di:ade) (dj:ada) (cZ:ada) (c_:adp) (cB:ada) (da:adl) (cU:adj) (cz:ac_) (lK:Nat) (nU:Nat) (dk:Nat) (dw:Nat) (fb:Nat) (fG:Nat) (vF:Sl) (UY:Sl) (H178:Hp):OA:=(da UY vF H178).bind λr179=>((r179.1).asB).bind λb180=>(bif (!b180) then (some ((.bool false),r179.2)) else ((Hp.ldI r179.2 .i64 fb (fG+3)).bind λn181=>(Hp.ldI r179.2 .i64 fb ((fG+3)+1)).bind λn182=>(Hp.ldSl r179.2 fb ((fG+3)+2)).bind λs183=>(Hp.ldI r179.2 .i64 fb fG).bind λn184=>(Hp.ldI r179.2 .i64 fb (fG+1)).bind λn185=>(Hp.ldSl r179.2 fb (fG+2)).bind λs186=>(cU n181 n182 s183 n184 n185 s186 r179.2).bind λr187=>((r187.1).asTup 2).bind λl188=>(l188[0]?).bind λv189=>((v189).asAgg 3).bind λl190=>(l190[0]?).bind λv191=>((v191).asI .i64).bind λn192=>(l190[1]?).bind λv193=>((v193).asI .i64).bind λn194=>(l190[2]?).bind λv195=>((v195).asSl).bind λs196=>(l188[1]?).bind λv197=>((v197).asI .i64).bind λn198=>(Hp.new r187.2 [.int .i64 0,.int .i64 0,.sl ⟨none,0,.ex 0⟩]).bind λH199=>(Hp.st H199 r187.2.length 0 (.int .i64 n192)).bind λH200=>(Hp.st H200 r187.2.length (0+1) (.int .i64 n194)).bind λH201=>(Hp.st H201 r187.2.length (0+1+1) (.sl s196)).bind λH202=>(Hp.ldI H202 .i64 fb (fG+12)).bind λn203=>(Hp.ldI H202 .i64 fb ((fG+12)+1)).bind λn204=>(Hp.ldSl H202 fb ((fG+12)+2)).bind λs205=>(Hp.ldI H202 .i64 fb (fG+9)).bind λn206=>(Hp.ldI H202 .i64 fb ((fG+9)+1)).bind λn207=>(Hp.ldSl H202 fb ((fG+9)+2)).bind λs208=>(cU n203 n204 s205 n206 n207 s208 H202).bind λr209=>((r209.1).asTup 2).bind λl210=>(l210[0]?).bind λv211=>((v211).asAgg 3).bind λl212=>(l212[0]?).bind λv213=>((v213).asI .i64).bind λn214=>(l212[1]?).bind λv215=>((v215).asI .i64).bind λn216=>(l212[2]?).bind λv217=>((v217).asSl).bind λs218=>(l210[1]?).bind λv219=>((v219).asI .i64).bind λn220=>(Hp.new r209.2 [.int .i64 0,.int .i64 0,.sl ⟨none,0,.ex 0⟩]).bind λH221=>(Hp.st H221 r209.2.length 0 (.int .i64 n214)).bind λH222=>(Hp.st H222 r209.2.length (0+1) (.int .i64 n216)).bind λH223=>(Hp.st H223 r209.2.length (0+1+1) (.sl s218)).bind λH224=>(Hp.ldI H224 .i64 fb fG).bind λn225=>(Hp.ldI H224 .i64 fb (fG+1)).bind λn226=>(Hp.ldSl H224 fb (fG+2)).bind λs227=>(Hp.ldI H224 .i64 dk dw).bind λn228=>(Hp.ldI H224 .i64 dk (dw+1)).bind λn229=>(Hp.ldSl H224 dk (dw+2)).bind λs230=>(cU n225 n226 s227 n228 n229 s230 H224).bind λr231=>((r231.1).asTup 2).bind λl232=>(l232[0]?).bind λv233=>((v233).asAgg 3).bind λl234=>(l234[0]?).bind λv235=>((v235).asI .i64).bind λn236=>(l234[1]?).bind λv237=>((v237).asI .i64).bind λn238=>(l234[2]?).bind λv239=>((v239).asSl).bind λs240=>(l232[1]?).bind λv241=>((v241).asI .i64).bind λn242=>(Hp.new r231.2 [.int .i64 0,.int .i64 0,.sl ⟨none,0,.ex 0⟩]).bind λH243=>(Hp.st H243 r231.2.length 0 (.int .i64 n236)).bind λH244=>(Hp.st H244 r231.2.length (0+1) (.int .i64 n238)).bind λH245=>(Hp.st H245 r231.2.length (0+1+1) (.sl s240)).bind λH246=>(Hp.ldI H246 .i64 r231.2.length 0).bind λn247=>(Hp.ldI H246 .i64 r231.2.length (0+1)).bind λn248=>(Hp.ldSl H246 r231.2.length (0+2)).bind λs249=>(Hp.ldI H246 .i64 fb (fG+9)).bind λn250=>(Hp.ldI H246 .i64 fb ((fG+9)+1)).bind λn251=>(Hp.ldSl H246 fb ((fG+9)+2)).bind λs252=>(cU n247 n248 s249 n250 n251 s252 H246).bind λr253=>((r253.1).asTup 2).bind λl254=>(l254[0]?).bind λv255=>((v255).asAgg 3).bind λl256=>(l256[0]?).bind λv257=>((v257).asI .i64).bind λn258=>(l256[1]?).bind λv259=>((v259).asI .i64).bind λn260=>(l256[2]?).bind λv261=>((v261).asSl).bind λs262=>(l254[1]?).bind λv263=>((v263).asI .i64).bind λn264=>(Hp.new r253.2 [.int .i64 0,.int .i64 0,.sl ⟨none,0,.ex 0⟩]).bind λH265=>(Hp.st H265 r253.2.length 0 (.int .i64 n258)).bind λH266=>(Hp.st H266 r253.2.length (0+1) (.int .i64 n260)).bind λH267=>(Hp.st H267 r253.2.length (0+1+1) (.sl s262)).bind λH268=>(bif (n198==0) then ((bif (n220==0) then ((bif (n242==0) then ((bif (n264==0) then ((Hp.ldI H268 .i64 dk dw).bind λn269=>(Hp.ldI H268 .i64 dk (dw+1)).bind λn270=>(Hp.ldSl H268 dk (dw+2)).bind λs271=>(Hp.ldI H268 .i64 fb fG).bind λn272=>(Hp.ldI H268 .i64 fb (fG+1)).bind λn273=>(Hp.ldSl H268 fb (fG+2)).bind λs274=>(Hp.ldI H268 .i64 fb (fG+3)).bind λn275=>(Hp.ldI H268 .i64 fb (fG+4)).bind λn276=>(Hp.ldSl H268 fb (fG+5)).bind λs277=>(Hp.ldI H268 .i64 fb (fG+6)).bind λn278=>(Hp.ldI H268 .i64 fb (fG+7)).bind λn279=>(Hp.ldSl H268 fb (fG+8)).bind λs280=>(Hp.ldI H268 .i64 fb (fG+9)).bind λn281=>(Hp.ldI H268 .i64 fb (fG+10)).bind λn282=>(Hp.ldSl H268 fb (fG+11)).bind λs283=>(Hp.ldI H268 .i64 fb (fG+12)).bind λn284=>(Hp.ldI H268 .i64 fb (fG+13)).bind λn285=>(Hp.ldSl H268 fb (fG+14)).bind λs286=>(c_ n269 n270 s271 n272 n273 s274 n275 n276 s277 n278 n279 s280 n281 n282 s283 n284 n285 s286 H268).bind λr287=>((r287.1).asB).bind λb288=>(bif (!b288) then (some ((.bool false),r287.2)) else ((Hp.ldI r287.2 .i64 dk dw).bind λn289=>(cz lK nU n289 r287.2).bind λr290=>((r290.1).asSl).bind λs291=>(Hp.ldI r290.2 .i64 dk (dw+1)).bind λn292=>(cz lK nU n292 r290.2).bind λr293=>((r293.1).asSl).bind λs294=>(ifW (((((Hp.ldI r293.2 .i64 dk (dw+1)).bind λn295=>hU (.int .i64 n292) r293.2 (.int .i64 n295) r293.2)=some ())/\(((Hp.ldI r290.2 .i64 dk (dw+1)).bind λn296=>hU (.int .i64 n292) r290.2 (.int .i64 n296) r290.2)=some ())/\(((Hp.ldI r287.2 .i64 dk (dw+1)).bind λn297=>hU (.int .i64 n292) r287.2 (.int .i64 n297) r287.2)=some ())/\True)/\True) ((Hp.ldI r293.2 .i64 dk dw).bind λn298=>(Hp.ldI r293.2 .i64 dk (dw+1)).bind λn299=>(Hp.new r293.2 [.int .i64 0,.int .i64 0,.sl ⟨none,0,.ex 0⟩]).bind λH300=>(Hp.st H300 r293.2.length 0 (.int .i64 n298)).bind λH301=>(Hp.st H301 r293.2.length (0+1) (.int .i64 n299)).bind λH302=>(Hp.st H302 r293.2.length (0+1+1) (.sl (⟨none,0,.ex 0⟩:Sl))).bind λH303=>ap.l4194301 F dg dh di dj cZ c_ cB da cU cz F dk dw vF s291 s294 r293.2.length 0 0 H303))))) else ((Hp.ldI H268 .i64 dk dw).bind λn646=>(cz lK nU n646 H268).bind λr647=>((r647.1).asSl).bind λs648=>(Hp.ldI r647.2 .i64 dk (dw+1)).bind λn649=>(cz lK nU n649 r647.2).bind λr650=>((r650.1).asSl).bind λs651=>(ifW (((((Hp.ldI r650.2 .i64 dk (dw+1)).bind λn652=>hU (.int .i64 n649) r650.2 (.int .i64 n652) r650.2)=some ())/\(((Hp.ldI r647.2 .i64 dk (dw+1)).bind λn653=>hU (.int .i64 n649) r647.2 (.int .i64 n653) r647.2)=some ())/\(((Hp.ldI H268 .i64 dk (dw+1)).bind λn654=>hU (.int .i64 n649) H268 (.int .i64 n654) H268)=some ())/\True)/\True) ((Hp.ldI r650.2 .i64 dk dw).bind λn655=>(Hp.ldI r650.2 .i64 dk (dw+1)).bind λn656=>(Hp.new r650.2 [.int .i64 0,.int .i64 0,.sl ⟨none,0,.ex 0⟩]).bind λH657=>(Hp.st H657 r650.2.length 0 (.int .i64 n655)).bind λH658=>(Hp.st H658 r650.2.length (0+1) (.int .i64 n656)).bind λH659=>(Hp.st H659 r650.2.length (0+1+1) (.sl (⟨none,0,.ex 0⟩:Sl))).bind λH660=>ap.l4194301 F dg dh di dj cZ c_ cB da cU cz F dk dw vF s648 s651 r650.2.length 0 0 H660))))) else ((Hp.ldI H268 .i64 dk dw).bind λn661=>(cz lK nU n661 H268).bind λr662=>((r662.1).asSl).bind λs663=>(Hp.ldI r662.2 .i64 dk (dw+1)).bind λn664=>(cz lK nU n664 r662.2).bind λr665=>((r665.1).asSl).bind λs666=>(ifW (((((Hp.ldI r665.2 .i64 dk (dw+1)).bind λn667=>hU (.int .i64 n664) r665.2 (.int .i64 n667) r665.2)=some ())/\(((Hp.ldI r662.2 .i64 dk (dw+1)).bind λn668=>hU (.int .i64 n664) r662.2 (.int .i64 n668) r662.2)=some ())/\(((Hp.ldI H268 .i64 dk (dw+1)).bind λn669=>hU (.int .i64 n664) H268 (.int .i64 n669) H268)=some ())/\True)/\True) ((Hp.ldI r665.2 .i64 dk dw).bind λn670=>(Hp.ldI r665.2 .i64 dk (dw+1)).bind λn671=>(Hp.new r665.2 [.int .i64 0,.int .i64 0,.sl ⟨none,0,.ex 0⟩]).bind λH672=>(Hp.st H672 r665.2.length 0 (.int .i64 n670)).bind λH673=>(Hp.st H673 r665.2.length (0+1) (.int .i64 n671)).bind λH674=>(Hp.st H674 r665.2.length (0+1+1) (.sl (⟨none,0,.ex 0⟩:Sl))).bind λH675=>ap.l4194301 F dg dh di dj cZ c_ cB da cU cz F dk dw vF s663 s666 r665.2.length 0 0 H675))))) else ((Hp.ldI H268 .i64 dk dw).bind λn676=>(cz lK nU n676 H268).bind λr677=>((r677.1).asSl).bind λs678=>(Hp.ldI r677.2 .i64 dk (dw+1)).bind λn679=>(cz lK nU n679 r677.2).bind λr680=>((r680.1).asSl).bind λs681=>(ifW (((((Hp.ldI r680.2 .i64 dk (dw+1)).bind λn682=>hU (.int .i64 n679) r680.2 (.int .i64 n682) r680.2)=some ())/\(((Hp.ldI r677.2 .i64 dk (dw+1)).bind λn683=>hU (.int .i64 n679) r677.2 (.int .i64 n683) r677.2)=some ())/\(((Hp.ldI H268 .i64 dk (dw+1)).bind λn684=>hU (.int .i64 n679) H268 (.int .i64 n684) H268)=some ())/\True)/\True) ((Hp.ldI r680.2 .i64 dk dw).bind λn685=>(Hp.ldI r680.2 .i64 dk (dw+1)).bind λn686=>(Hp.new r680.2 [.int .i64 0,.int .i64 0,.sl ⟨none,0,.ex 0⟩]).bind λH687=>(Hp.st H687 r680.2.length 0 (.int .i64 n685)).bind λH688=>(Hp.st H688 r680.2.length (0+1) (.int .i64 n686)).bind λH689=>(Hp.st H689 r680.2.length (0+1+1) (.sl (⟨none,0,.ex 0⟩:Sl))).bind λH690=>ap.l4194301 F dg dh di dj cZ c_ cB da cU cz F dk dw vF s678 s681 r680.2.length 0 0 H690))))) else ((Hp.ldI H268 .i64 dk dw).bind λn691=>(cz lK nU n691 H268).bind λr692=>((r692.1).asSl).bind λs693=>(Hp.ldI r692.2 .i64 dk (dw+1)).bind λn694=>(cz lK nU n694 r692.2).bind λr695=>((r695.1).asSl).bind λs696=>(ifW (((((Hp.ldI r695.2 .i64 dk (dw+1)).bind λn697=>hU (.int .i64 n694) r695.2 (.int .i64 n697) r695.2)=some ())/\(((Hp.ldI r692.2 .i64 dk (dw+1)).bind λn698=>hU (.int .i64 n694) r692.2 (.int .i64 n698) r692.2)=some ())/\(((Hp.ldI H268 .i64 dk (dw+1)).bind λn699=>hU (.int .i64 n694) H268 (.int .i64 n699) H268)=some ())/\True)/\True) ((Hp.ldI r695.2 .i64 dk dw).bind λn700=>(Hp.ldI r695.2 .i64 dk (dw+1)).bind λn701=>(Hp.new r695.2 [.int .i64 0,.int .i64 0,.sl ⟨none,0,.ex 0⟩]).bind λH702=>(Hp.st H702 r695.2.length 0 (.int .i64 n700)).bind λH703=>(Hp.st H703 r695.2.length (0+1) (.int .i64 n701)).bind λH704=>(Hp.st H704 r695.2.length (0+1+1) (.sl (⟨none,0,.ex 0⟩:Sl))).bind λH705=>ap.l4194301 F dg dh di dj cZ c_ cB da cU cz F dk dw vF s693 s696 r695.2.length 0 0 H705))))))
def ap.j8 (F:Nat) (dg:ade) (dh:ado) (di:ade) (dj:ada) (cZ:ada) (c_:adp) (cB:ada) (da:adl) (cU:adj) (cz:ac_) (C8189_:ad8) (AN:Nat) (UZ:Nat) (AO:Nat) (U_:Nat) (AP:Nat) (Va:Nat) (Vb:Sl) (Vc:Sl) (vG:Int) (H735:Hp):OA:=C8189_ AN UZ AO U_ AP Va Vb Vc (wrap .i64 (vG+1)) H735
def ap.l8189 (F:Nat) (dg:ade) (dh:ado) (di:ade) (dj:ada) (cZ:ada) (c_:adp) (cB:ada) (da:adl) (cU:adj) (cz:ac_) :Nat->Nat->Nat->Nat->Nat->Nat->Nat->Sl->Sl->Int->Hp->OA
 | 0,_,_,_,_,_,_,_,_,_,_=>none
 | LC+1,oM,xh,l_,pX,nV,vH,xi,xj,jJ,H129=>(Hp.ldI H129 .i64 l_ pX).bind λn706=>(Hp.ldI H129 .i64 l_ (pX+1)).bind λn707=>(bif (decide (jJ<(if n707<n706 then n707 else n706))) then ((Hp.ldSl H129 nV ((vH+6)+2)).bind λs708=>(Hp.ldI H129 .i64 l_ (pX+1)).bind λn709=>(Sl.idx s708 (wrap .i64 ((wrap .i64 (jJ * n709))+jJ)) 1).bind λp710=>(Hp.ldI H129 .i64 p710.1 p710.2).bind λn711=>(bif (n711 != 0) then ((Hp.new H129 [(.int .i64 n711)]).bind λH712=>(Sl.row H712 (⟨some (H129.length,0),1,.ex 1⟩:Sl) 1).bind λxs714=>(Hp.app H712 1 8 xj (⟨some (H129.length,0),1,.ex 1⟩:Sl).n xs714).bind λa713=>ap.j8 F dg dh di dj cZ c_ cB da cU cz (ap.l8189 F dg dh di dj cZ c_ cB da cU cz LC) oM xh l_ pX nV vH xi a713.1 jJ a713.2) else (ap.j8 F dg dh di dj cZ c_ cB da cU cz (ap.l8189 F dg dh di dj cZ c_ cB da cU cz LC) oM xh l_ pX nV vH xi xj jJ H129))) else (ap.j7 F dg dh di dj cZ c_ cB da cU cz oM xh l_ pX nV vH xi xj H129))
termination_by structural n=>n
def ap.twX (dg:ade) (dh:ado) (di:ade) (dj:ada) (cZ:ada) (c_:adp) (cB:ada) (da:adl) (cU:adj) (cz:ac_) (aa:Sl) (H:Hp):OA:=(dg aa H).bind λr2=>((r2.1).asB).bind λb3=>(bif b3 then (some ((.bool true),r2.2)) else ((dh aa 7002 r2.2).bind λr4=>((r4.1).asP).bind λp5=>(di aa r4.2).bind λr6=>((r6.1).asAgg 3).bind λl7=>(l7[0]?).bind λv8=>((v8).asI .i64).bind λn9=>(l7[1]?).bind λv10=>((v10).asI .i64).bind λn11=>(l7[2]?).bind λv12=>((v12).asSl).bind λs13=>(Hp.new r6.2 [.int .i64 0,.int .i64 0,.sl ⟨none,0,.ex 0⟩]).bind λH14=>(Hp.st H14 r6.2.length 0 (.int .i64 n9)).bind λH15=>(Hp.st H15 r6.2.length (0+1) (.int .i64 n11)).bind λH16=>(Hp.st H16 r6.2.length (0+1+1) (.sl s13)).bind λH17=>(Hp.ldI H17 .i64 r6.2.length 0).bind λn18=>(Hp.ldI H17 .i64 r6.2.length (0+1)).bind λn19=>(Hp.ldSl H17 r6.2.length (0+2)).bind λs20=>(dj n18 n19 s20 H17).bind λr21=>((r21.1).asTup 2).bind λl22=>(l22[0]?).bind λv23=>((v23).asAgg 15).bind λl24=>(l24[0]?).bind λv25=>((v25).asI .i64).bind λn26=>(l24[1]?).bind λv27=>((v27).asI .i64).bind λn28=>(l24[2]?).bind λv29=>((v29).asSl).bind λs30=>(l24[3]?).bind λv31=>((v31).asI .i64).bind λn32=>(l24[4]?).bind λv33=>((v33).asI .i64).bind λn34=>(l24[5]?).bind λv35=>((v35).asSl).bind λs36=>(l24[6]?).bind λv37=>((v37).asI .i64).bind λn38=>(l24[7]?).bind λv39=>((v39).asI .i64).bind λn40=>(l24[8]?).bind λv41=>((v41).asSl).bind λs42=>(l24[9]?).bind λv43=>((v43).asI .i64).bind λn44=>(l24[10]?).bind λv45=>((v45).asI .i64).bind λn46=>(l24[11]?).bind λv47=>((v47).asSl).bind λs48=>(l24[12]?).bind λv49=>((v49).asI .i64).bind λn50=>(l24[13]?).bind λv51=>((v51).asI .i64).bind λn52=>(l24[14]?).bind λv53=>((v53).asSl).bind λs54=>(l22[1]?).bind λv55=>((v55).asI .i64).bind λn56=>(Hp.new r21.2 [.int .i64 0,.int .i64 0,.sl ⟨none,0,.ex 0⟩,.int .i64 0,.int .i64 0,.sl ⟨none,0,.ex 0⟩,.int .i64 0,.int .i64 0,.sl ⟨none,0,.ex 0⟩,.int .i64 0,.int .i64 0,.sl ⟨none,0,.ex 0⟩,.int .i64 0,.int .i64 0,.sl ⟨none,0,.ex 0⟩]).bind λH57=>(Hp.st H57 r21.2.length 0 (.int .i64 n26)).bind λH58=>(Hp.st H58 r21.2.length (0+1) (.int .i64 n28)).bind λH59=>(Hp.st H59 r21.2.length (0+1+1) (.sl s30)).bind λH60=>(Hp.st H60 r21.2.length (0+1+1+1) (.int .i64 n32)).bind λH61=>(Hp.st H61 r21.2.length (0+1+1+1+1) (.int .i64 n34)).bind λH62=>(Hp.st H62 r21.2.length (0+1+1+1+1+1) (.sl s36)).bind λH63=>(Hp.st H63 r21.2.length (0+1+1+1+1+1+1) (.int .i64 n38)).bind λH64=>(Hp.st H64 r21.2.length (0+1+1+1+1+1+1+1) (.int .i64 n40)).bind λH65=>(Hp.st H65 r21.2.length (0+1+1+1+1+1+1+1+1) (.sl s42)).bind λH66=>(Hp.st H66 r21.2.length (0+1+1+1+1+1+1+1+1+1) (.int .i64 n44)).bind λH67=>(Hp.st H67 r21.2.length (0+1+1+1+1+1+1+1+1+1+1) (.int .i64 n46)).bind λH68=>(Hp.st H68 r21.2.length (0+1+1+1+1+1+1+1+1+1+1+1) (.sl s48)).bind λH69=>(Hp.st H69 r21.2.length (0+1+1+1+1+1+1+1+1+1+1+1+1) (.int .i64 n50)).bind λH70=>(Hp.st H70 r21.2.length (0+1+1+1+1+1+1+1+1+1+1+1+1+1) (.int .i64 n52)).bind λH71=>(Hp.st H71 r21.2.length (0+1+1+1+1+1+1+1+1+1+1+1+1+1+1) (.sl s54)).bind λH72=>(Hp.ldI H72 .i64 r6.2.length 0).bind λn73=>(Hp.ldI H72 .i64 r6.2.length (0+1)).bind λn74=>(Hp.ldSl H72 r6.2.length (0+2)).bind λs75=>(cZ n73 n74 s75 H72).bind λr76=>((r76.1).asTup 2).bind λl77=>(l77[0]?).bind λv78=>((v78).asSl).bind λs79=>(l77[1]?).bind λv80=>((v80).asI .i64).bind λn81=>(bif (n56 != n81) then (some ((.bool false),r76.2)) else ((bif (n56 != 0) then ((bif ((s79.n:Int)==0) then ((Hp.ldI r76.2 .i64 r6.2.length 0).bind λn82=>(Hp.ldI r76.2 .i64 r6.2.length (0+1)).bind λn83=>(Hp.ldSl r76.2 r6.2.length (0+2)).bind λs84=>(Hp.ldI r76.2 .i64 r21.2.length 0).bind λn85=>(Hp.ldI r76.2 .i64 r21.2.length (0+1)).bind λn86=>(Hp.ldSl r76.2 r21.2.length (0+2)).bind λs87=>(Hp.ldI r76.2 .i64 r21.2.length (0+3)).bind λn88=>(Hp.ldI r76.2 .i64 r21.2.length (0+4)).bind λn89=>(Hp.ldSl r76.2 r21.2.length (0+5)).bind λs90=>(Hp.ldI r76.2 .i64 r21.2.length (0+6)).bind λn91=>(Hp.ldI r76.2 .i64 r21.2.length (0+7)).bind λn92=>(Hp.ldSl r76.2 r21.2.length (0+8)).bind λs93=>(Hp.ldI r76.2 .i64 r21.2.length (0+9)).bind λn94=>(Hp.ldI r76.2 .i64 r21.2.length (0+10)).bind λn95=>(Hp.ldSl r76.2 r21.2.length (0+11)).bind λs96=>(Hp.ldI r76.2 .i64 r21.2.length (0+12)).bind λn97=>(Hp.ldI r76.2 .i64 r21.2.length (0+13)).bind λn98=>(Hp.ldSl r76.2 r21.2.length (0+14)).bind λs99=>(c_ n82 n83 s84 n85 n86 s87 n88 n89 s90 n91 n92 s93 n94 n95 s96 n97 n98 s99 r76.2).bind λr100=>((r100.1).asB).bind λb101=>some ((.bool (!b101)),r100.2)) else (some ((.bool false),r76.2)))) else ((Hp.ldI r76.2 .i64 r21.2.length 6).bind λn102=>(Hp.ldI r76.2 .i64 r21.2.length (6+1)).bind λn103=>(Hp.ldSl r76.2 r21.2.length (6+2)).bind λs104=>(cB n102 n103 s104 r76.2).bind λr105=>((r105.1).asB).bind λb106=>(bif (!b106) then (some ((.bool false),r105.2)) else ((Hp.ldI r105.2 .i64 r21.2.length 6).bind λn107=>(Hp.ldI r105.2 .i64 r6.2.length 0).bind λn108=>(bif (n107 != n108) then (some ((.bool false),r105.2)) else ((Hp.ldI r105.2 .i64 r21.2.length 7).bind λn109=>(Hp.ldI r105.2 .i64 r6.2.length 1).bind λn110=>(bif (n109 != n110) then (some ((.bool false),r105.2)) else ((Hp.new r105.2 []).bind λH111=>ap.l8189 F dg dh di dj cZ c_ cB da cU cz F p5.1 p5.2 r6.2.length 0 r21.2.length 0 s79 (⟨some (r105.2.length,0),0,.ex 0⟩:Sl) 0 H111))))))))))))
def ap.tw:=ap.twX F (gB.tw F) (ct.tw F) (fC.tw F) (fE.tw F) (eR.tw F) (eN.tw F) (bS.tw F) (cu.tw F) (dU.tw F) (aY.tw F)
def ap.lh8189 (dg:ade) (dh:ado) (di:ade) (dj:ada) (cZ:ada) (c_:adp) (cB:ada) (da:adl) (cU:adj) (cz:ac_) (ks:adc) (n:Nat) (tm:Tm) (H:Hp):OA:=match ks,tm 3,tm 4,tm 5,tm 7,tm 9,tm 10 with
 | [],(.ptr oM xh),(.ptr l_ pX),(.ptr nV vH),(.sl xi),(.sl xj),(.int .i64 jJ)=>ap.l8189 F dg dh di dj cZ c_ cB da cU cz n oM xh l_ pX nV vH xi xj jJ H
 | _,_,_,_,_,_,_=>none
def ap.lh4194301 (dg:ade) (dh:ado) (di:ade) (dj:ada) (cZ:ada) (c_:adp) (cB:ada) (da:adl) (cU:adj) (cz:ac_) (ks:adc) (n:Nat) (tm:Tm) (H:Hp):OA:=match ks,tm 4,tm 7,tm 20,tm 21,tm 22,tm 23 with
 | [],(.ptr pV AK),(.sl AL),(.sl EE),(.sl EF),(.ptr pW AM),(.int .i64 nb)=>ap.l4194301 F dg dh di dj cZ c_ cB da cU cz n pV AK AL EE EF pW AM nb H
 | _,_,_,_,_,_,_=>none
def ap.lh67108821 (dg:ade) (dh:ado) (di:ade) (dj:ada) (cZ:ada) (c_:adp) (cB:ada) (da:adl) (cU:adj) (cz:ac_) (ks:adc) (n:Nat) (tm:Tm) (H:Hp):OA:=match ks,tm 4,tm 7,tm 20,tm 21,tm 22,tm 23,tm 24 with
 | [ED],(.ptr na qW),(.sl AJ),(.sl xe),(.sl xf),(.ptr nT vE),(.int .i64 lH),(.int .i64 lJ)=>ap.l67108821 F dg dh di dj cZ c_ cB da cU cz (ap.l4194301 F dg dh di dj cZ c_ cB da cU cz ED) n na qW AJ xe xf nT vE lH lJ H
 | _,_,_,_,_,_,_,_=>none
def ap.lh (dg:ade) (dh:ado) (di:ade) (dj:ada) (cZ:ada) (c_:adp) (cB:ada) (da:adl) (cU:adj) (cz:ac_) (p:Nat) (ks:adc) (n:Nat) (tm:Tm) (H:Hp):OA:=bif p.beq 67108821 then ap.lh67108821 F dg dh di dj cZ c_ cB da cU cz ks n tm H else (bif p.beq 4194301 then ap.lh4194301 F dg dh di dj cZ c_ cB da cU cz ks n tm H else (bif p.beq 8189 then ap.lh8189 F dg dh di dj cZ c_ cB da cU cz ks n tm H else (none)))
def ap.pn:Nat->List Nat:=eP [(28,[3,7,1006]),(36,[19,21])]
def ap.tb:Nat->List (List Nat):=eP [(28,[[],[],[1],[0,1,2],[],[],[5],[0,1,2,3,4,5,6],[0,1,2,3,4,5,6,7],[0,1,2,3,4,5,6,7,8]]),(36,[[],[0],[],[2],[],[],[4,5],[4,5,6],[],[8],[4,5,6,7,8,9],[],[],[11,12],[11,12,13],[4,5,6,7,8,9,10,11,12,13,14],[2,3,4,5,6,7,8,9,10,11,12,13,14,15],[2,3,4,5,6,7,8,9,10,11,12,13,14,15,16],[2,3,4,5,6,7,8,9,10,11,12,13,14,15,16,17],[0,1,2,3,4,5,6,7,8,9,10,11,12,13,14,15,16,17,18],[0,1,2,3,4,5,6,7,8,9,10,11,12,13,14,15,16,17,18,19],[0,1,2,3,4,5,6,7,8,9,10,11,12,13,14,15,16,17,18,19,20]])]
def ap.cs (F:Nat) (dg:ade) (dh:ado) (di:ade) (dj:ada) (cZ:ada) (c_:adp) (cB:ada) (da:adl) (cU:adj) (cz:ac_):Cs:=[(12,mk0 dg),(25,mk1 dh),(26,mk0 di),(27,mk9 dj),(24,mk9 cZ),(28,mk22 c_),(29,mk9 cB),(30,mk20 da),(31,mk19 cU),(32,mk2 cz)]
theorem ap.loops (dg:ade) (dh:ado) (di:ade) (dj:ada) (cZ:ada) (c_:adp) (cB:ada) (da:adl) (cU:adj) (cz:ac_):LO (bH (ap.cs F dg dh di dj cZ c_ cB da cU cz)) ap.pn (ap.lh F dg dh di dj cZ c_ cB da cU cz) F Try.f6:=
 (af.rt (af.rt (af.rt (af.rt (af.rt (af.rt (af.rt (af.rt (af.rt (af.rt (af.seq (af.rt (af.block (af.la (λn tm H r h=>by change ap.lh8189 F dg dh di dj cZ c_ cB da cU cz [] n tm H=_ at h;unfold ap.lh8189 at h;split at h;have e:eH tm [(3,_),(4,_),(5,_),(7,_),(9,_),(10,_)]:=⟨‹_›,‹_›,‹_›,‹_›,‹_›,‹_›,trivial⟩;obtain _ | k8189:=n;cases h;exact ⟨_,rfl,by rw [<- eQ e];exact Eq.trans (by kernel_rfl) h⟩;cases h) λk8189=>af.no))) (af.rt (af.rt (af.rt (af.rt (af.rt (af.rt (af.rt (af.rt (af.lt (af.rt (af.block (af.la (λn tm H r h=>by change ap.lh4194301 F dg dh di dj cZ c_ cB da cU cz [] n tm H=_ at h;unfold ap.lh4194301 at h;split at h;have e:eH tm [(4,_),(7,_),(20,_),(21,_),(22,_),(23,_)]:=⟨‹_›,‹_›,‹_›,‹_›,‹_›,‹_›,trivial⟩;obtain _ | k4194301:=n;cases h;exact ⟨_,rfl,by rw [<- eQ e];exact Eq.trans (by kernel_rfl) h⟩;cases h) λk4194301=>(af.rt (af.lt (af.block (af.rt (af.block (af.la (λn tm H r h=>by change ap.lh67108821 F dg dh di dj cZ c_ cB da cU cz [k4194301] n tm H=_ at h;unfold ap.lh67108821 at h;split at h;have e:eH tm [(4,_),(7,_),(20,_),(21,_),(22,_),(23,_),(24,_)]:=⟨‹_›,‹_›,‹_›,‹_›,‹_›,‹_›,‹_›,trivial⟩;cases (show [k4194301]=_ from ‹_›);obtain _ | k67108821:=n;cases h;exact ⟨_,rfl,by rw [<- eQ e];exact Eq.trans (by kernel_rfl) h⟩;cases h) λk67108821=>af.no)))))))))))))))))))))))))))))
theorem ap.eqX (dg:ade) (dh:ado) (di:ade) (dj:ada) (cZ:ada) (c_:adp) (cB:ada) (da:adl) (cU:adj) (cz:ac_) (aa:Sl) (H:Hp):EX (bH (ap.cs F dg dh di dj cZ c_ cB da cU cz)) ap.pn (ap.lh F dg dh di dj cZ c_ cB da cU cz) F Try.f6 [(.sl aa)] H=ap.twX F dg dh di dj cZ c_ cB da cU cz aa H:=by kernel_rfl
theorem ap.k:Ok Try.prog 6 (mk0 (ap.tw F)):=by
 intro args H v H' h
 unfold mk0 at h
 split at h
 ·exact okT (TB:=ap.tb) Try.func6 (bl (gB.k F) (bl (ct.k F) (bl (fC.k F) (bl (fE.k F) (bl (eR.k F) (bl (eN.k F) (bl (bS.k F) (bl (cu.k F) (bl (dU.k F) (bl (aY.k F) cV)))))))))) (ap.loops F (gB.tw F) (ct.tw F) (fC.tw F) (fE.tw F) (eR.tw F) (eN.tw F) (bS.tw F) (cu.tw F) (dU.tw F) (aY.tw F)) ((ap.eqX F (gB.tw F) (ct.tw F) (fC.tw F) (fE.tw F) (eR.tw F) (eN.tw F) (bS.tw F) (cu.tw F) (dU.tw F) (aY.tw F) _ H).trans h) (by kernel_rfl)
 ·cases h
theorem ap.T {F:Nat} {aa:Sl} {H:Hp} {v:AV} {H':Hp} (h:ap.tw F aa H=some (v,H')):Go.AE.T Try.prog 6 [(.sl aa)] H v H':=ap.k F _ _ _ _ ((mk0_E (ap.tw F) aa H).trans h)
end
end Go.Proofs.Ytokekkacliomkaa.AE
