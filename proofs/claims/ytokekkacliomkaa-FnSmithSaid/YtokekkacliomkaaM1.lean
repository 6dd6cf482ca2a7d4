import Derived.Test.YtokekkacliomkaaP2
import Derived.Test.YtokekkacliomkaaE2
set_option linter.unusedVariables false
set_option linter.unusedSimpArgs false
section
set_option linter.unusedVariables false
set_option maxRecDepth 4000
namespace Go.Proofs.Ytokekkacliomkaa.AE
open Go Go.AE Go.Proofs
def mh.pl29 (F:Nat) :Nat->Int->Int->Int->List Int->Int->Option (Int×Int×List Int)
 | 0,_,_,_,_,_=>none
 | k+1,Kc,oP,nY,mc,kq=>(bif (decide (kq<Kc)) then ((ix mc (IntKind.i64.wrap ((IntKind.i64.wrap (kq * Kc))+kq))).bind λn1=>(some (mc.set n1 1)).bind λl2=>mh.pl29 F k Kc oP nY l2 (IntKind.i64.wrap (kq+1))) else (some (oP,nY,mc)))
def mh.p (F:Nat) (aa:Int):Option (Int×Int×List Int):=(eK.p F aa aa).bind λr2=>mh.pl29 F F aa r2.1 r2.2.1 r2.2.2 0
def nB.pl7 (F:Nat) :Nat->Int->Int->Int->List Int->Int->Option (List Int)
 | 0,_,_,_,_,_=>none
 | k+1,lY,sk,mi,nC,lT=>(bif (decide (lT<mi)) then ((cS.p F mi nC lY lT).bind λr2=>(cS.p F mi nC sk lT).bind λr6=>(ix nC (IntKind.i64.wrap ((IntKind.i64.wrap (lY * mi))+lT))).bind λn10=>(some (nC.set n10 r6)).bind λl11=>(ix l11 (IntKind.i64.wrap ((IntKind.i64.wrap (sk * mi))+lT))).bind λn13=>(some (l11.set n13 r2)).bind λl14=>nB.pl7 F k lY sk mi l14 (IntKind.i64.wrap (lT+1))) else (some nC))
def nB.p (F:Nat) (ac:Int) (aQ:List Int) (ak:Int) (bX:Int):Option (List Int):=nB.pl7 F F ak bX ac aQ 0
def nD.pl7 (F:Nat) :Nat->Int->Int->Int->Int->List Int->Int->Option (List Int)
 | 0,_,_,_,_,_,_=>none
 | k+1,lY,sk,Rr,mi,nC,lT=>(bif (decide (lT<Rr)) then ((cS.p F mi nC lT lY).bind λr2=>(cS.p F mi nC lT sk).bind λr6=>(ix nC (IntKind.i64.wrap ((IntKind.i64.wrap (lT * mi))+lY))).bind λn10=>(some (nC.set n10 r6)).bind λl11=>(ix l11 (IntKind.i64.wrap ((IntKind.i64.wrap (lT * mi))+sk))).bind λn13=>(some (l11.set n13 r2)).bind λl14=>nD.pl7 F k lY sk Rr mi l14 (IntKind.i64.wrap (lT+1))) else (some nC))
def nD.p (F:Nat) (aa:Int) (ac:Int) (aQ:List Int) (ak:Int) (bX:Int):Option (List Int):=nD.pl7 F F ak bX aa ac aQ 0
def cR.pj10 (F:Nat) (iJ:Int->Int->List Int->Int->List Int->Int->Int->List Int->Int->Int->List Int->Int->List Int->Int->Int->Int->Int->Int->Option (Bool×List Int×List Int×List Int×List Int×List Int)) (aI:Int) (aq:Int) (aT:List Int) (ay:Int) (aW:List Int) (az:Int) (av:Int) (aU:List Int) (aB:Int) (aC:Int) (aZ:List Int) (aD:Int) (a_:List Int) (aai:Int) (aaj:Int) (aak:Int) (aal:Int) (aam:Int):Option (Bool×List Int×List Int×List Int×List Int×List Int):=iJ aI aq aT ay aW az av aU aB aC aZ aD a_ aai aaj aak aal (IntKind.i64.wrap (aam+1))
def cR.pj8 (F:Nat) (bv:Int->Int->List Int->Int->List Int->Int->Int->List Int->Int->Int->List Int->Int->List Int->Int->Int->Int->Int->Option (Bool×List Int×List Int×List Int×List Int×List Int)) (aI:Int) (aq:Int) (aT:List Int) (ay:Int) (aW:List Int) (az:Int) (av:Int) (aU:List Int) (aB:Int) (aC:Int) (aZ:List Int) (aD:Int) (a_:List Int) (aan:Int) (aao:Int) (aap:Int) (aaq:Int):Option (Bool×List Int×List Int×List Int×List Int×List Int):=bv aI aq aT ay aW az av aU aB aC aZ aD a_ aan aao aap (IntKind.i64.wrap (aaq+1))
def cR.pj9 (F:Nat) (bv:Int->Int->List Int->Int->List Int->Int->Int->List Int->Int->Int->List Int->Int->List Int->Int->Int->Int->Int->Option (Bool×List Int×List Int×List Int×List Int×List Int)) (aI:Int) (aq:Int) (aT:List Int) (ay:Int) (aW:List Int) (az:Int) (av:Int) (aU:List Int) (aB:Int) (aC:Int) (aZ:List Int) (aD:Int) (a_:List Int) (aar:Int) (aas:Int) (aat:Int) (aau:Int):Option (Bool×List Int×List Int×List Int×List Int×List Int):=cR.pj8 F bv aI aq aT ay aW az av aU aB aC aZ aD a_ aar aas aat aau
def cR.pl469 (F:Nat) (bv:Int->Int->List Int->Int->List Int->Int->Int->List Int->Int->Int->List Int->Int->List Int->Int->Int->Int->Int->Option (Bool×List Int×List Int×List Int×List Int×List Int)):Nat->Int->Int->List Int->Int->List Int->Int->Int->List Int->Int->Int->List Int->Int->List Int->Int->Int->Int->Int->Int->Option (Bool×List Int×List Int×List Int×List Int×List Int)
 | 0,_,_,_,_,_,_,_,_,_,_,_,_,_,_,_,_,_,_=>none
 | k+1,aI,aq,aT,ay,aW,az,av,aU,aB,aC,aZ,aD,a_,yV,yW,DG,qz,qA=>(bif (decide (qA<aq)) then ((cS.p F aq aT qz qA).bind λr2=>(eS.p F r2).bind λr5=>(bif (decide (r5>0)) then ((bif (decide (yW<0)) then (cR.pl469 F bv k aI aq aT ay aW az av aU aB aC aZ aD a_ yV qz qA qz (IntKind.i64.wrap (qA+1))) else ((cS.p F aq aT yW DG).bind λr8=>(eS.p F r8).bind λr11=>(bif (decide (r5<r11)) then (cR.pj10 F (cR.pl469 F bv k) aI aq aT ay aW az av aU aB aC aZ aD a_ yV qz qA qz qA) else (cR.pj10 F (cR.pl469 F bv k) aI aq aT ay aW az av aU aB aC aZ aD a_ yV yW DG qz qA))))) else (cR.pl469 F bv k aI aq aT ay aW az av aU aB aC aZ aD a_ yV yW DG qz (IntKind.i64.wrap (qA+1))))) else (cR.pj9 F bv aI aq aT ay aW az av aU aB aC aZ aD a_ yV yW DG qz))
def cR.pl65515 (F:Nat) :Nat->List Int->Int->List Int->Int->List Int->List Int->List Int->Int->Int->Option (Bool×List Int×List Int×List Int×List Int×List Int)
 | 0,_,_,_,_,_,_,_,_,_=>none
 | k+1,aT,ay,aW,av,aU,aZ,a_,yX,wL=>(bif (decide (wL<ay)) then ((cS.p F ay aW yX wL).bind λr3=>(ix aW (IntKind.i64.wrap ((IntKind.i64.wrap (yX * ay))+wL))).bind λn7=>(some (aW.set n7 (IntKind.i64.wrap (0 - r3)))).bind λl8=>(cS.p F av aU wL yX).bind λr12=>(ix aU (IntKind.i64.wrap ((IntKind.i64.wrap (wL * av))+yX))).bind λn16=>(some (aU.set n16 (IntKind.i64.wrap (0 - r12)))).bind λl17=>cR.pl65515 F k aT ay l8 av l17 aZ a_ yX (IntKind.i64.wrap (wL+1))) else (some (true,aT,aW,aU,aZ,a_)))
def cR.pj5 (F:Nat)  (aT:List Int) (ay:Int) (aW:List Int) (av:Int) (aU:List Int) (aZ:List Int) (a_:List Int) (aav:Int):Option (Bool×List Int×List Int×List Int×List Int×List Int):=cR.pl65515 F F aT ay aW av aU aZ a_ aav 0
def cR.pl65513 (F:Nat) :Nat->Int->List Int->Int->List Int->Int->List Int->List Int->List Int->Int->Int->Option (Bool×List Int×List Int×List Int×List Int×List Int)
 | 0,_,_,_,_,_,_,_,_,_,_=>none
 | k+1,aq,aT,ay,aW,av,aU,aZ,a_,DH,DI=>(bif (decide (DI<aq)) then ((cS.p F aq aT DH DI).bind λr2=>(ix aT (IntKind.i64.wrap ((IntKind.i64.wrap (DH * aq))+DI))).bind λn6=>(some (aT.set n6 (IntKind.i64.wrap (0 - r2)))).bind λl7=>cR.pl65513 F k aq l7 ay aW av aU aZ a_ DH (IntKind.i64.wrap (DI+1))) else (cR.pj5 F aT ay aW av aU aZ a_ DH))
def cR.pj6 (F:Nat)  (aI:Int) (aq:Int) (aT:List Int) (ay:Int) (aW:List Int) (az:Int) (av:Int) (aU:List Int) (aB:Int) (aC:Int) (aZ:List Int) (aD:Int) (a_:List Int) (ph:Int) (DJ:Int) (Kd:Int):Option (Bool×List Int×List Int×List Int×List Int×List Int):=(bif (decide (DJ<0)) then (some (false,aT,aW,aU,aZ,a_)) else ((nB.p F aq aT DJ ph).bind λr1=>(nB.p F ay aW DJ ph).bind λr4=>(nD.p F az av aU DJ ph).bind λr7=>(nD.p F aI aq r1 Kd ph).bind λr10=>(nD.p F aB aC aZ Kd ph).bind λr13=>(nB.p F aD a_ Kd ph).bind λr16=>(cS.p F aq r10 ph ph).bind λr20=>(bif (decide (r20<0)) then (cR.pl65513 F F aq r10 ay r4 av r7 r13 r16 ph 0) else (some (true,r10,r4,r7,r13,r16)))))
def cR.pl29 (F:Nat) :Nat->Int->Int->List Int->Int->List Int->Int->Int->List Int->Int->Int->List Int->Int->List Int->Int->Int->Int->Int->Option (Bool×List Int×List Int×List Int×List Int×List Int)
 | 0,_,_,_,_,_,_,_,_,_,_,_,_,_,_,_,_,_=>none
 | k+1,aI,aq,aT,ay,aW,az,av,aU,aB,aC,aZ,aD,a_,oc,pi,Ru,Rv=>(bif (decide (Rv<aI)) then (cR.pl469 F (cR.pl29 F k) F aI aq aT ay aW az av aU aB aC aZ aD a_ oc pi Ru Rv oc) else (cR.pj6 F aI aq aT ay aW az av aU aB aC aZ aD a_ oc pi Ru))
def cR.p (F:Nat) (bN:Int) (ar:Int) (eT:List Int) (bC:Int) (fO:List Int) (bo:Int) (bj:Int) (cq:List Int) (bD:Int) (bE:Int) (fP:List Int) (bF:Int) (fQ:List Int) (ai:Int):Option (Bool×List Int×List Int×List Int×List Int×List Int):=cR.pl29 F F bN ar eT bC fO bo bj cq bD bE fP bF fQ ai (-1) (-1) ai
def DK.p (F:Nat) (aa:Int) (ax:Int):Option (Int):=(if ax=0 then none else ((if ax=0 then none else ((bif (decide ((Int.tmod aa ax)<0)) then (some (IntKind.i64.wrap ((IntKind.i64.wrap (Int.tdiv aa ax)) - 1))) else (some (IntKind.i64.wrap (Int.tdiv aa ax))))))))
def DL.p (F:Nat) (aa:Int) (ax:Int) (eF:Int):Option (Int):=(fa.p F ax eF 2000000000000).bind λr1=>(bif (!r1.2) then (some 3000000000000) else (some (IntKind.i64.wrap (aa - r1.1))))
def DM.p (F:Nat) (au:Bool) (ak:Int) (jq:List Int) (fS:Int) (fT:Int) (fM:Int):Option (Bool×List Int):=(eS.p F fM).bind λr2=>(bif (decide (r2>1000000000000)) then (some (true,jq)) else ((ix jq (IntKind.i64.wrap ((IntKind.i64.wrap (fS * ak))+fT))).bind λn6=>(some (jq.set n6 fM)).bind λl7=>some (au,l7)))
def lg.pl7 (F:Nat) :Nat->Bool->Int->Int->Int->Int->List Int->Int->Option (Bool×List Int)
 | 0,_,_,_,_,_,_,_=>none
 | k+1,au,sm,ko,yY,od,nE,nF=>(bif (decide (nF<od)) then ((bif (!au) then ((cS.p F od nE sm nF).bind λr3=>(cS.p F od nE ko nF).bind λr8=>(DL.p F r3 yY r8).bind λr12=>(DM.p F au od nE sm nF r12).bind λr16=>lg.pl7 F k r16.1 sm ko yY od r16.2 (IntKind.i64.wrap (nF+1))) else (some (au,nE)))) else (some (au,nE)))
def lg.p (F:Nat) (au:Bool) (ak:Int) (jq:List Int) (fS:Int) (fT:Int) (fM:Int):Option (Bool×List Int):=lg.pl7 F F au fS fT fM ak jq 0
def li.pl7 (F:Nat) :Nat->Bool->Int->Int->Int->Int->Int->List Int->Int->Option (Bool×List Int)
 | 0,_,_,_,_,_,_,_,_=>none
 | k+1,au,sm,ko,yY,Rw,od,nE,nF=>(bif (decide (nF<Rw)) then ((bif (!au) then ((cS.p F od nE nF sm).bind λr3=>(cS.p F od nE nF ko).bind λr8=>(DL.p F r3 yY r8).bind λr12=>(DM.p F au od nE nF sm r12).bind λr16=>li.pl7 F k r16.1 sm ko yY Rw od r16.2 (IntKind.i64.wrap (nF+1))) else (some (au,nE)))) else (some (au,nE)))
def li.p (F:Nat) (au:Bool) (ai:Int) (ak:Int) (jq:List Int) (fS:Int) (fT:Int) (fM:Int):Option (Bool×List Int):=li.pl7 F F au fS fT fM ai ak jq 0
def yZ.p (F:Nat) (ar:Int) (eT:List Int) (bC:Int) (fO:List Int) (bo:Int) (bj:Int) (cq:List Int) (au:Bool) (ai:Int) (bP:Int) (eg:Int):Option (List Int×List Int×List Int×Bool):=(bif (eg != 0) then ((lg.p F au ar eT ai bP eg).bind λr2=>(lg.p F r2.1 bC fO ai bP eg).bind λr5=>(li.p F r5.1 bo bj cq bP ai (IntKind.i64.wrap (0 - eg))).bind λr8=>some (r2.2,r5.2,r8.2,r8.1)) else (some (eT,fO,cq,au)))
def DN.p (F:Nat) (bN:Int) (ar:Int) (eT:List Int) (bD:Int) (bE:Int) (fP:List Int) (bF:Int) (fQ:List Int) (au:Bool) (ai:Int) (bP:Int) (eg:Int):Option (List Int×List Int×List Int×Bool):=(bif (eg != 0) then ((li.p F au bN ar eT ai bP eg).bind λr2=>(li.p F r2.1 bD bE fP ai bP eg).bind λr5=>(lg.p F r5.1 bF fQ bP ai (IntKind.i64.wrap (0 - eg))).bind λr8=>some (r2.2,r5.2,r8.2,r8.1)) else (some (eT,fP,fQ,au)))
def jA.pl29 (F:Nat) :Nat->Int->List Int->Int->Int->Option (Bool)
 | 0,_,_,_,_=>none
 | k+1,aq,jr,Rx,Ke=>(bif (decide (Ke<aq)) then ((cS.p F aq jr Rx Ke).bind λr1=>(bif (r1 != 0) then (some false) else (jA.pl29 F k aq jr Rx (IntKind.i64.wrap (Ke+1))))) else (some true))
def jA.pj1 (F:Nat)  (aq:Int) (jr:List Int) (Ry:Int):Option (Bool):=jA.pl29 F F aq jr Ry (IntKind.i64.wrap (Ry+1))
def jA.pl13 (F:Nat) :Nat->Int->Int->List Int->Int->Int->Option (Bool)
 | 0,_,_,_,_,_=>none
 | k+1,aI,aq,jr,oc,pi=>(bif (decide (pi<aI)) then ((cS.p F aq jr pi oc).bind λr1=>(bif (r1 != 0) then (some false) else (jA.pl13 F k aI aq jr oc (IntKind.i64.wrap (pi+1))))) else (jA.pj1 F aq jr oc))
def jA.p (F:Nat) (bN:Int) (ar:Int) (eT:List Int) (ai:Int):Option (Bool):=jA.pl13 F F bN ar eT ai (IntKind.i64.wrap (ai+1))
def iF.pj3 (F:Nat) (ny:Int->Int->List Int->Int->Int->Option (Int)) (aI:Int) (aq:Int) (jr:List Int) (aaw:Int) (aax:Int):Option (Int):=ny aI aq jr aaw (IntKind.i64.wrap (aax+1))
def iF.pj4 (F:Nat) (ny:Int->Int->List Int->Int->Int->Option (Int)) (aI:Int) (aq:Int) (jr:List Int) (aay:Int) (aaz:Int):Option (Int):=iF.pj3 F ny aI aq jr aay aaz
def iF.pl213 (F:Nat) (ny:Int->Int->List Int->Int->Int->Option (Int)):Nat->Int->Int->List Int->Int->Int->Int->Option (Int)
 | 0,_,_,_,_,_,_=>none
 | k+1,aI,aq,jr,DO,DP,Kf=>(bif (decide (Kf<aq)) then ((cS.p F aq jr DP Kf).bind λr1=>(cS.p F aq jr DO DO).bind λr4=>(if r4=0 then none else ((bif ((Int.tmod r1 r4) != 0) then (some DP) else (iF.pl213 F ny k aI aq jr DO DP (IntKind.i64.wrap (Kf+1))))))) else (iF.pj4 F ny aI aq jr DO DP))
def iF.pl13 (F:Nat) :Nat->Int->Int->List Int->Int->Int->Option (Int)
 | 0,_,_,_,_,_=>none
 | k+1,aI,aq,jr,oc,pi=>(bif (decide (pi<aI)) then (iF.pl213 F (iF.pl13 F k) F aI aq jr oc pi (IntKind.i64.wrap (oc+1))) else (some (-1)))
def iF.p (F:Nat) (bN:Int) (ar:Int) (eT:List Int) (ai:Int):Option (Int):=iF.pl13 F F bN ar eT ai (IntKind.i64.wrap (ai+1))
def fx.pj1 (F:Nat)  (aI:Int) (aq:Int) (aT:List Int) (ay:Int) (aW:List Int) (az:Int) (av:Int) (aU:List Int) (aZ:List Int) (a_:List Int) (au:Bool) (Kg:Int):Option (Bool×Bool×List Int×List Int×List Int×List Int×List Int×Bool):=(bif au then (some (false,false,aT,aW,aU,aZ,a_,au)) else ((jA.p F aI aq aT Kg).bind λr3=>(bif (!r3) then (some (false,false,aT,aW,aU,aZ,a_,au)) else ((iF.p F aI aq aT Kg).bind λr8=>(bif (decide (r8<0)) then (some (true,false,aT,aW,aU,aZ,a_,au)) else ((yZ.p F aq aT ay aW az av aU au Kg r8 (-1)).bind λr13=>some (false,false,r13.1,r13.2.1,r13.2.2.1,aZ,a_,r13.2.2.2)))))))
def fx.pl61 (F:Nat) :Nat->Int->Int->List Int->Int->List Int->Int->Int->List Int->Int->Int->List Int->Int->List Int->Bool->Int->Int->Option (Bool×Bool×List Int×List Int×List Int×List Int×List Int×Bool)
 | 0,_,_,_,_,_,_,_,_,_,_,_,_,_,_,_,_=>none
 | k+1,aI,aq,aT,ay,aW,az,av,aU,aB,aC,aZ,aD,a_,au,sp,DQ=>(bif (decide (DQ<aq)) then ((bif (!au) then ((cS.p F aq aT sp DQ).bind λr2=>(cS.p F aq aT sp sp).bind λr7=>(DK.p F r2 r7).bind λr10=>(DN.p F aI aq aT aB aC aZ aD a_ au DQ sp r10).bind λr13=>fx.pl61 F k aI aq r13.1 ay aW az av aU aB aC r13.2.1 aD r13.2.2.1 r13.2.2.2 sp (IntKind.i64.wrap (DQ+1))) else (fx.pj1 F aI aq aT ay aW az av aU aZ a_ au sp))) else (fx.pj1 F aI aq aT ay aW az av aU aZ a_ au sp))
def fx.pj2 (F:Nat)  (aI:Int) (aq:Int) (aT:List Int) (ay:Int) (aW:List Int) (az:Int) (av:Int) (aU:List Int) (aB:Int) (aC:Int) (aZ:List Int) (aD:Int) (a_:List Int) (au:Bool) (ms:Int):Option (Bool×Bool×List Int×List Int×List Int×List Int×List Int×Bool):=fx.pl61 F F aI aq aT ay aW az av aU aB aC aZ aD a_ au ms (IntKind.i64.wrap (ms+1))
def fx.pl29 (F:Nat) :Nat->Int->Int->List Int->Int->List Int->Int->Int->List Int->Int->Int->List Int->Int->List Int->Bool->Int->Int->Option (Bool×Bool×List Int×List Int×List Int×List Int×List Int×Bool)
 | 0,_,_,_,_,_,_,_,_,_,_,_,_,_,_,_,_=>none
 | k+1,aI,aq,aT,ay,aW,az,av,aU,aB,aC,aZ,aD,a_,au,sq,DR=>(bif (decide (DR<aI)) then ((bif (!au) then ((cS.p F aq aT DR sq).bind λr2=>(cS.p F aq aT sq sq).bind λr7=>(DK.p F r2 r7).bind λr10=>(yZ.p F aq aT ay aW az av aU au DR sq r10).bind λr13=>fx.pl29 F k aI aq r13.1 ay r13.2.1 az av r13.2.2.1 aB aC aZ aD a_ r13.2.2.2 sq (IntKind.i64.wrap (DR+1))) else (fx.pj2 F aI aq aT ay aW az av aU aB aC aZ aD a_ au sq))) else (fx.pj2 F aI aq aT ay aW az av aU aB aC aZ aD a_ au sq))
def fx.p (F:Nat) (bN:Int) (ar:Int) (eT:List Int) (bC:Int) (fO:List Int) (bo:Int) (bj:Int) (cq:List Int) (bD:Int) (bE:Int) (fP:List Int) (bF:Int) (fQ:List Int) (au:Bool) (ai:Int):Option (Bool×Bool×List Int×List Int×List Int×List Int×List Int×Bool):=(cR.p F bN ar eT bC fO bo bj cq bD bE fP bF fQ ai).bind λr1=>(bif (!r1.1) then (some (true,true,r1.2.1,r1.2.2.1,r1.2.2.2.1,r1.2.2.2.2.1,r1.2.2.2.2.2,au)) else (fx.pl29 F F bN ar r1.2.1 bC r1.2.2.1 bo bj r1.2.2.2.1 bD bE r1.2.2.2.2.1 bF r1.2.2.2.2.2 au ai (IntKind.i64.wrap (ai+1))))
def ga.pj3 (F:Nat) (bv:Int->Int->Int->Int->List Int->Int->Int->List Int->Int->Int->List Int->Int->Int->List Int->Int->Int->List Int->Bool->Int->Option (Int×Int×List Int×Int×Int×List Int×Int×Int×List Int×Int×Int×List Int×Int×Int×List Int×Bool)) (aaA:Int) (aaB:Int) (aaC:Int) (aaD:Int) (aaE:List Int) (aaF:Int) (aaG:Int) (aaH:List Int) (aaI:Int) (aaJ:Int) (aaK:List Int) (aaL:Int) (aaM:Int) (aaN:List Int) (aaO:Int) (aaP:Int) (aaQ:List Int) (aaR:Bool) (aaS:Int):Option (Int×Int×List Int×Int×Int×List Int×Int×Int×List Int×Int×Int×List Int×Int×Int×List Int×Bool):=bv aaA aaB aaC aaD aaE aaF aaG aaH aaI aaJ aaK aaL aaM aaN aaO aaP aaQ aaR (IntKind.i64.wrap (aaS+1))
def ga.pj4 (F:Nat) (bv:Int->Int->Int->Int->List Int->Int->Int->List Int->Int->Int->List Int->Int->Int->List Int->Int->Int->List Int->Bool->Int->Option (Int×Int×List Int×Int×Int×List Int×Int×Int×List Int×Int×Int×List Int×Int×Int×List Int×Bool)) (aaT:Int) (aaU:Int) (Kh:Int) (Ki:Int) (Kj:List Int) (Kk:Int) (Kl:Int) (Km:List Int) (Ko:Int) (Kp:Int) (Kq:List Int) (Ks:Int) (Kt:Int) (Ku:List Int) (Kv:Int) (Kw:Int) (Ky:List Int) (DS:Bool) (Ey:Int) (aaV:Bool):Option (Int×Int×List Int×Int×Int×List Int×Int×Int×List Int×Int×Int×List Int×Int×Int×List Int×Bool):=(bif aaV then (some (Kh,Ki,Kj,Kk,Kl,Km,Ko,Kp,Kq,Ks,Kt,Ku,Kv,Kw,Ky,DS)) else ((bif DS then (some (Kh,Ki,Kj,Kk,Kl,Km,Ko,Kp,Kq,Ks,Kt,Ku,Kv,Kw,Ky,DS)) else (ga.pj3 F bv aaT aaU Kh Ki Kj Kk Kl Km Ko Kp Kq Ks Kt Ku Kv Kw Ky DS Ey))))
def ga.pl938 (F:Nat) (bv:Int->Int->Int->Int->List Int->Int->Int->List Int->Int->Int->List Int->Int->Int->List Int->Int->Int->List Int->Bool->Int->Option (Int×Int×List Int×Int×Int×List Int×Int×Int×List Int×Int×Int×List Int×Int×Int×List Int×Bool)):Nat->Int->Int->Int->Int->List Int->Int->Int->List Int->Int->Int->List Int->Int->Int->List Int->Int->Int->List Int->Bool->Int->Bool->Bool->Option (Int×Int×List Int×Int×Int×List Int×Int×Int×List Int×Int×Int×List Int×Int×Int×List Int×Bool)
 | 0,_,_,_,_,_,_,_,_,_,_,_,_,_,_,_,_,_,_,_,_,_=>none
 | k+1,Kz,KA,DT,DU,KB,KC,DV,KD,DW,DX,KE,DY,DZ,KF,KG,D_,KH,Ea,Eb,aaW,Rz=>(bif (!aaW) then ((bif (!Ea) then ((fx.p F DT DU KB DV KD DW DX KE DY DZ KF D_ KH Ea Eb).bind λr2=>ga.pl938 F bv k Kz KA DT DU r2.2.2.1 KC DV r2.2.2.2.1 DW DX r2.2.2.2.2.1 DY DZ r2.2.2.2.2.2.1 KG D_ r2.2.2.2.2.2.2.1 r2.2.2.2.2.2.2.2 Eb r2.1 r2.2.1) else (ga.pj4 F bv Kz KA DT DU KB KC DV KD DW DX KE DY DZ KF KG D_ KH Ea Eb Rz))) else (ga.pj4 F bv Kz KA DT DU KB KC DV KD DW DX KE DY DZ KF KG D_ KH Ea Eb Rz))
def ga.pl29 (F:Nat) :Nat->Int->Int->Int->Int->List Int->Int->Int->List Int->Int->Int->List Int->Int->Int->List Int->Int->Int->List Int->Bool->Int->Option (Int×Int×List Int×Int×Int×List Int×Int×Int×List Int×Int×Int×List Int×Int×Int×List Int×Bool)
 | 0,_,_,_,_,_,_,_,_,_,_,_,_,_,_,_,_,_,_,_=>none
 | k+1,KI,KJ,RA,RB,RC,RD,RE,RF,RG,RH,RI,RJ,RK,RL,RM,RN,RO,RP,RQ=>(bif (decide (RQ<(if KJ<KI then KJ else KI))) then (ga.pl938 F (ga.pl29 F k) F KI KJ RA RB RC RD RE RF RG RH RI RJ RK RL RM RN RO RP RQ false false) else (some (RA,RB,RC,RD,RE,RF,RG,RH,RI,RJ,RK,RL,RM,RN,RO,RP)))
def ga.p (F:Nat) (aa:Int) (ac:Int) (aQ:List Int):Option (Int×Int×List Int×Int×Int×List Int×Int×Int×List Int×Int×Int×List Int×Int×Int×List Int×Bool):=(apn ([]:List Int) aQ).bind λl4=>(mh.p F aa).bind λr7=>(mh.p F aa).bind λr10=>(mh.p F ac).bind λr13=>(mh.p F ac).bind λr16=>ga.pl29 F F aa ac aa ac l4 r7.1 r7.2.1 r7.2.2 r10.1 r10.2.1 r10.2.2 r13.1 r13.2.1 r13.2.2 r16.1 r16.2.1 r16.2.2 false 0
def RR.p (F:Nat) (aa:Int):Option (Bool):=some (aa != 0)
def nG.pl13 (F:Nat) :Nat->List Int->Int->Int->Option (Int)
 | 0,_,_,_=>none
 | k+1,hG,gh,eo=>(bif (decide (eo<gh)) then ((ix hG eo).bind λn1=>(RR.p F (gt hG n1)).bind λr2=>(bif r2 then (some eo) else (nG.pl13 F k hG gh (IntKind.i64.wrap (eo+1))))) else (some (-1)))
def nG.p (F:Nat) (bg:List Int):Option (Int):=nG.pl13 F F bg (bg.length:Int) 0
def KK.p (F:Nat) (bg:List Int):Option (Bool):=(nG.p F bg).bind λr1=>some (decide (r1>=0))
def Ec.p (F:Nat) (aa:Int):Option (Bool):=some (aa==1)
def pj.pl13 (F:Nat) :Nat->List Int->Int->Int->Option (Int)
 | 0,_,_,_=>none
 | k+1,hG,gh,eo=>(bif (decide (eo<gh)) then ((ix hG eo).bind λn1=>(Ec.p F (gt hG n1)).bind λr2=>(bif r2 then (some eo) else (pj.pl13 F k hG gh (IntKind.i64.wrap (eo+1))))) else (some (-1)))
def pj.p (F:Nat) (bg:List Int):Option (Int):=pj.pl13 F F bg (bg.length:Int) 0
def jW.pj3 (F:Nat) (iI:List Int->Int->Int->Option (List Int)) (aaX:List Int) (pz:Int) (aaY:Int):Option (List Int):=iI aaX pz (IntKind.i64.wrap (aaY+1))
def jW.pj2 (F:Nat)  (aaZ:List Int) (aa0:Int):Option (List Int):=(cutf aaZ 0 aa0).bind λl1=>some l1
def jW.pl61 (F:Nat) :Nat->List Int->Int->Int->Option (List Int)
 | 0,_,_,_=>none
 | k+1,jm,j_,js=>(bif (decide (js<(jm.length:Int))) then ((ix jm js).bind λn1=>(Ec.p F (gt jm n1)).bind λr2=>(bif (!r2) then ((ix jm j_).bind λn4=>(some (jm.set n4 (gt jm n1))).bind λl5=>jW.pj3 F (jW.pl61 F k) l5 (IntKind.i64.wrap (j_+1)) js) else (jW.pj3 F (jW.pl61 F k) jm j_ js))) else (jW.pj2 F jm j_))
def jW.p (F:Nat) (bg:List Int):Option (List Int):=(pj.p F bg).bind λr2=>(bif (r2==(-1)) then (some bg) else (jW.pl61 F F bg r2 (IntKind.i64.wrap (r2+1))))
def KL.p (F:Nat) (bg:List Int):Option (List Int):=(jW.p F bg).bind λr1=>some r1
def Ed.p (F:Nat) (aa:Int) (ac:Int) (aQ:List Int) (ak:Int) (aO:Int) (dt:List Int):Option (Int×List Int×Int):=(aL.p F ak aO dt aa ac aQ).bind λr4=>(bif (r4.2.2.2 != 0) then (some (0,([]:List Int),r4.2.2.2)) else ((KK.p F r4.2.2.1).bind λr17=>(bif r17 then (some (0,([]:List Int),5)) else ((bu.p F aa ac aQ).bind λr25=>(bu.p F ak aO dt).bind λr27=>(bif (r25.2 != 0) then (some (0,([]:List Int),3)) else ((bif (r27.2 != 0) then (some (0,([]:List Int),3)) else ((gZ.p F r25.1).bind λr41=>(gZ.p F r27.1).bind λr46=>(KL.p F r25.1).bind λr50=>some ((IntKind.i64.wrap ((IntKind.i64.wrap (aa - r41)) - r46)),r50,0)))))))))
end Go.Proofs.Ytokekkacliomkaa.AE
end
section
namespace Go.AE
abbrev Mat:=Int->Int->Int
def mk (R C:Nat) (A:Mat):List Int:=(List.range (R * C)).map λn=>A ((n / C:Nat):Int) ((n % C:Nat):Int)
def upd (A:Mat) (i j x:Int):Mat:=λa b=>if a=i/\b=j then x else A a b
theorem Ev (A:Mat) (i j x:Int):upd A i j x i j=x:=by simp [upd]
theorem jD (A:Mat) {i j a b:Int} (x:Int) (h:¬ (a=i/\b=j)):upd A i j x a b=A a b:=by simp only [upd,if_neg h]
variable {R C:Nat} {A B:Mat}
theorem gP (R C:Nat) (A:Mat):(mk R C A).length=R * C:=by simp [mk]
theorem zm {i j:Int} (hi0:0<=i) (hi:i<R) (hj0:0<=j) (hj:j<C):∃ a b:Nat,i=a/\j=b/\a<R/\b<C/\(i * C+j).toNat=a * C+b/\a * C+b<R * C/\(i * C+j)=((a * C+b:Nat):Int):=by
 refine ⟨i.toNat,j.toNat,by omega,by omega,by omega,by omega,?_,?_,?_⟩
 ·obtain ⟨a,rfl⟩:=Int.eq_ofNat_of_zero_le hi0
  obtain ⟨b,rfl⟩:=Int.eq_ofNat_of_zero_le hj0
  simp only [Int.toNat_natCast]
  rw [<- Int.natCast_mul,<-Int.natCast_add,Int.toNat_natCast]
 ·have h1:i.toNat+1<=R:=by omega
  have:=Nat.mul_le_mul_right C h1
  rw [Nat.add_mul] at this
  omega
 ·obtain ⟨a,rfl⟩:=Int.eq_ofNat_of_zero_le hi0
  obtain ⟨b,rfl⟩:=Int.eq_ofNat_of_zero_le hj0
  simp
theorem zn {a b:Nat} (hb:b<C) (h:a * C+b<R * C):(mk R C A)[a * C+b]?=some (A a b):=by
 have hC:0<C:=by omega
 have e1:(a * C+b) / C=a:=by rw [Nat.add_comm,Nat.add_mul_div_right _ _ hC,Nat.div_eq_of_lt hb,Nat.zero_add]
 have e2:(a * C+b) % C=b:=by rw [Nat.add_comm,Nat.add_mul_mod_self_right,Nat.mod_eq_of_lt hb]
 unfold mk
 rw [List.getElem?_map,List.getElem?_range h]
 simp only [Option.map_some,e1,e2]
theorem hJ {i j:Int} (hi0:0<=i) (hi:i<R) (hj0:0<=j) (hj:j<C):gt (mk R C A) (i * C+j).toNat=A i j:=by
 obtain ⟨a,b,rfl,rfl,ha,hb,e,hlt,_⟩:=zm hi0 hi hj0 hj
 rw [e]
 unfold gt
 rw [List.getD_eq_getElem?_getD,zn hb hlt];rfl
theorem gD {i j:Int} (hR:R<=1000) (hC:C<=1000) (hi0:0<=i) (hi:i<R) (hj0:0<=j) (hj:j<C):ix (mk R C A) (IntKind.i64.wrap (IntKind.i64.wrap (i * C)+j))=some (i * C+j).toNat:=by
 obtain ⟨a,b,e1,e2,ha,hb,e,hlt,e3⟩:=zm hi0 hi hj0 hj
 have hm:R * C<=1000 * 1000:=Nat.mul_le_mul hR hC
 have h1:0<=i * C:=Int.mul_nonneg hi0 (Int.natCast_nonneg _)
 rw [aN (x:=i * C) (by omega) (by omega),aN (x:=i * C+j) (by omega) (by omega)]
 unfold ix
 rw [gP,if_pos (by omega)]
theorem dC (h:∀ i j:Int,0<=i->i<R->0<=j->j<C->A i j=B i j):mk R C A=mk R C B:=by
 unfold mk
 apply List.map_congr_left
 intro n hn
 have hn:=List.mem_range.1 hn
 have hC:0<C:=by
  rcases Nat.eq_zero_or_pos C with h | h
  ·subst h;simp at hn
  ·exact h
 exact h _ _ (Int.natCast_nonneg _) (Int.ofNat_lt.2 ((Nat.div_lt_iff_lt_mul hC).2 hn)) (Int.natCast_nonneg _) (Int.ofNat_lt.2 (Nat.mod_lt n hC))
theorem ack {l:List Int} (h:l.length=R * C):l=mk R C λi j=>gt l (i * C+j).toNat:=by
 apply List.ext_getElem?
 intro n
 by_cases hn:n<R * C
 ·unfold mk
  rw [List.getElem?_map,List.getElem?_range hn]
  simp only [Option.map_some]
  have e:(((n / C:Nat):Int) * C+((n % C:Nat):Int)).toNat=n:=by
   rw [<- Int.natCast_mul,<-Int.natCast_add,Int.toNat_natCast,Nat.mul_comm,Nat.div_add_mod]
  rw [e]
  exact sH (by omega)
 ·rw [List.getElem?_eq_none (by omega),List.getElem?_eq_none (by rw [gP];omega)]
theorem ll {i j x:Int} (hi0:0<=i) (hi:i<R) (hj0:0<=j) (hj:j<C):(mk R C A).set (i * C+j).toNat x=mk R C (upd A i j x):=by
 obtain ⟨a,b,rfl,rfl,ha,hb,e,hlt,_⟩:=zm hi0 hi hj0 hj
 rw [e]
 apply List.ext_getElem?
 intro n
 by_cases hn:n<R * C
 ·have hC:0<C:=by omega
  have hd:n=n / C * C+n % C:=by rw [Nat.mul_comm,Nat.div_add_mod]
  have hr:=Nat.mod_lt n hC
  rw [hd,zn hr (by omega)]
  by_cases e:n / C=a/\n % C=b
  ·rw [e.1,e.2,List.getElem?_set_self (by rw [gP];exact hlt),Ev]
  ·have:a * C+b≠n / C * C+n % C:=by
    intro h
    rw [<- hd] at h
    apply e
    constructor
    ·rw [<- h,Nat.add_comm,Nat.add_mul_div_right _ _ hC,Nat.div_eq_of_lt hb,Nat.zero_add]
    ·rw [<- h,Nat.add_comm,Nat.add_mul_mod_self_right,Nat.mod_eq_of_lt hb]
   rw [List.getElem?_set_ne this,zn hr (by omega),jD _ _ (by omega)]
 ·rw [List.getElem?_eq_none (by rw [List.length_set,gP];omega),List.getElem?_eq_none (by rw [gP];omega)]
end Go.AE
end
section
namespace Go.Proofs.Ytokekkacliomkaa.AE
open Go Go.AE Go.Proofs
def Sg:Nat->(Int->Int)->Int
 | 0,_=>0
 | n+1,f=>Sg n f+f (n:Int)
theorem Sg_congr {f g:Int->Int}:∀ {n:Nat},(∀ i:Int,0<=i->i<n->f i=g i)->Sg n f=Sg n g
 | 0,_=>rfl
 | n+1,h=>by
  show Sg n f+f n=Sg n g+g n
  rw [Sg_congr (n:=n) λi h0 h1=>h i h0 (by omega),h n (by omega) (by omega)]
theorem Sg_nul:∀ n:Nat,Sg n (λ_=>0)=0
 | 0=>rfl
 | n+1=>by show Sg n _+0=0;rw [Sg_nul n];rfl
theorem Sg_zero {n:Nat} {f:Int->Int} (h:∀ i:Int,0<=i->i<n->f i=0):Sg n f=0:=by
 rw [Sg_congr (g:=λ_=>0) h];exact Sg_nul n
theorem Sg_add {f g:Int->Int}:∀ n:Nat,Sg n (λi=>f i+g i)=Sg n f+Sg n g
 | 0=>rfl
 | n+1=>by
  show Sg n (λi=>f i+g i)+(f n+g n)=Sg n f+f n+(Sg n g+g n)
  rw [Sg_add n];omega
theorem Sg_mul {c:Int} {f:Int->Int}:∀ n:Nat,Sg n (λi=>c * f i)=c * Sg n f
 | 0=>by show 0=c * 0;rw [Int.mul_zero]
 | n+1=>by
  show Sg n (λi=>c * f i)+c * f n=c * (Sg n f+f n)
  rw [Sg_mul n,Int.mul_add]
theorem Sg_mulr {c:Int} {f:Int->Int} {n:Nat}:Sg n (λi=>f i * c)=Sg n f * c:=by
 rw [Int.mul_comm,<-Sg_mul];exact Sg_congr λ_ _ _=>Int.mul_comm _ _
theorem Sg_comm {m:Nat} {f:Int->Int->Int}:∀ n:Nat,Sg n (λi=>Sg m λj=>f i j)=Sg m λj=>Sg n λi=>f i j
 | 0=>(Sg_nul m).symm
 | n+1=>by
  show Sg n (λi=>Sg m λj=>f i j)+Sg m (λj=>f n j)=Sg m λj=>Sg n (λi=>f i j)+f n j
  rw [Sg_comm n,Sg_add]
theorem Sg_one {f:Int->Int} {k:Int} (h0:0<=k):∀ {n:Nat},Sg n (λi=>if i=k then f i else 0)=if k<n then f k else 0
 | 0=>by rw [if_neg (by omega)];rfl
 | n+1=>by
  show Sg n (λi=>if i=k then f i else 0)+(if (n:Int)=k then f n else 0)=_
  rw [Sg_one h0 (n:=n)]
  by_cases e:(n:Int)=k
  ·subst e;rw [if_neg (by omega),if_pos rfl,if_pos (by omega),Int.zero_add]
  ·rw [if_neg e,Int.add_zero]
   by_cases c:k<n
   ·rw [if_pos c,if_pos (by omega)]
   ·rw [if_neg c,if_neg (by omega)]
theorem Sg_dvd {d:Int} {f:Int->Int}:∀ {n:Nat},(∀ i:Int,0<=i->i<n->d∣f i)->d∣Sg n f
 | 0,_=>⟨0,(Int.mul_zero _).symm⟩
 | n+1,h=>Int.dvd_add (Sg_dvd (n:=n) λi h0 h1=>h i h0 (by omega)) (h n (by omega) (by omega))
theorem Sg_le {f g:Int->Int}:∀ {n:Nat},(∀ i:Int,0<=i->i<n->f i<=g i)->Sg n f<=Sg n g
 | 0,_=>Int.le_refl _
 | n+1,h=>Int.add_le_add (Sg_le (n:=n) λi h0 h1=>h i h0 (by omega)) (h n (by omega) (by omega))
theorem Sg_nn {f:Int->Int} {n:Nat} (h:∀ i:Int,0<=i->i<n->0<=f i):0<=Sg n f:=by
 have:=Sg_le (n:=n) h;rw [Sg_nul] at this;exact this
theorem Sg_ge {f:Int->Int} {k:Int} (h0:0<=k):∀ {n:Nat},(∀ i:Int,0<=i->i<n->0<=f i)->k<n->f k<=Sg n f
 | 0,_,hk=>by omega
 | n+1,h,hk=>by
  show f k<=Sg n f+f n
  by_cases e:k=n
  ·subst e;have:=Sg_nn (n:=n) λi h0 h1=>h i h0 (by omega);omega
  ·have:=Sg_ge h0 (n:=n) (λi h0 h1=>h i h0 (by omega)) (by omega)
   have:=h n (by omega) (by omega)
   omega
theorem Sg_split {f:Int->Int} {a:Nat}:∀ b:Nat,Sg (a+b) f=Sg a f+Sg b λi=>f (i+a)
 | 0=>(Int.add_zero _).symm
 | b+1=>by
  show Sg (a+b) f+f ((a+b:Nat):Int)=Sg a f+(Sg b (λi=>f (i+a))+f ((b:Int)+a))
  rw [Sg_split b,show ((a+b:Nat):Int)=(b:Int)+a by omega];omega
def mm (n:Nat) (A B:Mat):Mat:=λi j=>Sg n λl=>A i l * B l j
theorem mm_assoc {n m:Nat} {A B C:Mat}:mm n (mm m A B) C=mm m A (mm n B C):=by
 funext i j
 show Sg n (λl=>Sg m (λk=>A i k * B k l) * C l j)=Sg m λk=>A i k * Sg n λl=>B k l * C l j
 rw [Sg_congr (g:=λl=>Sg m λk=>A i k * B k l * C l j) λl _ _=>(Sg_mulr).symm,Sg_comm]
 refine Sg_congr λk _ _=>?_
 rw [<- Sg_mul]
 exact Sg_congr λl _ _=>Int.mul_assoc _ _ _
theorem mm_congr {n:Nat} {A B A' B':Mat} {i j:Int} (h:∀ l:Int,0<=l->l<n->A i l=A' i l) (h':∀ l:Int,0<=l->l<n->B l j=B' l j):mm n A B i j=mm n A' B' i j:=
 Sg_congr λl h0 h1=>by rw [h l h0 h1,h' l h0 h1]
def idM:Mat:=λa b=>if a=b then 1 else 0
theorem mm_idl {n:Nat} {A:Mat} {i j:Int} (h0:0<=i) (h:i<n):mm n idM A i j=A i j:=by
 show Sg n (λl=>(if i=l then 1 else 0) * A l j)=_
 rw [Sg_congr (g:=λl=>if l=i then A l j else 0) λl _ _=>by
  by_cases e:l=i
  ·subst e;simp
  ·rw [if_neg e,if_neg (Ne.symm e),Int.zero_mul],Sg_one h0,if_pos h]
theorem mm_idr {n:Nat} {A:Mat} {i j:Int} (h0:0<=j) (h:j<n):mm n A idM i j=A i j:=by
 show Sg n (λl=>A i l * (if l=j then 1 else 0))=_
 rw [Sg_congr (g:=λl=>if l=j then A i l else 0) λl _ _=>by by_cases e:l=j <;> simp [e],Sg_one h0,if_pos h]
def cnt:Nat->(Int->Bool)->Nat
 | 0,_=>0
 | n+1,P=>cnt n P+(if P n then 1 else 0)
theorem cnt_pos {P:Int->Bool}:∀ {n:Nat},0<cnt n P->∃ j:Int,0<=j/\j<n/\P j=true
 | 0,h=>absurd h (Nat.lt_irrefl _)
 | n+1,h=>by
  by_cases c:P n=true
  ·exact ⟨n,by omega,by omega,c⟩
  ·have h:0<cnt n P+(if P n then 1 else 0):=h
   rw [if_neg c] at h
   obtain ⟨j,h1,h2,h3⟩:=cnt_pos (n:=n) h
   exact ⟨j,h1,by omega,h3⟩
theorem cnt_out {P Q:Int->Bool}:∀ {n:Nat},(∀ i:Int,0<=i->i<n->P i=Q i)->cnt n P=cnt n Q
 | 0,_=>rfl
 | n+1,h=>by
  show cnt n P+_=cnt n Q+_
  rw [cnt_out (n:=n) λi h0 h1=>h i h0 (by omega),h n (by omega) (by omega)]
theorem cnt_rem {P:Int->Bool} {c:Int} (h0:0<=c) (hp:P c=true):∀ {n:Nat},c<n->cnt n (λj=>P j&&decide (j≠c))+1=cnt n P
 | 0,h=>by omega
 | n+1,h=>by
  show cnt n (λj=>P j&&decide (j≠c))+(if (P n&&decide ((n:Int)≠c)) then 1 else 0)+1=cnt n P+(if P n then 1 else 0)
  by_cases e:(n:Int)=c
  ·subst e
   rw [cnt_out (n:=n) (Q:=P) λi _ h1=>by rw [decide_eq_true (by omega),Bool.and_true]]
   simp [hp]
  ·have:=cnt_rem h0 hp (n:=n) (by omega)
   rw [decide_eq_true e,Bool.and_true];omega
theorem cnt_all:∀ n:Nat,cnt n (λ_=>true)=n
 | 0=>rfl
 | n+1=>by show cnt n _+1=_;rw [cnt_all n]
theorem kv {s:Nat}:∀ (k:Nat) (P:Int->Bool) (Y:Mat),k<cnt s P->∃ z:Int->Int,(∃ j:Int,0<=j/\j<s/\z j≠0)/\(∀ j,P j=false->z j=0)/\∀ r:Int,0<=r->r<k->Sg s (λj=>Y r j * z j)=0:=by
 intro k
 induction k with
 | zero=>
  intro P Y h
  obtain ⟨j,h1,h2,h3⟩:=cnt_pos h
  refine ⟨λi=>if i=j then 1 else 0,⟨j,h1,h2,by simp⟩,λi hi=>?_,λr h1 h2=>by omega⟩
  have:i≠j:=λe=>by rw [e,h3] at hi;cases hi
  exact if_neg this
 | succ k ih=>
  intro P Y h
  by_cases c0:∀ j:Int,0<=j->j<s->P j=true->Y k j=0
  ·obtain ⟨z,z1,z2,z3⟩:=ih P Y (by omega)
   refine ⟨z,z1,z2,λr h1 h2=>?_⟩
   by_cases e:r=k
   ·subst e
    refine Sg_zero λj h3 h4=>?_
    cases hp:P j with
    | false=>rw [z2 j hp,Int.mul_zero]
    | true=>rw [c0 j h3 h4 hp,Int.zero_mul]
   ·exact z3 r h1 (by omega)
  ·obtain ⟨c,c1,c2,c3,c4⟩:∃ c:Int,0<=c/\c<s/\P c=true/\Y k c≠0:=Classical.byContradiction λhn=>c0 λj h1 h2 h3=>Classical.byContradiction λh4=>hn ⟨j,h1,h2,h3,h4⟩
   have hc:=cnt_rem c1 c3 c2
   obtain ⟨z,⟨j,j1,j2,j3⟩,z2,z3⟩:=ih (λj=>P j&&decide (j≠c)) (λr j=>Y r j * Y k c - Y r c * Y k j) (by omega)
   have zc:z c=0:=z2 c (by simp)
   have key:∀ r:Int,Sg s (λj=>Y r j * (if j=c then - Sg s (λj=>Y k j * z j) else Y k c * z j))=Y k c * Sg s (λj=>Y r j * z j) - Y r c * Sg s (λj=>Y k j * z j):=λr=>by
    rw [Sg_congr (g:=λj=>Y k c * (Y r j * z j)+(if j=c then - (Y r j * Sg s (λj=>Y k j * z j)) else 0)) λj _ _=>by
     by_cases e:j=c
     ·subst e;rw [if_pos rfl,if_pos rfl,zc,Int.mul_zero,Int.mul_zero,Int.mul_neg,Int.zero_add]
     ·rw [if_neg e,if_neg e,Int.add_zero,Int.mul_left_comm],Sg_add,Sg_mul,Sg_one c1,if_pos c2]
    omega
   refine ⟨λj=>if j=c then - Sg s (λj=>Y k j * z j) else Y k c * z j,⟨j,j1,j2,?_⟩,λj hj=>?_,λr h1 h2=>?_⟩
   ·have:j≠c:=λe=>j3 (by rw [e];exact zc)
    simp only [if_neg this]
    exact Int.mul_ne_zero c4 j3
   ·have:j≠c:=λe=>by rw [e,c3] at hj;cases hj
    simp only [if_neg this]
    rw [z2 j (by rw [hj];rfl),Int.mul_zero]
   ·rw [key r]
    by_cases e:r=k
    ·subst e;omega
    ·have:=z3 r h1 (by omega)
     rw [Sg_congr (g:=λj=>Y k c * (Y r j * z j)+- Y r c * (Y k j * z j)) λj _ _=>by
      rw [Int.sub_mul,Int.neg_mul,<-Int.sub_eq_add_neg,Int.mul_assoc,Int.mul_assoc,Int.mul_left_comm],Sg_add,Sg_mul,Sg_mul,Int.neg_mul] at this
     omega
theorem no_mult {s k:Nat} {Y:Mat} {e:Int} (he:e.natAbs≠1) (H:∀ z:Int->Int,(∀ r:Int,0<=r->r<k->Sg s (λj=>Y r j * z j)=0)->∀ j:Int,0<=j->j<s->e∣z j) :
  ∀ (N:Nat) (z:Int->Int),Sg s (λj=>((z j).natAbs:Int))<N->(∀ r:Int,0<=r->r<k->Sg s (λj=>Y r j * z j)=0)->(∃ j:Int,0<=j/\j<s/\z j≠0)->False:=by
 intro N
 induction N with
 | zero=>
  intro z h _ _
  have:=Sg_nn (n:=s) (f:=λj=>((z j).natAbs:Int)) λi _ _=>by omega
  omega
 | succ N ih=>
  intro z hN hz ⟨j,j1,j2,j3⟩
  have hd:=H z hz
  have e0:e≠0:=λq=>by
   obtain ⟨c,hc⟩:=hd j j1 j2
   rw [q,Int.zero_mul] at hc;exact j3 hc
  have hq:∀ i:Int,0<=i->i<s->z i=e * (z i / e):=λi h1 h2=>by rw [Int.mul_ediv_cancel' (hd i h1 h2)]
  have e2:2<=e.natAbs:=by omega
  have hle:2 * Sg s (λj=>((z j / e).natAbs:Int))<=Sg s λj=>((z j).natAbs:Int):=by
   rw [<- Sg_mul]
   refine Sg_le λi h1 h2=>?_
   have:(z i).natAbs=e.natAbs * (z i / e).natAbs:=by rw [<- Int.natAbs_mul,<-hq i h1 h2]
   have h3:2 * (z i / e).natAbs<=e.natAbs * (z i / e).natAbs:=Nat.mul_le_mul_right _ e2
   omega
  have hj:z j / e≠0:=λq=>j3 (by rw [hq j j1 j2,q,Int.mul_zero])
  have hpos:(1:Int)<=Sg s λj=>((z j / e).natAbs:Int):=by
   have:=Sg_ge j1 (f:=λj=>((z j / e).natAbs:Int)) (n:=s) (λi _ _=>by omega) j2
   have:1<=(z j / e).natAbs:=by omega
   omega
  refine ih (λj=>z j / e) (by omega) (λr h1 h2=>?_) ⟨j,j1,j2,hj⟩
  have h3:=hz r h1 h2
  rw [Sg_congr (g:=λj=>e * (Y r j * (z j / e))) λi h4 h5=>by rw [Int.mul_left_comm,<-hq i h4 h5],Sg_mul] at h3
  exact (Int.mul_eq_zero.1 h3).resolve_left e0
def Fac (R C k:Nat) (d:Int) (A:Mat):Prop:=∃ X Y:Mat,∀ i j:Int,0<=i->i<R->0<=j->j<C->d∣A i j - mm k X Y i j
def Sim (R C:Nat) (A B:Mat):Prop:=∃ P U:Mat,∀ i j:Int,0<=i->i<R->0<=j->j<C->B i j=mm C (mm R P A) U i j
theorem Fac.sim {R C k:Nat} {d:Int} {A B:Mat} (h:Fac R C k d A) (hs:Sim R C A B):Fac R C k d B:=by
 obtain ⟨X,Y,h⟩:=h
 obtain ⟨P,U,hs⟩:=hs
 refine ⟨mm R P X,mm C Y U,λi j h1 h2 h3 h4=>?_⟩
 rw [hs i j h1 h2 h3 h4,<-mm_assoc,mm_assoc (n:=k) (m:=R)]
 have e:mm C (mm R P A) U i j - mm C (mm R P (mm k X Y)) U i j=Sg C λl=>Sg R (λa=>P i a * (A a l - mm k X Y a l)) * U l j:=by
  rw [Sg_congr (n:=C) (g:=λl=>mm R P A i l * U l j+-1 * (mm R P (mm k X Y) i l * U l j)) λl _ _=>by
   rw [Sg_congr (n:=R) (g:=λa=>P i a * A a l+-1 * (P i a * mm k X Y a l)) λa _ _=>by rw [Int.mul_sub];omega,Sg_add,Sg_mul,Int.add_mul]
   show _+-1 * mm R P (mm k X Y) i l * U l j=_
   rw [Int.mul_assoc];rfl,Sg_add,Sg_mul]
  show _ - _=mm C (mm R P A) U i j+-1 * mm C (mm R P (mm k X Y)) U i j
  omega
 rw [e]
 refine Sg_dvd λl h5 h6=>Int.dvd_trans ?_ (Int.dvd_mul_right _ _)
 exact Sg_dvd λa h7 h8=>Int.dvd_trans (h a l h7 h8 h5 h6) (Int.dvd_mul_left _ _)
theorem low {R C s k:Nat} {d m:Int} {D:Mat} (hsR:s<=R) (hsC:s<=C) (hD:∀ i j:Int,0<=i->i<s->0<=j->j<s->i≠j->D i j=0)
  (hm:∀ i:Int,0<=i->i<s->D i i∣m) (hd:¬ d∣m) (h:Fac R C k d D):s<=k:=by
 refine Nat.le_of_not_lt λhks=>?_
 obtain ⟨X,Y,h⟩:=h
 have hg:0<Nat.gcd d.natAbs m.natAbs:=Nat.pos_of_ne_zero λq=>by
  rw [Nat.gcd_eq_zero_iff] at q
  exact hd ⟨0,by omega⟩
 have hdg:=Nat.gcd_dvd_left d.natAbs m.natAbs
 have hmg:=Nat.gcd_dvd_right d.natAbs m.natAbs
 have hco:=Nat.coprime_div_gcd_div_gcd hg
 obtain ⟨a,ha⟩:=hdg
 obtain ⟨b,hb⟩:=hmg
 have ea:d.natAbs / Nat.gcd d.natAbs m.natAbs=a:=Nat.div_eq_of_eq_mul_right hg ha
 have eb:m.natAbs / Nat.gcd d.natAbs m.natAbs=b:=Nat.div_eq_of_eq_mul_right hg hb
 rw [ea,eb] at hco
 have a1:(a:Int).natAbs≠1:=λq=>by
  rw [Int.natAbs_natCast] at q
  rw [q,Nat.mul_one] at ha
  exact hd (Int.natAbs_dvd_natAbs.1 ⟨b,by rw [ha];exact hb⟩)
 obtain ⟨z,z1,_,z3⟩:=kv (s:=s) k (λ_=>true) Y (by rw [cnt_all];exact hks)
 refine no_mult (Y:=Y) a1 (λz hz i h1 h2=>?_) _ z (Int.lt_of_lt_of_le (Int.lt_succ _) (Int.self_le_toNat _)) z3 z1
 have e:Sg s (λj=>(D i j - mm k X Y i j) * z j)=D i i * z i:=by
  rw [Sg_congr (g:=λj=>(if j=i then D i j * z j else 0)+-1 * (mm k X Y i j * z j)) λj h3 h4=>by
   by_cases q:j=i
   ·rw [if_pos q,Int.sub_mul];omega
   ·rw [if_neg q,hD i j h1 h2 h3 h4 (Ne.symm q),Int.sub_mul,Int.zero_mul];omega,Sg_add,Sg_one h1,if_pos h2,Sg_mul]
  have:Sg s (λj=>mm k X Y i j * z j)=0:=by
   rw [Sg_congr (g:=λj=>Sg k λt=>X i t * (Y t j * z j)) λj _ _=>by
    show Sg k (λt=>X i t * Y t j) * z j=_
    rw [<- Sg_mulr];exact Sg_congr λt _ _=>Int.mul_assoc _ _ _,Sg_comm]
   refine Sg_zero λt h3 h4=>?_
   rw [Sg_mul,hz t h3 h4,Int.mul_zero]
  rw [this];omega
 have h3:d∣D i i * z i:=by
  rw [<- e]
  exact Sg_dvd λj h4 h5=>Int.dvd_trans (h i j h1 (by omega) h4 (by omega)) (Int.dvd_mul_right _ _)
 have h4:d∣m * z i:=Int.dvd_trans h3 (Int.mul_dvd_mul (hm i h1 h2) (Int.dvd_refl _))
 have h5:d.natAbs∣m.natAbs * (z i).natAbs:=by rw [<- Int.natAbs_mul];exact Int.natAbs_dvd_natAbs.2 h4
 generalize Nat.gcd d.natAbs m.natAbs=g at ha hb hg
 rw [ha,hb,Nat.mul_assoc] at h5
 have h6:=hco.dvd_of_dvd_mul_left (Nat.dvd_of_mul_dvd_mul_left hg h5)
 exact Int.natAbs_dvd_natAbs.1 (by rw [Int.natAbs_natCast];exact h6)
theorem up {R C s:Nat} {d:Int} {D:Mat} (hD:∀ i j:Int,0<=i->i<R->0<=j->j<C->i≠j->D i j=0) (h:∀ i:Int,s<=i->i<R->i<C->d∣D i i):Fac R C s d D:=by
 refine ⟨D,idM,λi j h1 h2 h3 h4=>?_⟩
 have e:mm s D idM i j=if j<s then D i j else 0:=by
  show Sg s (λl=>D i l * (if l=j then 1 else 0))=_
  rw [Sg_congr (g:=λl=>if l=j then D i l else 0) λl _ _=>by by_cases e:l=j <;> simp [e],Sg_one h3]
 rw [e]
 by_cases c:j<s
 ·rw [if_pos c,Int.sub_self];exact ⟨0,(Int.mul_zero _).symm⟩
 ·rw [if_neg c,Int.sub_zero]
  by_cases q:i=j
  ·subst q;exact h i (by omega) h2 h4
  ·rw [hD i j h1 h2 h3 h4 q];exact ⟨0,(Int.mul_zero _).symm⟩
structure Dia (R C:Nat) (D:Mat):Prop where
 o:∀ i j:Int,0<=i->i<R->0<=j->j<C->i≠j->D i j=0
 n:∀ i:Int,0<=i->i<R->i<C->0<=D i i
 c:∀ i j:Int,0<=i->i<=j->j<R->j<C->D i i∣D j j
theorem Dia.dvd {R C:Nat} {D E:Mat} (hD:Dia R C D) (hE:Dia R C E) (h:Sim R C E D) {i:Int} (h0:0<=i) (hR:i<R) (hC:i<C):E i i∣D i i:=by
 refine Classical.byContradiction λhn=>?_
 obtain ⟨k,rfl⟩:=Int.eq_ofNat_of_zero_le h0
 have f:=(up (s:=k) (d:=E k k) hE.o λj h1 h2 h3=>hE.c k j h0 h1 h2 h3).sim h
 have:=low (s:=k+1) (by omega) (by omega) (λa b h1 h2 h3 h4 h5=>hD.o a b h1 (by omega) h3 (by omega) h5) (λa h1 h2=>hD.c a k h1 (by omega) hR hC) hn f
 omega
theorem Dia.uniq {R C:Nat} {D E:Mat} (hD:Dia R C D) (hE:Dia R C E) (h:Sim R C E D) (h':Sim R C D E) {i:Int} (h0:0<=i) (hR:i<R) (hC:i<C):D i i=E i i:=
 Int.dvd_antisymm (hD.n i h0 hR hC) (hE.n i h0 hR hC) (hE.dvd hD h' h0 hR hC) (hD.dvd hE h h0 hR hC)
end Go.Proofs.Ytokekkacliomkaa.AE
end
section
namespace Go.Proofs.Ytokekkacliomkaa.AE
open Go Go.AE Go.Proofs
def sw (i k a:Int):Int:=if a=i then k else if a=k then i else a
def swR (A:Mat) (i k:Int):Mat:=λa b=>A (sw i k a) b
def swC (A:Mat) (j k:Int):Mat:=λa b=>A a (sw j k b)
def ngR (A:Mat) (k:Int):Mat:=λa b=>if a=k then - A a b else A a b
def ngC (A:Mat) (k:Int):Mat:=λa b=>if b=k then - A a b else A a b
def Bd (R C:Nat) (A:Mat):Prop:=∀ i j:Int,0<=i->i<R->0<=j->j<C->-1000000000000<=A i j/\A i j<=1000000000000
variable {R C F:Nat} {A:Mat} {i j k:Int}
theorem at_mk (hR:R<=1000) (hC:C<=1000) (hi0:0<=i) (hi:i<R) (hj0:0<=j) (hj:j<C):cS.p F C (mk R C A) i j=some (A i j):=by
 unfold cS.p
 simp (disch:=omega) only [gD,hJ,Option.bind_some]
theorem aa1 (hR:R<=1000) (hC:C<=1000) (hi0:0<=i) (hi:i<R) (hk0:0<=k) (hk:k<R):∀ (n f:Nat) (A:Mat) (j:Int),C - j=n->n<f->0<=j ->
  nB.pl7 F f i k C (mk R C A) j=some (mk R C λa b=>if j<=b then A (sw i k a) b else A a b):=by
 intro n
 induction n with
 | zero=>
  intro f A j hn hf hj
  obtain ⟨f,rfl⟩:∃ f',f=f'+1:=⟨f - 1,by omega⟩
  rw [nB.pl7,show decide (j<(C:Int))=false from decide_eq_false (by omega),cond_false]
  congr 1
  apply dC
  intro a b _ _ _ _
  rw [if_neg (by omega)]
 | succ n ih=>
  intro f A j hn hf hj
  obtain ⟨f,rfl⟩:∃ f',f=f'+1:=⟨f - 1,by omega⟩
  rw [nB.pl7,show decide (j<(C:Int))=true from decide_eq_true (by omega),cond_true]
  simp (disch:=omega) only [at_mk,gD,hJ,ll,Option.bind_some,aN]
  rw [ih _ _ _ (by omega) (by omega) (by omega)]
  congr 1
  apply dC
  intro a b _ _ _ _
  unfold upd sw
  grind
theorem KM (hR:R<=1000) (hC:C<=1000) (hF:C<F) (hi0:0<=i) (hi:i<R) (hk0:0<=k) (hk:k<R):nB.p F C (mk R C A) i k=some (mk R C (swR A i k)):=by
 unfold nB.p
 rw [aa1 hR hC hi0 hi hk0 hk C F A 0 (by omega) hF (by omega)]
 apply congrArg some
 apply dC
 intro a b _ _ _ _
 exact if_pos (by omega)
theorem aa2 (hR:R<=1000) (hC:C<=1000) (hi0:0<=i) (hi:i<R) (hk0:0<=k) (hk:k<R):∀ (n f:Nat) (A:Mat) (j:Int),C - j=n->n<f->0<=j ->
  bY.pl7 F f i k C (mk R C A) C j=some (mk R C λa b=>if j<=b then A (sw i k a) b else A a b):=by
 intro n
 induction n with
 | zero=>
  intro f A j hn hf hj
  obtain ⟨f,rfl⟩:∃ f',f=f'+1:=⟨f - 1,by omega⟩
  rw [bY.pl7,show decide (j<(C:Int))=false from decide_eq_false (by omega),cond_false]
  congr 1
  apply dC
  intro a b _ _ _ _
  rw [if_neg (by omega)]
 | succ n ih=>
  intro f A j hn hf hj
  obtain ⟨f,rfl⟩:∃ f',f=f'+1:=⟨f - 1,by omega⟩
  rw [bY.pl7,show decide (j<(C:Int))=true from decide_eq_true (by omega),cond_true]
  simp (disch:=omega) only [at_mk,gD,hJ,ll,Option.bind_some,aN]
  rw [ih _ _ _ (by omega) (by omega) (by omega)]
  congr 1
  apply dC
  intro a b _ _ _ _
  unfold upd sw
  grind
theorem KN (hR:R<=1000) (hC:C<=1000) (hF:C<F) (hi0:0<=i) (hi:i<R) (hk0:0<=k) (hk:k<R):bY.p F C (mk R C A) i k=some (mk R C (swR A i k)):=by
 unfold bY.p
 rw [aa2 hR hC hi0 hi hk0 hk C F A 0 (by omega) hF (by omega)]
 apply congrArg some
 apply dC
 intro a b _ _ _ _
 exact if_pos (by omega)
theorem aa3 (hR:R<=1000) (hC:C<=1000) (hi0:0<=j) (hi:j<C) (hk0:0<=k) (hk:k<C):∀ (n f:Nat) (A:Mat) (i:Int),R - i=n->n<f->0<=i ->
  nD.pl7 F f j k R C (mk R C A) i=some (mk R C λa b=>if i<=a then A a (sw j k b) else A a b):=by
 intro n
 induction n with
 | zero=>
  intro f A j hn hf hj
  obtain ⟨f,rfl⟩:∃ f',f=f'+1:=⟨f - 1,by omega⟩
  rw [nD.pl7,show decide (j<(R:Int))=false from decide_eq_false (by omega),cond_false]
  congr 1
  apply dC
  intro a b _ _ _ _
  rw [if_neg (by omega)]
 | succ n ih=>
  intro f A j hn hf hj
  obtain ⟨f,rfl⟩:∃ f',f=f'+1:=⟨f - 1,by omega⟩
  rw [nD.pl7,show decide (j<(R:Int))=true from decide_eq_true (by omega),cond_true]
  simp (disch:=omega) only [at_mk,gD,hJ,ll,Option.bind_some,aN]
  rw [ih _ _ _ (by omega) (by omega) (by omega)]
  congr 1
  apply dC
  intro a b _ _ _ _
  unfold upd sw
  grind
theorem KO (hR:R<=1000) (hC:C<=1000) (hF:R<F) (hi0:0<=j) (hi:j<C) (hk0:0<=k) (hk:k<C):nD.p F R C (mk R C A) j k=some (mk R C (swC A j k)):=by
 unfold nD.p
 rw [aa3 hR hC hi0 hi hk0 hk R F A 0 (by omega) hF (by omega)]
 apply congrArg some
 apply dC
 intro a b _ _ _ _
 exact if_pos (by omega)
theorem aa4 (hR:R<=1000) (hC:C<=1000) (hi0:0<=j) (hi:j<C) (hk0:0<=k) (hk:k<C):∀ (n f:Nat) (A:Mat) (i:Int),R - i=n->n<f->0<=i ->
  bZ.pl7 F f j k C (mk R C A) R i=some (mk R C λa b=>if i<=a then A a (sw j k b) else A a b):=by
 intro n
 induction n with
 | zero=>
  intro f A j hn hf hj
  obtain ⟨f,rfl⟩:∃ f',f=f'+1:=⟨f - 1,by omega⟩
  rw [bZ.pl7,show decide (j<(R:Int))=false from decide_eq_false (by omega),cond_false]
  congr 1
  apply dC
  intro a b _ _ _ _
  rw [if_neg (by omega)]
 | succ n ih=>
  intro f A j hn hf hj
  obtain ⟨f,rfl⟩:∃ f',f=f'+1:=⟨f - 1,by omega⟩
  rw [bZ.pl7,show decide (j<(R:Int))=true from decide_eq_true (by omega),cond_true]
  simp (disch:=omega) only [at_mk,gD,hJ,ll,Option.bind_some,aN]
  rw [ih _ _ _ (by omega) (by omega) (by omega)]
  congr 1
  apply dC
  intro a b _ _ _ _
  unfold upd sw
  grind
theorem KP (hR:R<=1000) (hC:C<=1000) (hF:R<F) (hi0:0<=j) (hi:j<C) (hk0:0<=k) (hk:k<C):bZ.p F R C (mk R C A) j k=some (mk R C (swC A j k)):=by
 unfold bZ.p
 rw [aa4 hR hC hi0 hi hk0 hk R F A 0 (by omega) hF (by omega)]
 apply congrArg some
 apply dC
 intro a b _ _ _ _
 exact if_pos (by omega)
theorem negr_l (hR:R<=1000) (hC:C<=1000) (hk0:0<=k) (hk:k<R):∀ (n:Nat) (A:Mat) (j:Int),Bd R C A->C - j=n->0<=j ->
  nH (mk R C A) (k * C+j).toNat n=mk R C λa b=>if a=k/\j<=b then - A a b else A a b:=by
 intro n
 induction n with
 | zero=>
  intro A j hb hn hj
  unfold nH
  apply dC
  intro a b _ _ _ _
  rw [if_neg (by omega)]
 | succ n ih=>
  intro A j hb hn hj
  unfold nH
  have h1:0<=k * C:=Int.mul_nonneg hk0 (Int.natCast_nonneg _)
  have hbb:=hb k j hk0 hk hj (by omega)
  simp (disch:=omega) only [gD,hJ,ll]
  rw [aN (by omega) (by omega),show (k * C+j).toNat+1=(k * C+(j+1)).toNat by omega,ih _ (j+1) ?_ (by omega) (by omega)]
  ·apply dC
   intro a b _ _ _ _
   unfold upd
   grind
  ·intro a b h1 h2 h3 h4
   have:=hb a b h1 h2 h3 h4
   unfold upd
   split <;> omega
theorem negr_mk (hR:R<=1000) (hC:C<=1000) (hk0:0<=k) (hk:k<R) (hb:Bd R C A):nH (mk R C A) (k * C).toNat C=mk R C (ngR A k):=by
 have:=negr_l hR hC hk0 hk C A 0 hb (by omega) (by omega)
 rw [Int.add_zero] at this
 rw [this]
 apply dC
 intro a b _ _ _ _
 unfold ngR
 grind
end Go.Proofs.Ytokekkacliomkaa.AE
end
section
namespace Go.Proofs.Ytokekkacliomkaa.AE
open Go Go.AE Go.Proofs
variable {R C F:Nat} {A:Mat} {i j k:Int}
def ab (x:Int):Int:=if x<0 then -x else x
theorem ab_nn (x:Int):0<=ab x:=by unfold ab;split <;> omega
theorem ab_mul (x y:Int):ab (x * y)=ab x * ab y:=by
 have e (z:Int):ab z=(z.natAbs:Int):=by unfold ab;split <;> omega
 rw [e,e,e,Int.natAbs_mul,Int.natCast_mul]
theorem pm {x:Int} (h0:-4000000000000000000<=x) (h1:x<=4000000000000000000):eS.p F x=some (ab x):=by
 unfold eS.p ab
 rw [aN (by omega) (by omega)]
 congr 1
 split <;> split <;> omega
theorem oe {x:Int} (h0:-4000000000000000000<=x) (h1:x<=4000000000000000000):cP.p F x=some (ab x):=by
 unfold cP.p ab
 by_cases h:x<0
 ·rw [decide_eq_true h,cond_true,aN (by omega) (by omega),if_pos h,Int.zero_sub]
 ·rw [decide_eq_false h,cond_false,if_neg h]
theorem gt_div {u v m:Int} (hu:0<u) (hm:0<=m):v>Int.tdiv m u↔u * v>m:=by
 rw [Int.tdiv_eq_ediv_of_nonneg hm]
 rw [gt_iff_lt,Int.ediv_lt_iff_lt_mul hu,Int.mul_comm]
def okm (x y:Int):Prop:=ab (x * y)<=2000000000000
instance (x y:Int):Decidable (okm x y):=by unfold okm;infer_instance
theorem ab_bd {x m:Int} (h:ab x<=m):-m<=x/\x<=m:=by unfold ab at h;split at h <;> omega
theorem tdiv_bd {m u:Int} (hm:0<=m) (hu:0<=u):0<=Int.tdiv m u/\Int.tdiv m u<=m:=by
 rw [Int.tdiv_eq_ediv_of_nonneg hm]
 exact ⟨Int.ediv_nonneg hm hu,Int.ediv_le_self _ hm⟩
theorem aa5 {x y:Int} (hx:ab x<=4000000000000) (hy:ab y<=4000000000000):fa.p F x y 2000000000000=some (if okm x y then (x * y,true) else (0,false)):=by
 have bx:=ab_bd hx
 have by_:=ab_bd hy
 have n1:=ab_nn x
 unfold fa.p
 by_cases h:x=0
 ·subst h
  have:okm 0 y:=by unfold okm ab;rw [Int.zero_mul];decide
  rw [if_pos this,show ((0:Int) != 0)=false from rfl,cond_false,Int.zero_mul,aN (by omega) (by omega)]
 ·rw [show (x != 0)=true from bne_iff_ne.2 h,cond_true,pm (by omega) (by omega),Option.bind_some,pm (by omega) (by omega),Option.bind_some]
  have hp:0<ab x:=by unfold ab;split <;> omega
  have bd:=tdiv_bd (m:=2000000000000) (u:=ab x) (by omega) (by omega)
  rw [if_neg (by omega),aN (by omega) (by omega)]
  have key:ab y>Int.tdiv 2000000000000 (ab x)↔¬ okm x y:=by
   rw [gt_div hp (by omega),okm,ab_mul];omega
  by_cases ho:okm x y
  ·rw [decide_eq_false (λh=>(key.1 h) ho),cond_false,if_pos ho]
   have:=ab_bd ho
   rw [aN (by omega) (by omega)]
  ·rw [decide_eq_true (key.2 ho),cond_true,if_neg ho]
theorem RS {x y:Int} (hx:ab x<=4000000000000) (hy:ab y<=4000000000000):eM.p F x y 2000000000000=some (if okm x y then (x * y,true) else (0,false)):=by
 have bx:=ab_bd hx
 have by_:=ab_bd hy
 have n1:=ab_nn x
 unfold eM.p
 by_cases h:x=0
 ·subst h
  have:okm 0 y:=by unfold okm ab;rw [Int.zero_mul];decide
  rw [if_pos this,show ((0:Int) != 0)=false from rfl,cond_false,Int.zero_mul,aN (by omega) (by omega)]
 ·rw [show (x != 0)=true from bne_iff_ne.2 h,cond_true,oe (by omega) (by omega),Option.bind_some,oe (by omega) (by omega),Option.bind_some]
  have hp:0<ab x:=by unfold ab;split <;> omega
  have bd:=tdiv_bd (m:=2000000000000) (u:=ab x) (by omega) (by omega)
  rw [if_neg (by omega),aN (by omega) (by omega)]
  have key:ab y>Int.tdiv 2000000000000 (ab x)↔¬ okm x y:=by
   rw [gt_div hp (by omega),okm,ab_mul];omega
  by_cases ho:okm x y
  ·rw [decide_eq_false (λh=>(key.1 h) ho),cond_false,if_pos ho]
   have:=ab_bd ho
   rw [aN (by omega) (by omega)]
  ·rw [decide_eq_true (key.2 ho),cond_true,if_neg ho]
theorem floor_core {a b:Int} (hb:0<b):(Int.tmod a b<0->a / b=Int.tdiv a b - 1)/\(¬ Int.tmod a b<0->a / b=Int.tdiv a b):=by
 have e:=Int.mul_tdiv_add_tmod a b
 have hlt:Int.tmod a b<b:=Int.tmod_lt_of_pos a hb
 have hgt:-b<Int.tmod a b:=by
  have:=Int.neg_one_mul b
  have h:=Int.lt_tmod_of_pos a hb
  omega
 constructor
 ·intro h
  have:a=(Int.tmod a b+b)+b * (Int.tdiv a b - 1):=by rw [Int.mul_sub,Int.mul_one];omega
  conv=>lhs;rw [this]
  rw [Int.add_mul_ediv_left _ _ (by omega),Int.ediv_eq_zero_of_lt (by omega) (by omega),Int.zero_add]
 ·intro h
  have:a=(Int.tmod a b)+b * (Int.tdiv a b):=by omega
  conv=>lhs;rw [this]
  rw [Int.add_mul_ediv_left _ _ (by omega),Int.ediv_eq_zero_of_lt (by omega) (by omega),Int.zero_add]
theorem quo_bd {a b:Int} (hb:0<b) (ha:ab a<=1000000000000):ab (a / b)<=1000000000000/\ab (Int.tdiv a b)<=1000000000000:=by
 have h:=ab_bd ha
 have h1:a / b<=1000000000000:=by
  by_cases h0:0<=a
  ·have:=Int.ediv_le_self b h0;omega
  ·have:=Int.ediv_neg_of_neg_of_pos (by omega:a<0) hb;omega
 have h2:-1000000000000<=a / b:=by
  rw [Int.le_ediv_iff_mul_le hb]
  have:1000000000000 * 1<=1000000000000 * b:=Int.mul_le_mul_of_nonneg_left (by omega) (by omega)
  rw [Int.neg_mul];omega
 have h3:a / b<=Int.tdiv a b/\Int.tdiv a b<=a / b+1:=by
  by_cases hh:Int.tmod a b<0
  ·have:=(floor_core (a:=a) hb).1 hh;omega
  ·have:=(floor_core (a:=a) hb).2 hh;omega
 have h4:Int.tdiv a b<=1000000000000:=by
  by_cases h0:0<=a
  ·rw [Int.tdiv_eq_ediv_of_nonneg h0];exact h1
  ·have:=Int.ediv_neg_of_neg_of_pos (by omega:a<0) hb;omega
 unfold ab
 constructor <;> split <;> omega
theorem RT {a b:Int} (hb:0<b) (ha:ab a<=1000000000000):DK.p F a b=some (a / b):=by
 unfold DK.p
 obtain ⟨h1,h2⟩:=quo_bd hb ha
 have h1:=ab_bd h1
 have h2:=ab_bd h2
 rw [if_neg (by omega),if_neg (by omega),aN (x:=Int.tdiv a b) (by omega) (by omega)]
 by_cases h:Int.tmod a b<0
 ·have e:=(floor_core (a:=a) hb).1 h
  rw [decide_eq_true h,cond_true,aN (x:=Int.tdiv a b - 1) (by omega) (by omega),e]
 ·rw [decide_eq_false h,cond_false,(floor_core (a:=a) hb).2 h]
theorem RU {a b:Int} (hb:0<b) (ha:ab a<=1000000000000):gC.p F a b=some (a / b):=by
 unfold gC.p
 obtain ⟨h1,h2⟩:=quo_bd hb ha
 have h1:=ab_bd h1
 have h2:=ab_bd h2
 rw [if_neg (by omega),if_neg (by omega),aN (x:=Int.tdiv a b) (by omega) (by omega)]
 by_cases h:Int.tmod a b<0
 ·have e:=(floor_core (a:=a) hb).1 h
  rw [decide_eq_true h,cond_true,aN (x:=Int.tdiv a b - 1) (by omega) (by omega),e]
 ·rw [decide_eq_false h,cond_false,(floor_core (a:=a) hb).2 h]
def fit (x y b:Int):Prop:=okm y b/\ab (x+y * b)<=1000000000000
instance (x y b:Int):Decidable (fit x y b):=by unfold fit;infer_instance
def ad (x y b:Int):Int:=if fit x y b then x+y * b else 0
theorem ad_bd (x y b:Int):ab (ad x y b)<=1000000000000:=by
 unfold ad
 split
 ·rename_i h;exact h.2
 ·decide
theorem ad_fit {x y b:Int} (h:fit x y b):ad x y b=x+y * b:=if_pos h
def adRf (A:Mat) (t f b j0:Int):Mat:=λi j=>if i=t/\j0<=j then ad (A t j) (A f j) b else A i j
def adCf (A:Mat) (t f b i0:Int):Mat:=λi j=>if j=t/\i0<=i then ad (A i t) (A i f) b else A i j
def adR (A:Mat) (t f b:Int):Mat:=λi j=>if i=t then ad (A t j) (A f j) b else A i j
def adC (A:Mat) (t f b:Int):Mat:=λi j=>if j=t then ad (A i t) (A i f) b else A i j
theorem Bd.ab {i j:Int} (h:Bd R C A) (hi0:0<=i) (hi:i<R) (hj0:0<=j) (hj:j<C):ab (A i j)<=1000000000000:=by
 have:=h i j hi0 hi hj0 hj
 unfold AE.ab;split <;> omega
theorem Bd.upd {i j x:Int} (h:Bd R C A) (hx:AE.ab x<=1000000000000):Bd R C (upd A i j x):=by
 intro a b h1 h2 h3 h4
 have:=h a b h1 h2 h3 h4
 have:=ab_bd hx
 unfold Go.AE.upd
 split <;> omega
theorem aa6 {t f q:Int} (hR:R<=1000) (hC:C<=1000) (ht0:0<=t) (ht:t<R) (hf0:0<=f) (hf:f<R) (htf:t≠f) (hq:ab q<=4000000000000):∀ (n g:Nat) (A:Mat) (bad:Bool) (j:Int),Bd R C A->C - j=n->n<g->0<=j ->
  ∃ bad',bV.pl7 F g bad t f q C (mk R C A) C j=some (bad',mk R C (adRf A t f q j))/\(bad'=true↔bad=true\/∃ b,j<=b/\b<C/\¬ fit (A t b) (A f b) q):=by
 intro n
 induction n with
 | zero=>
  intro g A bad j hb hn hg hj
  obtain ⟨g,rfl⟩:∃ g',g=g'+1:=⟨g - 1,by omega⟩
  rw [bV.pl7,show decide (j<(C:Int))=false from decide_eq_false (by omega),cond_false]
  refine ⟨bad,?_,⟨λh=>.inl h,λh=>?_⟩⟩
  ·congr 2
   apply dC
   intro a b _ _ _ _
   exact (if_neg (by omega)).symm
  ·rcases h with h | ⟨b,h1,h2,_⟩
   ·exact h
   ·omega
 | succ n ih=>
  intro g A bad j hb hn hg hj
  obtain ⟨g,rfl⟩:∃ g',g=g'+1:=⟨g - 1,by omega⟩
  rw [bV.pl7,show decide (j<(C:Int))=true from decide_eq_true (by omega),cond_true]
  have b1:=hb.ab hf0 hf hj (by omega)
  have b2:=hb.ab ht0 ht hj (by omega)
  have b3:=ab_bd b2
  simp (disch:=omega) only [gD,hJ,ll,Option.bind_some,aN]
  rw [RS (by omega) hq,Option.bind_some]
  have step:∀ bad1:Bool,(bad1=true↔bad=true\/¬ fit (A t j) (A f j) q)->∃ bad',bV.pl7 F g bad1 t f q C (mk R C (upd A t j (ad (A t j) (A f j) q))) C (j+1)=some (bad',mk R C (adRf A t f q j))/\(bad'=true↔bad=true\/∃ b,j<=b/\b<C/\¬ fit (A t b) (A f b) q):=by
   intro bad1 hbad
   obtain ⟨bad',e,he⟩:=ih g (upd A t j (ad (A t j) (A f j) q)) bad1 (j+1) (hb.upd (ad_bd _ _ _)) (by omega) (by omega) (by omega)
   refine ⟨bad',?_,?_⟩
   ·rw [e]
    congr 2
    apply dC
    intro a b _ _ _ _
    unfold adRf upd
    grind
   ·rw [he,hbad]
    constructor
    ·rintro ((h | h) | ⟨b,h1,h2,h3⟩)
     ·exact .inl h
     ·exact .inr ⟨j,by omega,by omega,h⟩
     ·rw [jD _ _ (by omega),jD _ _ (by omega)] at h3
      exact .inr ⟨b,by omega,h2,h3⟩
    ·rintro (h | ⟨b,h1,h2,h3⟩)
     ·exact .inl (.inl h)
     ·by_cases e:b=j
      ·subst e;exact .inl (.inr h3)
      ·exact .inr ⟨b,by omega,h2,by rw [jD _ _ (by omega),jD _ _ (by omega)];exact h3⟩
  by_cases ho:okm (A f j) q
  ·have h4:=ab_bd ho
   simp only [if_pos ho,Bool.not_true,cond_false]
   simp (disch:=omega) only [hJ,Ev,aN,Option.bind_some]
   rw [oe (by omega) (by omega),Option.bind_some]
   by_cases hs:ab (A t j+A f j * q)<=1000000000000
   ·rw [decide_eq_false (by omega),cond_false]
    have hfit:fit (A t j) (A f j) q:=⟨ho,hs⟩
    rw [<- ad_fit hfit]
    exact step bad ⟨λh=>.inl h,λh=>h.elim id λh=>absurd hfit h⟩
   ·rw [decide_eq_true (by omega),cond_true]
    have hfit:¬ fit (A t j) (A f j) q:=λh=>hs h.2
    have e0:upd (upd A t j (A t j+A f j * q)) t j 0=upd A t j (ad (A t j) (A f j) q):=by
     funext a b;unfold upd ad;rw [if_neg hfit];split <;> rfl
    rw [e0]
    exact step true ⟨λ_=>.inr hfit,λ_=>rfl⟩
  ·simp only [if_neg ho,Bool.not_false,cond_true,Option.bind_some]
   have hfit:¬ fit (A t j) (A f j) q:=λh=>ho h.1
   have e0:∀ z,upd (upd A t j z) t j 0=upd A t j (ad (A t j) (A f j) q):=by
    intro z;funext a b;unfold upd ad;rw [if_neg hfit];split <;> rfl
   rw [e0]
   exact step true ⟨λ_=>.inr hfit,λ_=>rfl⟩
theorem aa7 {t f q:Int} (hR:R<=1000) (hC:C<=1000) (ht0:0<=t) (ht:t<C) (hf0:0<=f) (hf:f<C) (htf:t≠f) (hq:ab q<=4000000000000):∀ (n g:Nat) (A:Mat) (bad:Bool) (j:Int),Bd R C A->R - j=n->n<g->0<=j ->
  ∃ bad',bW.pl7 F g bad t f q C (mk R C A) R j=some (bad',mk R C (adCf A t f q j))/\(bad'=true↔bad=true\/∃ b,j<=b/\b<R/\¬ fit (A b t) (A b f) q):=by
 intro n
 induction n with
 | zero=>
  intro g A bad j hb hn hg hj
  obtain ⟨g,rfl⟩:∃ g',g=g'+1:=⟨g - 1,by omega⟩
  rw [bW.pl7,show decide (j<(R:Int))=false from decide_eq_false (by omega),cond_false]
  refine ⟨bad,?_,⟨λh=>.inl h,λh=>?_⟩⟩
  ·congr 2
   apply dC
   intro a b _ _ _ _
   exact (if_neg (by omega)).symm
  ·rcases h with h | ⟨b,h1,h2,_⟩
   ·exact h
   ·omega
 | succ n ih=>
  intro g A bad j hb hn hg hj
  obtain ⟨g,rfl⟩:∃ g',g=g'+1:=⟨g - 1,by omega⟩
  rw [bW.pl7,show decide (j<(R:Int))=true from decide_eq_true (by omega),cond_true]
  have b1:=hb.ab hj (by omega) hf0 hf
  have b2:=hb.ab hj (by omega) ht0 ht
  have b3:=ab_bd b2
  simp (disch:=omega) only [gD,hJ,ll,Option.bind_some,aN]
  rw [RS (by omega) hq,Option.bind_some]
  have step:∀ bad1:Bool,(bad1=true↔bad=true\/¬ fit (A j t) (A j f) q)->∃ bad',bW.pl7 F g bad1 t f q C (mk R C (upd A j t (ad (A j t) (A j f) q))) R (j+1)=some (bad',mk R C (adCf A t f q j))/\(bad'=true↔bad=true\/∃ b,j<=b/\b<R/\¬ fit (A b t) (A b f) q):=by
   intro bad1 hbad
   obtain ⟨bad',e,he⟩:=ih g (upd A j t (ad (A j t) (A j f) q)) bad1 (j+1) (hb.upd (ad_bd _ _ _)) (by omega) (by omega) (by omega)
   refine ⟨bad',?_,?_⟩
   ·rw [e]
    congr 2
    apply dC
    intro a b _ _ _ _
    unfold adCf upd
    grind
   ·rw [he,hbad]
    constructor
    ·rintro ((h | h) | ⟨b,h1,h2,h3⟩)
     ·exact .inl h
     ·exact .inr ⟨j,by omega,by omega,h⟩
     ·rw [jD _ _ (by omega),jD _ _ (by omega)] at h3
      exact .inr ⟨b,by omega,h2,h3⟩
    ·rintro (h | ⟨b,h1,h2,h3⟩)
     ·exact .inl (.inl h)
     ·by_cases e:b=j
      ·subst e;exact .inl (.inr h3)
      ·exact .inr ⟨b,by omega,h2,by rw [jD _ _ (by omega),jD _ _ (by omega)];exact h3⟩
  by_cases ho:okm (A j f) q
  ·have h4:=ab_bd ho
   simp only [if_pos ho,Bool.not_true,cond_false]
   simp (disch:=omega) only [hJ,Ev,aN,Option.bind_some]
   rw [oe (by omega) (by omega),Option.bind_some]
   by_cases hs:ab (A j t+A j f * q)<=1000000000000
   ·rw [decide_eq_false (by omega),cond_false]
    have hfit:fit (A j t) (A j f) q:=⟨ho,hs⟩
    rw [<- ad_fit hfit]
    exact step bad ⟨λh=>.inl h,λh=>h.elim id λh=>absurd hfit h⟩
   ·rw [decide_eq_true (by omega),cond_true]
    have hfit:¬ fit (A j t) (A j f) q:=λh=>hs h.2
    have e0:upd (upd A j t (A j t+A j f * q)) j t 0=upd A j t (ad (A j t) (A j f) q):=by
     funext a b;unfold upd ad;rw [if_neg hfit];split <;> rfl
    rw [e0]
    exact step true ⟨λ_=>.inr hfit,λ_=>rfl⟩
  ·simp only [if_neg ho,Bool.not_false,cond_true,Option.bind_some]
   have hfit:¬ fit (A j t) (A j f) q:=λh=>ho h.1
   have e0:∀ z,upd (upd A j t z) j t 0=upd A j t (ad (A j t) (A j f) q):=by
    intro z;funext a b;unfold upd ad;rw [if_neg hfit];split <;> rfl
   rw [e0]
   exact step true ⟨λ_=>.inr hfit,λ_=>rfl⟩
def nfR (C:Nat) (A:Mat) (t f q:Int):Prop:=∃ b:Int,0<=b/\b<C/\¬ fit (A t b) (A f b) q
def nfC (R:Nat) (A:Mat) (t f q:Int):Prop:=∃ b:Int,0<=b/\b<R/\¬ fit (A b t) (A b f) q
theorem KQ {t f q:Int} {bad:Bool} (hR:R<=1000) (hC:C<=1000) (hF:C<F) (hb:Bd R C A) (ht0:0<=t) (ht:t<R) (hf0:0<=f) (hf:f<R) (htf:t≠f) (hq:ab q<=4000000000000) :
  ∃ bad',bV.p F bad C (mk R C A) t f q=some (bad',mk R C (adR A t f q))/\(bad'=true↔bad=true\/nfR C A t f q):=by
 obtain ⟨bad',e,h⟩:=aa6 hR hC ht0 ht hf0 hf htf hq C F A bad 0 hb (by omega) hF (by omega)
 refine ⟨bad',?_,h⟩
 unfold bV.p
 rw [e]
 congr 2
 apply dC
 intro a b _ _ _ _
 unfold adRf adR
 grind
theorem KR {t f q:Int} {bad:Bool} (hR:R<=1000) (hC:C<=1000) (hF:R<F) (hb:Bd R C A) (ht0:0<=t) (ht:t<C) (hf0:0<=f) (hf:f<C) (htf:t≠f) (hq:ab q<=4000000000000) :
  ∃ bad',bW.p F bad R C (mk R C A) t f q=some (bad',mk R C (adC A t f q))/\(bad'=true↔bad=true\/nfC R A t f q):=by
 obtain ⟨bad',e,h⟩:=aa7 hR hC ht0 ht hf0 hf htf hq R F A bad 0 hb (by omega) hF (by omega)
 refine ⟨bad',?_,h⟩
 unfold bW.p
 rw [e]
 congr 2
 apply dC
 intro a b _ _ _ _
 unfold adCf adC
 grind
theorem Bd.adR {t f q:Int} (h:Bd R C A):Bd R C (adR A t f q):=by
 intro a b h1 h2 h3 h4
 have:=h a b h1 h2 h3 h4
 have:=ab_bd (ad_bd (A t b) (A f b) q)
 unfold AE.adR
 split <;> omega
theorem Bd.adC {t f q:Int} (h:Bd R C A):Bd R C (adC A t f q):=by
 intro a b h1 h2 h3 h4
 have:=h a b h1 h2 h3 h4
 have:=ab_bd (ad_bd (A a t) (A a f) q)
 unfold AE.adC
 split <;> omega
end Go.Proofs.Ytokekkacliomkaa.AE
end
section
namespace Go.Proofs.Ytokekkacliomkaa.AE
open Go Go.AE Go.Proofs
variable {R C F:Nat} {A:Mat} {i j k:Int}
theorem RV {x y q:Int} (hx:ab x<=1000000000000) (hy:ab y<=1000000000000) (hq:ab q<=4000000000000):∃ z,DL.p F x q y=some z/\ab z<=4000000000000/\(ab z<=1000000000000↔fit x y (-q))/\(fit x y (-q)->z=ad x y (-q)):=by
 unfold DL.p
 rw [aa5 hq (by omega),Option.bind_some]
 have e1:y * -q=- (q * y):=by rw [Int.mul_neg,Int.mul_comm]
 have ho:okm y (-q)↔okm q y:=by
  unfold okm;rw [e1];unfold ab;split <;> split <;> omega
 have bx:=ab_bd hx
 by_cases h:okm q y
 ·have hb:=ab_bd h
  rw [if_pos h,Bool.not_true,cond_false]
  simp only []
  rw [aN (by omega) (by omega)]
  have e2:x+y * -q=x - q * y:=by omega
  refine ⟨_,rfl,?_,?_,?_⟩
  ·unfold ab;split <;> omega
  ·unfold fit;rw [e2]
   exact ⟨λh1=>⟨ho.2 h,h1⟩,λh1=>h1.2⟩
  ·intro hf
   rw [ad_fit hf,e2]
 ·rw [if_neg h,Bool.not_false,cond_true]
  refine ⟨_,rfl,by decide,⟨λh=>absurd h (by decide),λhf=>absurd (ho.1 hf.1) h⟩,λhf=>absurd (ho.1 hf.1) h⟩
theorem RW {z:Int} {bad:Bool} (hR:R<=1000) (hC:C<=1000) (hi0:0<=i) (hi:i<R) (hj0:0<=j) (hj:j<C) (hz:ab z<=4000000000000) :
  DM.p F bad C (mk R C A) i j z=some (if ab z<=1000000000000 then (bad,mk R C (upd A i j z)) else (true,mk R C A)):=by
 have hb:=ab_bd hz
 unfold DM.p
 rw [pm (by omega) (by omega),Option.bind_some]
 by_cases h:ab z<=1000000000000
 ·rw [decide_eq_false (by omega),cond_false,if_pos h]
  simp (disch:=omega) only [gD,ll,Option.bind_some]
 ·rw [decide_eq_true (by omega),cond_true,if_neg h]
theorem aa8 {t f q:Int} (hR:R<=1000) (hC:C<=1000) (ht0:0<=t) (ht:t<R) (hf0:0<=f) (hf:f<R) (htf:t≠f) (hq:ab q<=4000000000000):∀ (n g:Nat) (A:Mat) (j:Int),Bd R C A->C - j=n->n<g->0<=j ->
  ∃ bad' l',lg.pl7 F g false t f q C (mk R C A) j=some (bad',l')/\(bad'=true↔∃ b,j<=b/\b<C/\¬ fit (A t b) (A f b) (-q))/\(bad'=false->l'=mk R C (adRf A t f (-q) j)):=by
 intro n
 induction n with
 | zero=>
  intro g A j hb hn hg hj
  obtain ⟨g,rfl⟩:∃ g',g=g'+1:=⟨g - 1,by omega⟩
  rw [lg.pl7,show decide (j<(C:Int))=false from decide_eq_false (by omega),cond_false]
  refine ⟨_,_,rfl,⟨λh=>(by cases h),λ⟨b,h1,h2,_⟩=>by omega⟩,λ_=>?_⟩
  apply dC
  intro a b _ _ _ _
  exact (if_neg (by omega)).symm
 | succ n ih=>
  intro g A j hb hn hg hj
  obtain ⟨g,rfl⟩:∃ g',g=g'+1:=⟨g - 1,by omega⟩
  rw [lg.pl7,show decide (j<(C:Int))=true from decide_eq_true (by omega),cond_true,Bool.not_false,cond_true]
  have b1:=hb.ab hf0 hf hj (by omega)
  have b2:=hb.ab ht0 ht hj (by omega)
  simp (disch:=omega) only [at_mk,Option.bind_some]
  obtain ⟨z,ez,hz1,hz2,hz3⟩:=RV (F:=F) b2 b1 hq
  rw [ez,Option.bind_some,RW hR hC ht0 ht hj (by omega) hz1,Option.bind_some,aN (by omega) (by omega)]
  by_cases hfit:fit (A t j) (A f j) (-q)
  ·rw [if_pos (hz2.2 hfit),hz3 hfit]
   obtain ⟨bad',l',e,he,hl⟩:=ih g (upd A t j (ad (A t j) (A f j) (-q))) (j+1) (hb.upd (ad_bd _ _ _)) (by omega) (by omega) (by omega)
   refine ⟨bad',l',e,?_,?_⟩
   ·rw [he]
    constructor
    ·rintro ⟨b,h1,h2,h3⟩
     rw [jD _ _ (by omega),jD _ _ (by omega)] at h3
     exact ⟨b,by omega,h2,h3⟩
    ·rintro ⟨b,h1,h2,h3⟩
     by_cases e:b=j
     ·subst e;exact absurd hfit h3
     ·exact ⟨b,by omega,h2,by rw [jD _ _ (by omega),jD _ _ (by omega)];exact h3⟩
   ·intro hbad
    rw [hl hbad]
    apply dC
    intro a b _ _ _ _
    unfold adRf upd
    grind
  ·rw [if_neg (λh=>hfit (hz2.1 h))]
   obtain ⟨g,rfl⟩:∃ g',g=g'+1:=⟨g - 1,by omega⟩
   refine ⟨true,mk R C A,?_,⟨λ_=>⟨j,by omega,by omega,hfit⟩,λ_=>rfl⟩,λh=>by cases h⟩
   rw [lg.pl7]
   cases decide (j+1<(C:Int)) <;> rfl
theorem aa9 {t f q:Int} (hR:R<=1000) (hC:C<=1000) (ht0:0<=t) (ht:t<C) (hf0:0<=f) (hf:f<C) (htf:t≠f) (hq:ab q<=4000000000000):∀ (n g:Nat) (A:Mat) (j:Int),Bd R C A->R - j=n->n<g->0<=j ->
  ∃ bad' l',li.pl7 F g false t f q R C (mk R C A) j=some (bad',l')/\(bad'=true↔∃ b,j<=b/\b<R/\¬ fit (A b t) (A b f) (-q))/\(bad'=false->l'=mk R C (adCf A t f (-q) j)):=by
 intro n
 induction n with
 | zero=>
  intro g A j hb hn hg hj
  obtain ⟨g,rfl⟩:∃ g',g=g'+1:=⟨g - 1,by omega⟩
  rw [li.pl7,show decide (j<(R:Int))=false from decide_eq_false (by omega),cond_false]
  refine ⟨_,_,rfl,⟨λh=>(by cases h),λ⟨b,h1,h2,_⟩=>by omega⟩,λ_=>?_⟩
  apply dC
  intro a b _ _ _ _
  exact (if_neg (by omega)).symm
 | succ n ih=>
  intro g A j hb hn hg hj
  obtain ⟨g,rfl⟩:∃ g',g=g'+1:=⟨g - 1,by omega⟩
  rw [li.pl7,show decide (j<(R:Int))=true from decide_eq_true (by omega),cond_true,Bool.not_false,cond_true]
  have b1:=hb.ab hj (by omega) hf0 hf
  have b2:=hb.ab hj (by omega) ht0 ht
  simp (disch:=omega) only [at_mk,Option.bind_some]
  obtain ⟨z,ez,hz1,hz2,hz3⟩:=RV (F:=F) b2 b1 hq
  rw [ez,Option.bind_some,RW hR hC hj (by omega) ht0 ht hz1,Option.bind_some,aN (by omega) (by omega)]
  by_cases hfit:fit (A j t) (A j f) (-q)
  ·rw [if_pos (hz2.2 hfit),hz3 hfit]
   obtain ⟨bad',l',e,he,hl⟩:=ih g (upd A j t (ad (A j t) (A j f) (-q))) (j+1) (hb.upd (ad_bd _ _ _)) (by omega) (by omega) (by omega)
   refine ⟨bad',l',e,?_,?_⟩
   ·rw [he]
    constructor
    ·rintro ⟨b,h1,h2,h3⟩
     rw [jD _ _ (by omega),jD _ _ (by omega)] at h3
     exact ⟨b,by omega,h2,h3⟩
    ·rintro ⟨b,h1,h2,h3⟩
     by_cases e:b=j
     ·subst e;exact absurd hfit h3
     ·exact ⟨b,by omega,h2,by rw [jD _ _ (by omega),jD _ _ (by omega)];exact h3⟩
   ·intro hbad
    rw [hl hbad]
    apply dC
    intro a b _ _ _ _
    unfold adCf upd
    grind
  ·rw [if_neg (λh=>hfit (hz2.1 h))]
   obtain ⟨g,rfl⟩:∃ g',g=g'+1:=⟨g - 1,by omega⟩
   refine ⟨true,mk R C A,?_,⟨λ_=>⟨j,by omega,by omega,hfit⟩,λ_=>rfl⟩,λh=>by cases h⟩
   rw [li.pl7]
   cases decide (j+1<(R:Int)) <;> rfl
theorem KS {t f q:Int} (hR:R<=1000) (hC:C<=1000) (hF:C<F) (hb:Bd R C A) (ht0:0<=t) (ht:t<R) (hf0:0<=f) (hf:f<R) (htf:t≠f) (hq:ab q<=4000000000000) :
  ∃ bad' l',lg.p F false C (mk R C A) t f q=some (bad',l')/\(bad'=true↔nfR C A t f (-q))/\(bad'=false->l'=mk R C (adR A t f (-q))):=by
 obtain ⟨bad',l',e,h,hl⟩:=aa8 hR hC ht0 ht hf0 hf htf hq C F A 0 hb (by omega) hF (by omega)
 refine ⟨bad',l',e,h,λhh=>?_⟩
 rw [hl hh]
 apply dC
 intro a b _ _ _ _
 unfold adRf adR
 grind
theorem KT {t f q:Int} (hR:R<=1000) (hC:C<=1000) (hF:R<F) (hb:Bd R C A) (ht0:0<=t) (ht:t<C) (hf0:0<=f) (hf:f<C) (htf:t≠f) (hq:ab q<=4000000000000) :
  ∃ bad' l',li.p F false R C (mk R C A) t f q=some (bad',l')/\(bad'=true↔nfC R A t f (-q))/\(bad'=false->l'=mk R C (adC A t f (-q))):=by
 obtain ⟨bad',l',e,h,hl⟩:=aa9 hR hC ht0 ht hf0 hf htf hq R F A 0 hb (by omega) hF (by omega)
 refine ⟨bad',l',e,h,λhh=>?_⟩
 rw [hl hh]
 apply dC
 intro a b _ _ _ _
 unfold adCf adC
 grind
theorem KU {t f q:Int} {c:Int} {l:List Int} (hF:0<F):lg.p F true c l t f q=some (true,l):=by
 obtain ⟨g,rfl⟩:∃ g',F=g'+1:=⟨F - 1,by omega⟩
 unfold lg.p
 rw [lg.pl7]
 cases decide (0<c) <;> rfl
theorem KV {t f q:Int} {r c:Int} {l:List Int} (hF:0<F):li.p F true r c l t f q=some (true,l):=by
 obtain ⟨g,rfl⟩:∃ g',F=g'+1:=⟨F - 1,by omega⟩
 unfold li.p
 rw [li.pl7]
 cases decide (0<r) <;> rfl
end Go.Proofs.Ytokekkacliomkaa.AE
end
section
namespace Go.Proofs.Ytokekkacliomkaa.AE
open Go Go.AE Go.Proofs
variable {R C F:Nat} {A:Mat} {i j k:Int}
def Sc (k:Int) (C:Nat) (i j a b:Int):Prop:=k<=a/\k<=b/\b<C/\(a<i\/a=i/\b<j)
def SI (k:Int) (C:Nat) (A:Mat) (i j:Int):Option (Int×Int)->Prop
 | none=>∀ a b,Sc k C i j a b->A a b=0
 | some (p,q)=>Sc k C i j p q/\A p q≠0/\∀ a b,Sc k C i j a b->A a b≠0->ab (A p q)<=ab (A a b)/\((a<p\/a=p/\b<q)->ab (A p q)<ab (A a b))
def sP:Option (Int×Int)->Int | none=>-1 | some (p,_)=>p
def sQ:Option (Int×Int)->Int | none=>-1 | some (_,q)=>q
def iP:Option (Int×Int)->Int | none=>0 | some (p,_)=>p
def iQ:Option (Int×Int)->Int | none=>0 | some (_,q)=>q
theorem ab_pos {x:Int}:ab x>0↔x≠0:=by unfold ab;split <;> omega
theorem sel_in {k:Int} (hR:R<=1000) (hC:C<=1000) (hb:Bd R C A) (hk:0<=k) (hi:i<R) (hki:k<=i) {l1 l2 l3 l4:List Int} {c1 c2 c3 c4 c5 c6:Int} {pC} {pD}:∀ (n g h:Nat) (s:Option (Int×Int)) (j:Int),C - j=n->n<g->n<h->k<=j->SI k C A i j s ->
  ∃ s',SI k C A i C s'/\cR.pl469 F pC g R C (mk R C A) c1 l1 c2 c3 l2 c4 c5 l3 c6 l4 k (sP s) (sQ s) i j=cR.pj9 F pC R C (mk R C A) c1 l1 c2 c3 l2 c4 c5 l3 c6 l4 k (sP s') (sQ s') i /\
   aG.pl469 F pD h k (iP s) (iQ s) s.isSome R C (mk R C A) i j=aG.pj8 F pD k (iP s') (iQ s') s'.isSome R C (mk R C A) i:=by
 intro n
 induction n with
 | zero=>
  intro g h s j hn hg hh hj hs
  obtain ⟨g,rfl⟩:∃ g',g=g'+1:=⟨g - 1,by omega⟩
  obtain ⟨h,rfl⟩:∃ g',h=g'+1:=⟨h - 1,by omega⟩
  rw [cR.pl469,aG.pl469,show decide (j<(C:Int))=false from decide_eq_false (by omega),cond_false,cond_false]
  refine ⟨s,?_,rfl,rfl⟩
  rw [show j=(C:Int) by omega] at hs
  exact hs
 | succ n ih=>
  intro g h s j hn hg hh hj hs
  obtain ⟨g,rfl⟩:∃ g',g=g'+1:=⟨g - 1,by omega⟩
  obtain ⟨h,rfl⟩:∃ g',h=g'+1:=⟨h - 1,by omega⟩
  rw [cR.pl469,aG.pl469,show decide (j<(C:Int))=true from decide_eq_true (by omega),cond_true,cond_true]
  have b1:=ab_bd (hb.ab (by omega:0<=i) hi (by omega:0<=j) (by omega))
  simp (disch:=omega) only [at_mk,gD,hJ,Option.bind_some,pm,oe,aN,cR.pj10,aG.pj9]
  have scj:∀ a b,Sc k C i (j+1) a b↔Sc k C i j a b\/(a=i/\b=j):=by
   intro a b;unfold Sc;omega
  by_cases hx:A i j=0
  ·rw [hx,show decide (ab 0>0)=false from rfl,show (ab 0 != 0)=false from rfl,cond_false,cond_false]
   refine ih g h s (j+1) (by omega) (by omega) (by omega) (by omega) ?_
   match s,hs with
   | none,hs=>
    intro a b h1
    rcases (scj a b).1 h1 with h1 | ⟨rfl,rfl⟩
    ·exact hs a b h1
    ·exact hx
   | some (p,q),⟨h1,h2,h3⟩=>
    refine ⟨(scj p q).2 (.inl h1),h2,λa b h4 h5=>?_⟩
    rcases (scj a b).1 h4 with h4 | ⟨rfl,rfl⟩
    ·exact h3 a b h4 h5
    ·exact absurd hx h5
  ·have hpos:=ab_pos.2 hx
   rw [decide_eq_true hpos,show (ab (A i j) != 0)=true from bne_iff_ne.2 (by omega),cond_true,cond_true]
   match s,hs with
   | none,hs=>
    rw [show decide (sP none<0)=true from rfl,cond_true]
    simp only [Option.isSome_none,Bool.not_false,cond_true]
    refine ih g h (some (i,j)) (j+1) (by omega) (by omega) (by omega) (by omega) ⟨(scj i j).2 (.inr ⟨rfl,rfl⟩),hx,λa b h4 h5=>?_⟩
    rcases (scj a b).1 h4 with h4 | ⟨rfl,rfl⟩
    ·exact absurd (hs a b h4) h5
    ·exact ⟨Int.le_refl _,λh=>by omega⟩
   | some (p,q),⟨h1,h2,h3⟩=>
    have h1':=h1
    obtain ⟨e1,e2,e3,e4⟩:=h1'
    have b2:=ab_bd (hb.ab (i:=p) (j:=q) (by omega) (by omega) (by omega) (by omega))
    simp only [sP,sQ,iP,iQ,Option.isSome_some,Bool.not_true,cond_false]
    simp only [eq_false (show ¬ p<0 by omega),decide_false,cond_false]
    simp (disch:=omega) only [at_mk,gD,hJ,Option.bind_some,pm,oe]
    by_cases hlt:ab (A i j)<ab (A p q)
    ·rw [decide_eq_true hlt,cond_true,cond_true]
     refine ih g h (some (i,j)) (j+1) (by omega) (by omega) (by omega) (by omega) ⟨(scj i j).2 (.inr ⟨rfl,rfl⟩),hx,λa b h4 h5=>?_⟩
     rcases (scj a b).1 h4 with h4 | ⟨rfl,rfl⟩
     ·have:=(h3 a b h4 h5).1
      exact ⟨by omega,λ_=>by omega⟩
     ·exact ⟨Int.le_refl _,λh=>by omega⟩
    ·rw [decide_eq_false hlt,cond_false,cond_false]
     refine ih g h (some (p,q)) (j+1) (by omega) (by omega) (by omega) (by omega) ⟨(scj p q).2 (.inl h1),h2,λa b h4 h5=>?_⟩
     rcases (scj a b).1 h4 with h4 | ⟨rfl,rfl⟩
     ·exact h3 a b h4 h5
     ·exact ⟨by omega,λh=>by omega⟩
theorem sel_out {k:Int} (hR:R<=1000) (hC:C<=1000) (hF:C<F) (hb:Bd R C A) (hk:0<=k) (hkC:k<=C) {l1 l2 l3 l4:List Int} {c1 c2 c3 c4 c5 c6:Int}:∀ (n g h:Nat) (s:Option (Int×Int)) (i:Int),R - i=n->n<g->n<h->k<=i->SI k C A i k s ->
  ∃ s',SI k C A R k s'/\cR.pl29 F g R C (mk R C A) c1 l1 c2 c3 l2 c4 c5 l3 c6 l4 k (sP s) (sQ s) i=cR.pj6 F R C (mk R C A) c1 l1 c2 c3 l2 c4 c5 l3 c6 l4 k (sP s') (sQ s') /\
   aG.pl29 F h k (iP s) (iQ s) s.isSome R C (mk R C A) i=some (iP s',iQ s',s'.isSome):=by
 intro n
 induction n with
 | zero=>
  intro g h s i hn hg hh hj hs
  obtain ⟨g,rfl⟩:∃ g',g=g'+1:=⟨g - 1,by omega⟩
  obtain ⟨h,rfl⟩:∃ g',h=g'+1:=⟨h - 1,by omega⟩
  rw [cR.pl29,aG.pl29,show decide (i<(R:Int))=false from decide_eq_false (by omega),cond_false,cond_false]
  refine ⟨s,?_,rfl,rfl⟩
  rw [show i=(R:Int) by omega] at hs
  exact hs
 | succ n ih=>
  intro g h s i hn hg hh hj hs
  obtain ⟨g,rfl⟩:∃ g',g=g'+1:=⟨g - 1,by omega⟩
  obtain ⟨h,rfl⟩:∃ g',h=g'+1:=⟨h - 1,by omega⟩
  rw [cR.pl29,aG.pl29,show decide (i<(R:Int))=true from decide_eq_true (by omega),cond_true,cond_true]
  obtain ⟨s1,hs1,e1,e2⟩:=sel_in (F:=F) (c1:=c1) (c2:=c2) (c3:=c3) (c4:=c4) (c5:=c5) (c6:=c6) (l1:=l1) (l2:=l2) (l3:=l3) (l4:=l4) (pC:=cR.pl29 F g) (pD:=aG.pl29 F h) hR hC hb hk (by omega) hj (C - k).toNat F F s k (by omega) (by omega) (by omega) (by omega) hs
  rw [e1,e2]
  unfold cR.pj9 cR.pj8 aG.pj8 aG.pj7
  rw [aN (by omega) (by omega)]
  refine ih g h s1 (i+1) (by omega) (by omega) (by omega) (by omega) ?_
  have sc:∀ a b,Sc k C (i+1) k a b↔Sc k C i C a b:=by
   intro a b;unfold Sc;omega
  match s1,hs1 with
  | none,hs=>exact λa b h=>hs a b ((sc a b).1 h)
  | some (p,q),⟨h1,h2,h3⟩=>exact ⟨(sc p q).2 h1,h2,λa b h=>h3 a b ((sc a b).1 h)⟩
end Go.Proofs.Ytokekkacliomkaa.AE
end
section
namespace Go.Proofs.Ytokekkacliomkaa.AE
open Go Go.AE Go.Proofs
variable {R C F:Nat} {A:Mat} {i j k:Int}
structure St where
 d:Mat
 l:Mat
 m:Mat
 r:Mat
 s:Mat
def St.good (R C:Nat) (t:St):Prop:=Bd R C t.d/\Bd R R t.l/\Bd R R t.m/\Bd C C t.r/\Bd C C t.s
def swS (t:St) (p q k:Int):St:=⟨swC (swR t.d p k) q k,swR t.l p k,swC t.m p k,swC t.r q k,swR t.s q k⟩
def ngS (t:St) (k:Int):St:=⟨ngR t.d k,ngR t.l k,ngC t.m k,t.r,t.s⟩
def ngRf (A:Mat) (k j0:Int):Mat:=λa b=>if a=k/\j0<=b then - A a b else A a b
def ngCf (A:Mat) (k i0:Int):Mat:=λa b=>if b=k/\i0<=a then - A a b else A a b
theorem Bd.upd_ng (h:Bd R C A) (hi0:0<=i) (hi:i<R) (hj0:0<=j) (hj:j<C):Bd R C (Go.AE.upd A i j (- A i j)):=by
 apply h.upd
 have:=ab_bd (h.ab hi0 hi hj0 hj)
 unfold AE.ab
 split <;> omega
theorem sw_in {i k a:Int} (hi0:0<=i) (hi:i<R) (hk0:0<=k) (hk:k<R) (ha0:0<=a) (ha:a<R):0<=sw i k a/\sw i k a<R:=by
 unfold sw;split
 ·omega
 ·split <;> omega
theorem Bd.swR (h:Bd R C A) (hi0:0<=i) (hi:i<R) (hk0:0<=k) (hk:k<R):Bd R C (swR A i k):=by
 intro a b h1 h2 h3 h4
 obtain ⟨g1,g2⟩:=sw_in hi0 hi hk0 hk h1 h2
 exact h _ _ g1 g2 h3 h4
theorem Bd.swC (h:Bd R C A) (hi0:0<=j) (hi:j<C) (hk0:0<=k) (hk:k<C):Bd R C (swC A j k):=by
 intro a b h1 h2 h3 h4
 obtain ⟨g1,g2⟩:=sw_in hi0 hi hk0 hk h3 h4
 exact h _ _ h1 h2 g1 g2
theorem Bd.ngR (h:Bd R C A):Bd R C (ngR A k):=by
 intro a b h1 h2 h3 h4
 have:=h a b h1 h2 h3 h4
 unfold AE.ngR;split <;> omega
theorem Bd.ngC (h:Bd R C A):Bd R C (ngC A k):=by
 intro a b h1 h2 h3 h4
 have:=h a b h1 h2 h3 h4
 unfold AE.ngC;split <;> omega
theorem aa_ (hR:R<=1000) (hC:C<=1000) (hk0:0<=k) (hk:k<R) {c4 c7:Int} {l5 l8 l11 l14:List Int}:∀ (n g:Nat) (A:Mat) (j:Int),Bd R C A->C - j=n->n<g->0<=j ->
  cR.pl65513 F g C (mk R C A) c4 l5 c7 l8 l11 l14 k j=cR.pj5 F (mk R C (ngRf A k j)) c4 l5 c7 l8 l11 l14 k:=by
 intro n
 induction n with
 | zero=>
  intro g A j hb hn hg hj
  obtain ⟨g,rfl⟩:∃ g',g=g'+1:=⟨g - 1,by omega⟩
  rw [cR.pl65513,show decide (j<(C:Int))=false from decide_eq_false (by omega),cond_false]
  congr 1
  apply dC
  intro a b _ _ _ _
  exact (if_neg (by omega)).symm
 | succ n ih=>
  intro g A j hb hn hg hj
  obtain ⟨g,rfl⟩:∃ g',g=g'+1:=⟨g - 1,by omega⟩
  rw [cR.pl65513,show decide (j<(C:Int))=true from decide_eq_true (by omega),cond_true]
  have b1:=ab_bd (hb.ab hk0 hk hj (by omega))
  simp (disch:=omega) only [at_mk,gD,ll,Option.bind_some,aN,Int.zero_sub]
  rw [ih _ _ (j+1) (hb.upd_ng hk0 hk hj (by omega)) (by omega) (by omega) (by omega)]
  congr 1
  apply dC
  intro a b _ _ _ _
  unfold ngRf upd
  grind
theorem aba (hR:R<=1000) (hk0:0<=k) (hk:k<R) {l2 l11 l14:List Int}:∀ (n g:Nat) (A B:Mat) (j:Int),Bd R R A->Bd R R B->R - j=n->n<g->0<=j ->
  cR.pl65515 F g l2 R (mk R R A) R (mk R R B) l11 l14 k j=some (true,l2,mk R R (ngRf A k j),mk R R (ngCf B k j),l11,l14):=by
 intro n
 induction n with
 | zero=>
  intro g A B j hb hb' hn hg hj
  obtain ⟨g,rfl⟩:∃ g',g=g'+1:=⟨g - 1,by omega⟩
  rw [cR.pl65515,show decide (j<(R:Int))=false from decide_eq_false (by omega),cond_false]
  rw [dC (A:=A) (B:=ngRf A k j) (λa b _ _ _ _=>(if_neg (by omega)).symm),dC (A:=B) (B:=ngCf B k j) (λa b _ _ _ _=>(if_neg (by omega)).symm)]
 | succ n ih=>
  intro g A B j hb hb' hn hg hj
  obtain ⟨g,rfl⟩:∃ g',g=g'+1:=⟨g - 1,by omega⟩
  rw [cR.pl65515,show decide (j<(R:Int))=true from decide_eq_true (by omega),cond_true]
  have b1:=ab_bd (hb.ab hk0 hk hj (by omega))
  have b2:=ab_bd (hb'.ab hj (by omega) hk0 hk)
  simp (disch:=omega) only [at_mk,gD,ll,Option.bind_some,aN,Int.zero_sub]
  rw [ih _ _ _ (j+1) (hb.upd_ng hk0 hk hj (by omega)) (hb'.upd_ng hj (by omega) hk0 hk) (by omega) (by omega) (by omega)]
  rw [dC (A:=ngRf (upd A k j (-A k j)) k (j+1)) (B:=ngRf A k j) (λa b _ _ _ _=>by unfold ngRf upd;grind),dC (A:=ngCf (upd B j k (-B j k)) k (j+1)) (B:=ngCf B k j) (λa b _ _ _ _=>by unfold ngCf upd;grind)]
theorem abb (hR:R<=1000) (hk0:0<=k) (hk:k<R) {l2 l8 l11 l14:List Int}:∀ (n g:Nat) (B:Mat) (j:Int),Bd R R B->R - j=n->n<g->0<=j ->
  bi.pl32747 F g l2 R (mk R R B) l8 l11 l14 k R j=some (true,l2,mk R R (ngCf B k j),l8,l11,l14):=by
 intro n
 induction n with
 | zero=>
  intro g B j hb' hn hg hj
  obtain ⟨g,rfl⟩:∃ g',g=g'+1:=⟨g - 1,by omega⟩
  rw [bi.pl32747,show decide (j<(R:Int))=false from decide_eq_false (by omega),cond_false]
  rw [dC (A:=B) (B:=ngCf B k j) (λa b _ _ _ _=>(if_neg (by omega)).symm)]
 | succ n ih=>
  intro g B j hb' hn hg hj
  obtain ⟨g,rfl⟩:∃ g',g=g'+1:=⟨g - 1,by omega⟩
  rw [bi.pl32747,show decide (j<(R:Int))=true from decide_eq_true (by omega),cond_true]
  have b2:=ab_bd (hb'.ab hj (by omega) hk0 hk)
  simp (disch:=omega) only [at_mk,gD,hJ,ll,Option.bind_some,aN,Int.zero_sub]
  rw [ih _ _ (j+1) (hb'.upd_ng hj (by omega) hk0 hk) (by omega) (by omega) (by omega)]
  rw [dC (A:=ngCf (upd B j k (-B j k)) k (j+1)) (B:=ngCf B k j) (λa b _ _ _ _=>by unfold ngCf upd;grind)]
theorem cuts_row (hR:R<=1000) (hC:C<=1000) (hk0:0<=k) (hk:k<R) (hC0:0<C):∃ x,lj (mk R C A) (IntKind.i64.wrap (k * C)) (IntKind.i64.wrap (IntKind.i64.wrap (k+1) * C))=some x/\x.length=C/\IntKind.i64.wrap (k * C)=k * C:=by
 obtain ⟨k,rfl⟩:=Int.eq_ofNat_of_zero_le hk0
 have h1:(k+1) * C<=R * C:=Nat.mul_le_mul_right _ (by omega)
 have h2:R * C<=1000 * 1000:=Nat.mul_le_mul hR hC
 have h3:(k+1) * C=k * C+C:=Nat.succ_mul _ _
 rw [aN (x:=(k:Int)+1) (by omega) (by omega),show (k:Int)+1=((k+1:Nat):Int) by omega,<-Int.natCast_mul,<-Int.natCast_mul,aN (by omega) (by omega),aN (by omega) (by omega)]
 unfold lj
 rw [if_pos (by rw [gP];omega)]
 refine ⟨_,rfl,?_,rfl⟩
 rw [List.length_drop,List.length_take,gP]
 omega
def pvS (t:St) (p q k:Int):St:=if (swS t p q k).d k k<0 then ngS (swS t p q k) k else swS t p q k
theorem pivot_both (hR:R<=1000) (hC:C<=1000) (hF:5000000<F) {t:St} (hg:t.good R C) (hk:0<=k) (hkR:k<R) (hkC:k<C) :
  ((∀ a b,k<=a->a<R->k<=b->b<C->t.d a b=0)/\cR.p F R C (mk R C t.d) R (mk R R t.l) R R (mk R R t.m) C C (mk C C t.r) C (mk C C t.s) k=some (false,mk R C t.d,mk R R t.l,mk R R t.m,mk C C t.r,mk C C t.s) /\
   bi.p F R (mk R R t.l) R R (mk R R t.m) R C (mk R C t.d) C C (mk C C t.r) C (mk C C t.s) k=some (false,mk R R t.l,mk R R t.m,mk R C t.d,mk C C t.r,mk C C t.s)) \/
  (∃ p q,SI k C t.d R k (some (p,q))/\∃ u,u=pvS t p q k/\u.good R C/\u.d k k=ab (t.d p q) /\
   cR.p F R C (mk R C t.d) R (mk R R t.l) R R (mk R R t.m) C C (mk C C t.r) C (mk C C t.s) k=some (true,mk R C u.d,mk R R u.l,mk R R u.m,mk C C u.r,mk C C u.s) /\
   bi.p F R (mk R R t.l) R R (mk R R t.m) R C (mk R C t.d) C C (mk C C t.r) C (mk C C t.s) k=some (true,mk R R u.l,mk R R u.m,mk R C u.d,mk C C u.r,mk C C u.s)):=by
 obtain ⟨g1,g2,g3,g4,g5⟩:=hg
 obtain ⟨s',hs,e1,e2⟩:=sel_out (F:=F) (c1:=R) (c2:=R) (c3:=R) (c4:=C) (c5:=C) (c6:=C) (l1:=mk R R t.l) (l2:=mk R R t.m) (l3:=mk C C t.r) (l4:=mk C C t.s) hR hC (by omega) g1 hk (by omega) (R - k).toNat F F none k (by omega) (by omega) (by omega) (by omega) (by intro a b h;unfold Sc at h;omega)
 unfold cR.p bi.p aG.p
 rw [show (-1:Int)=sP none from rfl]
 rw [show cR.pl29 F F R C (mk R C t.d) R (mk R R t.l) R R (mk R R t.m) C C (mk C C t.r) C (mk C C t.s) k (sP none) (sP none) k=_ from e1]
 rw [show aG.pl29 F F k 0 0 false R C (mk R C t.d) k=_ from e2,Option.bind_some]
 match s',hs with
 | none,hs=>
  left
  refine ⟨λa b h1 h2 h3 h4=>hs a b ⟨h1,h3,h4,.inl h2⟩,?_,rfl⟩
  unfold cR.pj6
  rfl
 | some (p,q),hs=>
  right
  refine ⟨p,q,hs,pvS t p q k,rfl,?_⟩
  obtain ⟨⟨h1,h2,h3,h4⟩,h5,h6⟩:=hs
  have hp:p<R:=by omega
  have q1:Bd R C (swC (swR t.d p k) q k):=(g1.swR (by omega) hp hk hkR).swC (by omega) (by omega) hk hkC
  have q2:=g2.swR (i:=p) (by omega) hp hk hkR
  have q3:=g3.swC (j:=p) (by omega) hp hk hkR
  have q4:=g4.swC (j:=q) (by omega) h3 hk hkC
  have q5:=g5.swR (i:=q) (by omega) h3 hk hkC
  have hpos:=ab_pos.2 h5
  have ekk:swC (swR t.d p k) q k k k=t.d p q:=by
   unfold swC swR sw
   grind
  have b1:=ab_bd (q1.ab hk hkR hk hkC)
  unfold cR.pj6
  simp only [sP,sQ,iP,iQ,Option.isSome_some,Bool.not_true,cond_false]
  simp only [eq_false (show ¬ p<0 by omega),decide_false,cond_false]
  rw [KM hR hC (by omega) (by omega) hp hk hkR,Option.bind_some,KM hR hR (by omega) (by omega) hp hk hkR,Option.bind_some,KO hR hR (by omega) (by omega) hp hk hkR,Option.bind_some,KO hR hC (by omega) (by omega) h3 hk hkC,Option.bind_some,KO hC hC (by omega) (by omega) h3 hk hkC,Option.bind_some,KM hC hC (by omega) (by omega) h3 hk hkC,Option.bind_some]
  rw [KN hR hC (by omega) (by omega) hp hk hkR,Option.bind_some,KN hR hR (by omega) (by omega) hp hk hkR,Option.bind_some,KP hR hR (by omega) (by omega) hp hk hkR,Option.bind_some,KP hR hC (by omega) (by omega) h3 hk hkC,Option.bind_some,KP hC hC (by omega) (by omega) h3 hk hkC,Option.bind_some,KN hC hC (by omega) (by omega) h3 hk hkC,Option.bind_some]
  simp (disch:=omega) only [at_mk,gD,hJ,Option.bind_some]
  rw [ekk]
  by_cases hneg:t.d p q<0
  ·have epv:pvS t p q k=ngS (swS t p q k) k:=if_pos (by show swC (swR t.d p k) q k k k<0;rw [ekk];exact hneg)
   rw [epv]
   simp only [eq_true hneg,decide_true,cond_true]
   refine ⟨⟨q1.ngR,q2.ngR,q3.ngC,q4,q5⟩,?_,?_,?_⟩
   ·show ngR (swC (swR t.d p k) q k) k k k=_
    unfold ngR ab
    rw [if_pos rfl,ekk,if_pos hneg]
   ·rw [aa_ hR hC hk hkR C F _ 0 q1 (by omega) (by omega) (by omega)]
    unfold cR.pj5
    rw [aba hR hk hkR R F _ _ 0 q2 q3 (by omega) (by omega) (by omega)]
    rw [dC (A:=ngRf (swC (swR t.d p k) q k) k 0) (B:=(ngS (swS t p q k) k).d) (λa b _ _ _ _=>by unfold ngRf;show _=ngR _ _ _ _;unfold ngR swS;grind)]
    rw [dC (A:=ngRf (swR t.l p k) k 0) (B:=(ngS (swS t p q k) k).l) (λa b _ _ _ _=>by unfold ngRf;show _=ngR _ _ _ _;unfold ngR swS;grind)]
    rw [dC (A:=ngCf (swC t.m p k) k 0) (B:=(ngS (swS t p q k) k).m) (λa b _ _ _ _=>by unfold ngCf;show _=ngC _ _ _ _;unfold ngC swS;grind)]
    rfl
   ·obtain ⟨x,ex,exl,ew⟩:=cuts_row (A:=swC (swR t.d p k) q k) hR hC hk hkR (by omega)
    obtain ⟨y,ey,eyl,ew2⟩:=cuts_row (A:=swR t.l p k) hR hR hk hkR (by omega)
    have m1:R * C<=1000 * 1000:=Nat.mul_le_mul hR hC
    have m2:R * R<=1000 * 1000:=Nat.mul_le_mul hR hR
    rw [ex,Option.bind_some,ey,Option.bind_some,if_pos (by rw [gP,gP];omega),ew,ew2,exl,eyl,negr_mk hR hC hk hkR q1,negr_mk hR hR hk hkR q2]
    unfold bi.pj3
    rw [abb hR hk hkR R F _ 0 q3 (by omega) (by omega) (by omega)]
    rw [dC (A:=ngCf (swC t.m p k) k 0) (B:=(ngS (swS t p q k) k).m) (λa b _ _ _ _=>by unfold ngCf;show _=ngC _ _ _ _;unfold ngC swS;grind)]
    rfl
  ·have epv:pvS t p q k=swS t p q k:=if_neg (by show ¬ swC (swR t.d p k) q k k k<0;rw [ekk];exact hneg)
   rw [epv]
   simp only [eq_false hneg,decide_false,cond_false]
   refine ⟨⟨q1,q2,q3,q4,q5⟩,?_,rfl,rfl⟩
   show swC (swR t.d p k) q k k k=_
   unfold ab
   rw [ekk,if_neg hneg]
end Go.Proofs.Ytokekkacliomkaa.AE
end
section
namespace Go.Proofs.Ytokekkacliomkaa.AE
open Go Go.AE Go.Proofs
variable {R C n:Nat} {A B:Mat} {u v:St} {k e:Int}
def On (R C:Nat) (A B:Mat):Prop:=∀ i j:Int,0<=i->i<R->0<=j->j<C->A i j=B i j
theorem On.refl:On R C A A:=λ_ _ _ _ _ _=>rfl
theorem On.symm (h:On R C A B):On R C B A:=λi j h1 h2 h3 h4=>(h i j h1 h2 h3 h4).symm
theorem On.trans {D:Mat} (h:On R C A B) (h':On R C B D):On R C A D:=λi j h1 h2 h3 h4=>(h i j h1 h2 h3 h4).trans (h' i j h1 h2 h3 h4)
theorem On.mm {A' B':Mat} (h:On R n A A') (h':On n C B B'):On R C (mm n A B) (mm n A' B'):=λi j h1 h2 h3 h4=>
 mm_congr (λl h5 h6=>h i l h1 h2 h5 h6) λl h5 h6=>h' l j h5 h6 h3 h4
theorem On.idl:On n C (AE.mm n idM A) A:=λ_ _ h1 h2 _ _=>mm_idl h1 h2
theorem On.idr:On R n (AE.mm n A idM) A:=λ_ _ _ _ h3 h4=>mm_idr h3 h4
structure Red (R C:Nat) (A:Mat) (v:St):Prop where
 d:On R C v.d (mm C (mm R v.l A) v.r)
 lm:On R R (mm R v.l v.m) idM
 ml:On R R (mm R v.m v.l) idM
 rs:On C C (mm C v.r v.s) idM
 sr:On C C (mm C v.s v.r) idM
theorem Red.row {E E':Mat} (h:Red R C A u) (h1:On R R (mm R E E') idM) (h2:On R R (mm R E' E) idM) (d:On R C v.d (mm R E u.d)) (l:On R R v.l (mm R E u.l)) (m:On R R v.m (mm R u.m E')) (r:v.r=u.r) (s:v.s=u.s):Red R C A v where
 d:=by
  rw [r]
  refine d.trans ((On.mm On.refl h.d).trans ?_)
  rw [<- mm_assoc,<-mm_assoc]
  exact On.mm (On.mm l.symm On.refl) On.refl
 lm:=by
  refine (On.mm l m).trans ?_
  rw [mm_assoc,<-mm_assoc (A:=u.l)]
  exact (On.mm On.refl ((On.mm h.lm On.refl).trans On.idl)).trans h1
 ml:=by
  refine (On.mm m l).trans ?_
  rw [mm_assoc,<-mm_assoc (A:=E')]
  exact (On.mm On.refl ((On.mm h2 On.refl).trans On.idl)).trans h.ml
 rs:=by rw [r,s];exact h.rs
 sr:=by rw [r,s];exact h.sr
theorem Red.col {E E':Mat} (h:Red R C A u) (h1:On C C (mm C E E') idM) (h2:On C C (mm C E' E) idM) (d:On R C v.d (mm C u.d E)) (r:On C C v.r (mm C u.r E)) (s:On C C v.s (mm C E' u.s)) (l:v.l=u.l) (m:v.m=u.m):Red R C A v where
 d:=by
  rw [l]
  refine d.trans ((On.mm h.d On.refl).trans ?_)
  rw [mm_assoc]
  exact On.mm On.refl r.symm
 rs:=by
  refine (On.mm r s).trans ?_
  rw [mm_assoc,<-mm_assoc (A:=E)]
  exact (On.mm On.refl ((On.mm h1 On.refl).trans On.idl)).trans h.rs
 sr:=by
  refine (On.mm s r).trans ?_
  rw [mm_assoc,<-mm_assoc (A:=u.s)]
  exact (On.mm On.refl ((On.mm h.sr On.refl).trans On.idl)).trans h2
 lm:=by rw [l,m];exact h.lm
 ml:=by rw [l,m];exact h.ml
def Esw (p k:Int):Mat:=λi l=>if l=sw p k i then 1 else 0
theorem sw_sw (p k x:Int):sw p k (sw p k x)=x:=by unfold sw;grind
theorem Esw_l {p k:Int} (hp0:0<=p) (hp:p<R) (hk0:0<=k) (hk:k<R):On R C (swR A p k) (mm R (Esw p k) A):=λi j h1 h2 _ _=>by
 show A (sw p k i) j=Sg R λl=>(if l=sw p k i then 1 else 0) * A l j
 have:=sw_in hp0 hp hk0 hk h1 h2
 rw [Sg_congr (g:=λl=>if l=sw p k i then A l j else 0) λl _ _=>by by_cases e:l=sw p k i <;> simp [e],Sg_one this.1,if_pos this.2]
theorem Esw_r {p k:Int} (hp0:0<=p) (hp:p<C) (hk0:0<=k) (hk:k<C):On R C (swC A p k) (mm C A (Esw p k)):=λi j _ _ h1 h2=>by
 show A i (sw p k j)=Sg C λl=>A i l * (if j=sw p k l then 1 else 0)
 have:=sw_in hp0 hp hk0 hk h1 h2
 rw [Sg_congr (g:=λl=>if l=sw p k j then A i l else 0) λl _ _=>by
  by_cases e:l=sw p k j
  ·subst e;rw [sw_sw];simp
  ·rw [if_neg e,if_neg λq=>e (by rw [q,sw_sw]),Int.mul_zero],Sg_one this.1,if_pos this.2]
theorem Esw_e {p k:Int} (hp0:0<=p) (hp:p<R) (hk0:0<=k) (hk:k<R):On R R (mm R (Esw p k) (Esw p k)) idM:=(Esw_l hp0 hp hk0 hk).symm.trans λi j _ _ _ _=>by
 show (if j=sw p k (sw p k i) then (1:Int) else 0)=if i=j then 1 else 0
 rw [sw_sw];by_cases e:i=j <;> simp [e,eq_comm]
def Eng (k:Int):Mat:=λi l=>if l=i then (if i=k then -1 else 1) else 0
theorem Eng_l {k:Int}:On R C (ngR A k) (mm R (Eng k) A):=λi j h1 h2 _ _=>by
 show (if i=k then - A i j else A i j)=Sg R λl=>(if l=i then (if i=k then -1 else 1) else 0) * A l j
 rw [Sg_congr (g:=λl=>if l=i then (if i=k then -1 else 1) * A l j else 0) λl _ _=>by by_cases e:l=i <;> simp [e],Sg_one h1,if_pos h2]
 by_cases e:i=k <;> simp [e]
theorem Eng_r {k:Int}:On R C (ngC A k) (mm C A (Eng k)):=λi j _ _ h1 h2=>by
 show (if j=k then - A i j else A i j)=Sg C λl=>A i l * (if j=l then (if l=k then -1 else 1) else 0)
 rw [Sg_congr (g:=λl=>if l=j then A i l * (if l=k then -1 else 1) else 0) λl _ _=>by
  by_cases e:l=j
  ·subst e;simp
  ·rw [if_neg e,if_neg (Ne.symm e),Int.mul_zero],Sg_one h1,if_pos h2]
 by_cases e:j=k <;> simp [e]
theorem Eng_e {k:Int}:On R R (mm R (Eng k) (Eng k)) idM:=Eng_l.symm.trans λi j _ _ _ _=>by
 show (if i=k then - (if j=i then (if i=k then -1 else 1) else 0) else (if j=i then (if i=k then (-1:Int) else 1) else 0))=if i=j then 1 else 0
 by_cases e:i=k <;> by_cases e':j=i <;> simp [e,e',eq_comm] <;> omega
def Ead (t f q:Int):Mat:=λi l=>(if l=i then 1 else 0)+(if l=f then (if i=t then q else 0) else 0)
theorem Ead_l {t f q:Int} {i j:Int} (hf0:0<=f) (hf:f<R) (h1:0<=i) (h2:i<R):mm R (Ead t f q) A i j=A i j+if i=t then q * A f j else 0:=by
 show Sg R (λl=>((if l=i then 1 else 0)+(if l=f then (if i=t then q else 0) else 0)) * A l j)=_
 rw [Sg_congr (g:=λl=>(if l=i then A l j else 0)+(if l=f then (if i=t then q else 0) * A l j else 0)) λl _ _=>by
  rw [Int.add_mul]
  congr 1
  ·split <;> simp
  ·split <;> simp,Sg_add,Sg_one h1,if_pos h2,Sg_one hf0,if_pos hf]
 by_cases e:i=t <;> simp [e]
theorem Ead_r {t f q:Int} {i j:Int} (ht0:0<=t) (ht:t<C) (h1:0<=j) (h2:j<C):mm C A (Ead t f q) i j=A i j+if j=f then A i t * q else 0:=by
 show Sg C (λl=>A i l * ((if j=l then 1 else 0)+(if j=f then (if l=t then q else 0) else 0)))=_
 rw [Sg_congr (g:=λl=>(if l=j then A i l else 0)+(if l=t then (if j=f then A i l * q else 0) else 0)) λl _ _=>by
  rw [Int.mul_add]
  congr 1
  ·by_cases e:l=j
   ·subst e;simp
   ·rw [if_neg e,if_neg (Ne.symm e),Int.mul_zero]
  ·by_cases e:j=f
   ·rw [if_pos e,if_pos e]
    by_cases e':l=t <;> simp [e']
   ·rw [if_neg e,if_neg e,Int.mul_zero];split <;> rfl,Sg_add,Sg_one h1,if_pos h2,Sg_one ht0,if_pos ht]
theorem Ead_e {t f q:Int} (hf0:0<=f) (hf:f<R) (htf:t≠f):On R R (mm R (Ead t f q) (Ead t f (-q))) idM:=λi j h1 h2 _ _=>by
 rw [Ead_l hf0 hf h1 h2]
 show ((if j=i then 1 else 0)+(if j=f then (if i=t then -q else 0) else 0))+(if i=t then q * ((if j=f then 1 else 0)+(if j=f then (if f=t then -q else 0) else 0)) else 0)=if i=j then 1 else 0
 rw [if_neg (Ne.symm htf)]
 have e0:(if j=i then (1:Int) else 0)=if i=j then 1 else 0:=by by_cases e:i=j <;> simp [e,eq_comm]
 rw [e0]
 by_cases e:i=t
 ·rw [if_pos e,if_pos e]
  by_cases e2:j=f <;> simp [e2] <;> omega
 ·rw [if_neg e,if_neg e]
  by_cases e2:j=f <;> simp [e2]
def rowS (u:St) (t f b:Int):St:=⟨adR u.d t f b,adR u.l t f b,adC u.m f t (-b),u.r,u.s⟩
def colS (u:St) (t f b:Int):St:=⟨adC u.d t f b,u.l,u.m,adC u.r t f b,adR u.s f t (-b)⟩
inductive Rch (R C:Nat) (k:Int):St->St->Prop
 | refl (u:St):Rch R C k u u
 | piv (u:St) (p q x:Int) (hp:k<=p) (hpR:p<R) (hq:k<=q) (hqC:q<C) (hx:k<=x) (hxR:x<R) (hxC:x<C):Rch R C k u (pvS u p q x)
 | row (u:St) (t f b:Int) (ht:k<=t) (htR:t<R) (hf:k<=f) (hfR:f<R) (htf:t≠f) (n1:¬ nfR C u.d t f b) (n2:¬ nfR R u.l t f b) (n3:¬ nfC R u.m f t (-b)):Rch R C k u (rowS u t f b)
 | col (u:St) (t f b:Int) (ht:k<=t) (htC:t<C) (hf:k<=f) (hfC:f<C) (htf:t≠f) (n1:¬ nfC R u.d t f b) (n2:¬ nfC C u.r t f b) (n3:¬ nfR C u.s f t (-b)):Rch R C k u (colS u t f b)
 | trans {u v w:St} (h:Rch R C k u v) (h':Rch R C k v w):Rch R C k u w
theorem adR_on {t f b:Int} (n1:¬ nfR C A t f b):On R C (adR A t f b) (λi j=>A i j+if i=t then b * A f j else 0):=λi j _ _ h3 h4=>by
 show (if i=t then ad (A t j) (A f j) b else A i j)=A i j+if i=t then b * A f j else 0
 by_cases e:i=t
 ·subst e
  rw [if_pos rfl,if_pos rfl,ad_fit (Classical.byContradiction λhh=>n1 ⟨j,h3,h4,hh⟩),Int.mul_comm b]
 ·rw [if_neg e,if_neg e,Int.add_zero]
theorem adC_on {t f b:Int} (n1:¬ nfC R A t f b):On R C (adC A t f b) (λi j=>A i j+if j=t then A i f * b else 0):=λi j h1 h2 _ _=>by
 show (if j=t then ad (A i t) (A i f) b else A i j)=A i j+if j=t then A i f * b else 0
 by_cases e:j=t
 ·subst e
  rw [if_pos rfl,if_pos rfl,ad_fit (Classical.byContradiction λhh=>n1 ⟨i,h1,h2,hh⟩)]
 ·rw [if_neg e,if_neg e,Int.add_zero]
theorem neg_e {t f q:Int} (hf0:0<=f) (hf:f<R) (htf:t≠f):On R R (mm R (Ead t f (-q)) (Ead t f q)) idM:=by
 have:=Ead_e (q:=-q) hf0 hf htf
 rw [Int.neg_neg] at this;exact this
theorem Rch.red (hk:0<=k) (h:Rch R C k u v) (hu:Red R C A u):Red R C A v:=by
 induction h with
 | refl=>exact hu
 | trans _ _ ih ih'=>exact ih' (ih hu)
 | piv u p q x hp hpR hq hqC hx hxR hxC=>
  have h1:Red R C A ⟨swR u.d p x,swR u.l p x,swC u.m p x,u.r,u.s⟩:=hu.row (Esw_e (by omega) hpR (by omega) hxR) (Esw_e (by omega) hpR (by omega) hxR) (Esw_l (by omega) hpR (by omega) hxR) (Esw_l (by omega) hpR (by omega) hxR) (Esw_r (by omega) hpR (by omega) hxR) rfl rfl
  have h2:Red R C A (swS u p q x):=h1.col (Esw_e (by omega) hqC (by omega) hxC) (Esw_e (by omega) hqC (by omega) hxC) (Esw_r (by omega) hqC (by omega) hxC) (Esw_r (by omega) hqC (by omega) hxC) (Esw_l (by omega) hqC (by omega) hxC) rfl rfl
  unfold pvS
  split
  ·exact h2.row Eng_e Eng_e Eng_l Eng_l Eng_r rfl rfl
  ·exact h2
 | row u t f b ht htR hf hfR htf n1 n2 n3=>
  refine hu.row (E:=Ead t f b) (E':=Ead t f (-b)) (Ead_e (by omega) hfR htf) (neg_e (by omega) hfR htf) ((adR_on n1).trans λi j h1 h2 _ _=>?_) ((adR_on n2).trans λi j h1 h2 _ _=>?_) ((adC_on n3).trans λi j _ _ h1 h2=>?_) rfl rfl
  ·rw [Ead_l (by omega) hfR h1 h2]
  ·rw [Ead_l (by omega) hfR h1 h2]
  ·rw [Ead_r (by omega) htR h1 h2]
 | col u t f b ht htC hf hfC htf n1 n2 n3=>
  refine hu.col (E:=Ead f t b) (E':=Ead f t (-b)) (Ead_e (by omega) htC (Ne.symm htf)) (neg_e (by omega) htC (Ne.symm htf)) ((adC_on n1).trans λi j _ _ h1 h2=>?_) ((adC_on n2).trans λi j _ _ h1 h2=>?_) ((adR_on n3).trans λi j h1 h2 _ _=>?_) rfl rfl
  ·rw [Ead_r (by omega) hfC h1 h2]
  ·rw [Ead_r (by omega) hfC h1 h2]
  ·rw [Ead_l (by omega) htC h1 h2]
def Zr (R C:Nat) (k:Int) (u:St):Prop:=∀ i j:Int,0<=i->i<R->0<=j->j<C->i≠j->(i<k\/j<k)->u.d i j=0
def Dv (R C:Nat) (k e:Int) (u:St):Prop:=∀ i j:Int,k<=i->i<R->k<=j->j<C->e∣u.d i j
theorem sw_lo {p k x a:Int} (hp:k<=p) (hx:k<=x) (ha:a<k):sw p x a=a:=by unfold sw;rw [if_neg (by omega),if_neg (by omega)]
theorem sw_hi {p k x a:Int} {N:Nat} (hp:k<=p) (hpN:p<N) (hx:k<=x) (hxN:x<N) (ha:k<=a) (haN:a<N):k<=sw p x a/\sw p x a<N:=by unfold sw;split <;> (try split) <;> omega
theorem ng_cases {x y i:Int}:(∃ s:Int,(s=1\/s=-1)/\ngR A x i y=s * A i y):=by
 unfold ngR
 split
 ·exact ⟨-1,.inr rfl,by omega⟩
 ·exact ⟨1,.inl rfl,by omega⟩
theorem pv_val {p q x i j:Int}:∃ s:Int,(s=1\/s=-1)/\(pvS u p q x).d i j=s * u.d (sw p x i) (sw q x j):=by
 unfold pvS
 split
 ·exact ng_cases (A:=(swS u p q x).d)
 ·exact ⟨1,.inl rfl,(Int.one_mul _).symm⟩
theorem Rch.zr (hk:0<=k) (h:Rch R C k u v) (hz:Zr R C k u):Zr R C k v:=by
 induction h with
 | refl=>exact hz
 | trans _ _ ih ih'=>exact ih' (ih hz)
 | piv u p q x hp hpR hq hqC hx hxR hxC=>
  intro i j h1 h2 h3 h4 h5 h6
  obtain ⟨s,_,e⟩:=pv_val (u:=u) (p:=p) (q:=q) (x:=x) (i:=i) (j:=j)
  rw [e]
  have a1:=sw_in (i:=p) (k:=x) (a:=i) (R:=R) (by omega) hpR (by omega) hxR h1 h2
  have a2:=sw_in (i:=q) (k:=x) (a:=j) (R:=C) (by omega) hqC (by omega) hxC h3 h4
  have:u.d (sw p x i) (sw q x j)=0:=by
   by_cases c:i<k
   ·have e1:=sw_lo (p:=p) hp hx c
    rw [e1]
    refine hz _ _ h1 h2 a2.1 a2.2 ?_ (.inl c)
    by_cases c':j<k
    ·rw [sw_lo hq hx c'];exact h5
    ·have:=sw_hi (N:=C) hq hqC hx hxC (a:=j) (by omega) h4;omega
   ·have e1:=sw_lo (p:=q) (a:=j) hq hx (by omega)
    rw [e1]
    refine hz _ _ a1.1 a1.2 h3 h4 ?_ (.inr (by omega))
    have:=sw_hi (N:=R) hp hpR hx hxR (a:=i) (by omega) h2;omega
  rw [this,Int.mul_zero]
 | row u t f b ht htR hf hfR htf n1 n2 n3=>
  intro i j h1 h2 h3 h4 h5 h6
  show adR u.d t f b i j=0
  rw [adR_on n1 i j h1 h2 h3 h4]
  simp only []
  rw [hz i j h1 h2 h3 h4 h5 h6]
  by_cases c:i=t
  ·rw [if_pos c,hz f j (by omega) hfR h3 h4 (by omega) (.inr (by omega)),Int.mul_zero];rfl
  ·rw [if_neg c];rfl
 | col u t f b ht htR hf hfR htf n1 n2 n3=>
  intro i j h1 h2 h3 h4 h5 h6
  show adC u.d t f b i j=0
  rw [adC_on n1 i j h1 h2 h3 h4]
  simp only []
  rw [hz i j h1 h2 h3 h4 h5 h6]
  by_cases c:j=t
  ·rw [if_pos c,hz i f h1 h2 (by omega) hfR (by omega) (.inl (by omega)),Int.zero_mul];rfl
  ·rw [if_neg c];rfl
theorem Rch.dv (hk:0<=k) (h:Rch R C k u v) (hz:Dv R C k e u):Dv R C k e v:=by
 induction h with
 | refl=>exact hz
 | trans _ _ ih ih'=>exact ih' (ih hz)
 | piv u p q x hp hpR hq hqC hx hxR hxC=>
  intro i j h1 h2 h3 h4
  obtain ⟨s,_,e⟩:=pv_val (u:=u) (p:=p) (q:=q) (x:=x) (i:=i) (j:=j)
  rw [e]
  have a1:=sw_hi (N:=R) hp hpR hx hxR h1 h2
  have a2:=sw_hi (N:=C) hq hqC hx hxC h3 h4
  exact Int.dvd_trans (hz _ _ a1.1 a1.2 a2.1 a2.2) (Int.dvd_mul_left _ _)
 | row u t f b ht htR hf hfR htf n1 n2 n3=>
  intro i j h1 h2 h3 h4
  show _∣adR u.d t f b i j
  rw [adR_on n1 i j (by omega) h2 (by omega) h4]
  refine Int.dvd_add (hz i j h1 h2 h3 h4) ?_
  split
  ·exact Int.dvd_trans (hz f j hf hfR h3 h4) (Int.dvd_mul_left _ _)
  ·exact ⟨0,(Int.mul_zero _).symm⟩
 | col u t f b ht htR hf hfR htf n1 n2 n3=>
  intro i j h1 h2 h3 h4
  show _∣adC u.d t f b i j
  rw [adC_on n1 i j (by omega) h2 (by omega) h4]
  refine Int.dvd_add (hz i j h1 h2 h3 h4) ?_
  split
  ·exact Int.dvd_trans (hz i f h1 h2 hf hfR) (Int.dvd_mul_right _ _)
  ·exact ⟨0,(Int.mul_zero _).symm⟩
theorem Rch.same (hk:0<=k) (h:Rch R C k u v):∀ a:Int,0<=a->a<k->v.d a a=u.d a a:=by
 induction h with
 | refl=>exact λ_ _ _=>rfl
 | trans _ _ ih ih'=>exact λa h1 h2=>(ih' a h1 h2).trans (ih a h1 h2)
 | piv u p q x hp hpR hq hqC hx hxR hxC=>
  intro a h1 h2
  have e:(swS u p q x).d a a=u.d a a:=by
   show u.d (sw p x a) (sw q x a)=_
   rw [sw_lo hp hx h2,sw_lo hq hx h2]
  unfold pvS
  split
  ·show ngR (swS u p q x).d x a a=_
   unfold ngR;rw [if_neg (by omega)];exact e
  ·exact e
 | row u t f b ht htR hf hfR htf n1 n2 n3=>intro a h1 h2;show (if a=t then _ else u.d a a)=_;rw [if_neg (by omega)]
 | col u t f b ht htR hf hfR htf n1 n2 n3=>intro a h1 h2;show (if a=t then _ else u.d a a)=_;rw [if_neg (by omega)]
structure Stg (R C:Nat) (k:Int) (u:St):Prop where
 z:Zr R C k u
 n:∀ a:Int,0<=a->a<k->a<R->a<C->0<=u.d a a
 c:∀ a b:Int,0<=a->a<=b->b<k->b<R->b<C->u.d a a∣u.d b b
 l:∀ a:Int,0<=a->a<k->a<R->a<C->Dv R C k (u.d a a) u
theorem Rch.stg (hk:0<=k) (h:Rch R C k u v) (hs:Stg R C k u):Stg R C k v where
 z:=h.zr hk hs.z
 n:=λa h1 h2 h3 h4=>by rw [h.same hk a h1 h2];exact hs.n a h1 h2 h3 h4
 c:=λa b h1 h2 h3 h4 h5=>by rw [h.same hk a h1 (by omega),h.same hk b (by omega) h3];exact hs.c a b h1 h2 h3 h4 h5
 l:=λa h1 h2 h3 h4=>by rw [h.same hk a h1 h2];exact h.dv hk (hs.l a h1 h2 h3 h4)
structure Clr (R C:Nat) (k:Int) (u:St):Prop where
 a:∀ a:Int,k<a->a<R->u.d a k=0
 b:∀ b:Int,k<b->b<C->u.d k b=0
 d:∀ a b:Int,k<a->a<R->k<b->b<C->u.d k k∣u.d a b
theorem Stg.next (hk:0<=k) (hkR:k<R) (hkC:k<C) (hs:Stg R C k u) (hc:Clr R C k u) (h0:0<=u.d k k):Stg R C (k+1) u where
 z:=λi j h1 h2 h3 h4 h5 h6=>by
  by_cases c1:i<k\/j<k
  ·exact hs.z i j h1 h2 h3 h4 h5 c1
  ·by_cases c2:i=k
   ·subst c2;exact hc.b j (by omega) h4
   ·obtain rfl:j=k:=by omega
    exact hc.a i (by omega) h2
 n:=λa h1 h2 h3 h4=>by
  by_cases e:a=k
  ·subst e;exact h0
  ·exact hs.n a h1 (by omega) h3 h4
 c:=λa b h1 h2 h3 h4 h5=>by
  by_cases e:b=k
  ·subst e
   by_cases e':a=b
   ·subst e';exact Int.dvd_refl _
   ·exact hs.l a h1 (by omega) (by omega) (by omega) b b (by omega) h4 (by omega) h5
  ·exact hs.c a b h1 h2 (by omega) h4 h5
 l:=λa h1 h2 h3 h4 i j h5 h6 h7 h8=>by
  by_cases e:a=k
  ·subst e;exact hc.d i j (by omega) h6 (by omega) h8
  ·exact hs.l a h1 (by omega) h3 h4 i j (by omega) h6 (by omega) h8
theorem Stg.dia (hk:0<=k) (hs:Stg R C k u) (h:(R:Int)<=k\/(C:Int)<=k\/∀ i j:Int,k<=i->i<R->k<=j->j<C->u.d i j=0):Dia R C u.d where
 o:=λi j h1 h2 h3 h4 h5=>by
  by_cases c:i<k\/j<k
  ·exact hs.z i j h1 h2 h3 h4 h5 c
  ·rcases h with h | h | h
   ·omega
   ·omega
   ·exact h i j (by omega) h2 (by omega) h4
 n:=λi h1 h2 h3=>by
  by_cases c:i<k
  ·exact hs.n i h1 c h2 h3
  ·rcases h with h | h | h
   ·omega
   ·omega
   ·rw [h i i (by omega) h2 (by omega) h3];exact Int.le_refl _
 c:=λi j h1 h2 h3 h4=>by
  by_cases c:j<k
  ·exact hs.c i j h1 h2 c h3 h4
  ·rcases h with h | h | h
   ·omega
   ·omega
   ·rw [h j j (by omega) h3 (by omega) h4];exact ⟨0,(Int.mul_zero _).symm⟩
theorem Stg.zero:Stg R C 0 u:=⟨λi j h1 h2 h3 h4 _ h6=>by omega,λa h1 h2=>by omega,λa b h1 h2 h3=>by omega,λa h1 h2=>by omega⟩
theorem Red.sim (h:Red R C A v):Sim R C A v.d:=⟨v.l,v.r,h.d⟩
theorem Red.mis (h:Red R C A v):Sim R C v.d A:=⟨v.m,v.s,λi j h1 h2 h3 h4=>by
 have e:On R C (mm C (mm R v.m v.d) v.s) A:=by
  refine (On.mm (On.mm On.refl h.d) On.refl).trans ?_
  rw [<- mm_assoc,mm_assoc (C:=v.s)]
  refine (On.mm On.refl h.rs).trans (On.idr.trans ?_)
  rw [<- mm_assoc]
  exact (On.mm h.ml On.refl).trans On.idl
 exact (e i j h1 h2 h3 h4).symm⟩
theorem Red.start:Red R C A ⟨A,idM,idM,idM,idM⟩ where
 d:=(On.idl.symm).trans On.idr.symm
 lm:=On.idl
 ml:=On.idl
 rs:=On.idl
 sr:=On.idl
end Go.Proofs.Ytokekkacliomkaa.AE
end
section
namespace Go.Proofs.Ytokekkacliomkaa.AE
open Go Go.AE Go.Proofs
variable {R C F:Nat} {A:Mat} {i j k:Int}
theorem rowS_good {u:St} (h:u.good R C) (t f b:Int):(rowS u t f b).good R C:=by
 obtain ⟨g1,g2,g3,g4,g5⟩:=h
 exact ⟨g1.adR,g2.adR,g3.adC,g4,g5⟩
theorem colS_good {u:St} (h:u.good R C) (t f b:Int):(colS u t f b).good R C:=by
 obtain ⟨g1,g2,g3,g4,g5⟩:=h
 exact ⟨g1.adC,g2,g3,g4.adC,g5.adR⟩
theorem ab_neg (x:Int):ab (-x)=ab x:=by unfold ab;split <;> split <;> omega
theorem row_both (hR:R<=1000) (hC:C<=1000) (hF:5000000<F) {u:St} (hg:u.good R C) {t f q:Int} (ht0:0<=t) (ht:t<R) (hf0:0<=f) (hf:f<R) (htf:t≠f) (hq:ab q<=4000000000000) (hq0:q≠0) :
  ∃ bad',ef.p F R (mk R R u.l) R R (mk R R u.m) C (mk R C u.d) false t f (-q)=some (mk R R (rowS u t f (-q)).l,mk R R (rowS u t f (-q)).m,mk R C (rowS u t f (-q)).d,bad') /\
   (∃ x y z,yZ.p F C (mk R C u.d) R (mk R R u.l) R R (mk R R u.m) false t f q=some (x,y,z,bad')/\(bad'=false->x=mk R C (rowS u t f (-q)).d/\y=mk R R (rowS u t f (-q)).l/\z=mk R R (rowS u t f (-q)).m)) /\
   (bad'=false->¬ nfR C u.d t f (-q)/\¬ nfR R u.l t f (-q)/\¬ nfC R u.m f t (- -q)):=by
 obtain ⟨g1,g2,g3,g4,g5⟩:=hg
 have bq:=ab_bd hq
 have hq':ab (-q)<=4000000000000:=by rw [ab_neg];exact hq
 obtain ⟨b1,e1,h1⟩:=KQ (F:=F) (bad:=false) hR hC (by omega) g1 ht0 ht hf0 hf htf hq'
 obtain ⟨b2,e2,h2⟩:=KQ (F:=F) (bad:=b1) hR hR (by omega) g2 ht0 ht hf0 hf htf hq'
 obtain ⟨b3,e3,h3⟩:=KR (F:=F) (q:=- -q) (bad:=b2) hR hR (by omega) g3 hf0 hf ht0 ht (Ne.symm htf) (by rw [ab_neg];exact hq')
 refine ⟨b3,?_,?_,?_⟩
 ·unfold ef.p
  rw [e1,Option.bind_some]
  simp only []
  rw [e2,Option.bind_some]
  simp only []
  rw [aN (by omega) (by omega),Int.zero_sub,e3,Option.bind_some]
  rfl
 ·unfold yZ.p
  rw [show (q != 0)=true from bne_iff_ne.2 hq0,cond_true]
  obtain ⟨c1,x,f1,i1,j1⟩:=KS (F:=F) hR hC (by omega) g1 ht0 ht hf0 hf htf hq
  rw [f1,Option.bind_some]
  simp only []
  cases c1 with
  | true=>
   rw [KU (by omega),Option.bind_some]
   simp only []
   rw [KV (by omega),Option.bind_some]
   have hb:b3=true:=h3.2 (.inl (h2.2 (.inl (h1.2 (.inr (i1.1 rfl))))))
   subst hb
   exact ⟨_,_,_,rfl,λh=>by cases h⟩
  | false=>
   have n1:¬ nfR C u.d t f (-q):=λh=>by have:=i1.2 h;cases this
   obtain ⟨c2,y,f2,i2,j2⟩:=KS (F:=F) hR hR (by omega) g2 ht0 ht hf0 hf htf hq
   rw [f2,Option.bind_some]
   simp only []
   cases c2 with
   | true=>
    rw [KV (by omega),Option.bind_some]
    have hb:b3=true:=h3.2 (.inl (h2.2 (.inr (i2.1 rfl))))
    subst hb
    exact ⟨_,_,_,rfl,λh=>by cases h⟩
   | false=>
    have n2:¬ nfR R u.l t f (-q):=λh=>by have:=i2.2 h;cases this
    obtain ⟨c3,z,f3,i3,j3⟩:=KT (F:=F) (q:=-q) hR hR (by omega) g3 hf0 hf ht0 ht (Ne.symm htf) hq'
    rw [aN (by omega) (by omega),Int.zero_sub,f3,Option.bind_some]
    have hb:b3=c3:=by
     rw [Bool.eq_iff_iff,h3,i3]
     constructor
     ·rintro (h | h)
      ·rcases h2.1 h with h | h
       ·rcases h1.1 h with h | h
        ·cases h
        ·exact absurd h n1
       ·exact absurd h n2
      ·exact h
     ·exact λh=>.inr h
    subst hb
    exact ⟨_,_,_,rfl,λh=>⟨j1 rfl,j2 rfl,j3 h⟩⟩
 ·intro hb
  refine ⟨λhn=>?_,λhn=>?_,λhn=>?_⟩
  ·have:b3=true:=h3.2 (.inl (h2.2 (.inl (h1.2 (.inr hn)))))
   rw [hb] at this;cases this
  ·have:b3=true:=h3.2 (.inl (h2.2 (.inr hn)))
   rw [hb] at this;cases this
  ·have:b3=true:=h3.2 (.inr hn)
   rw [hb] at this;cases this
theorem col_both (hR:R<=1000) (hC:C<=1000) (hF:5000000<F) {u:St} (hg:u.good R C) {t f q:Int} (ht0:0<=t) (ht:t<C) (hf0:0<=f) (hf:f<C) (htf:t≠f) (hq:ab q<=4000000000000) (hq0:q≠0) :
  ∃ bad',fN.p F R C (mk R C u.d) C C (mk C C u.r) C (mk C C u.s) false t f (-q)=some (mk R C (colS u t f (-q)).d,mk C C (colS u t f (-q)).r,mk C C (colS u t f (-q)).s,bad') /\
   (∃ x y z,DN.p F R C (mk R C u.d) C C (mk C C u.r) C (mk C C u.s) false t f q=some (x,y,z,bad')/\(bad'=false->x=mk R C (colS u t f (-q)).d/\y=mk C C (colS u t f (-q)).r/\z=mk C C (colS u t f (-q)).s)) /\
   (bad'=false->¬ nfC R u.d t f (-q)/\¬ nfC C u.r t f (-q)/\¬ nfR C u.s f t (- -q)):=by
 obtain ⟨g1,g2,g3,g4,g5⟩:=hg
 have bq:=ab_bd hq
 have hq':ab (-q)<=4000000000000:=by rw [ab_neg];exact hq
 obtain ⟨b1,e1,h1⟩:=KR (F:=F) (bad:=false) hR hC (by omega) g1 ht0 ht hf0 hf htf hq'
 obtain ⟨b2,e2,h2⟩:=KR (F:=F) (bad:=b1) hC hC (by omega) g4 ht0 ht hf0 hf htf hq'
 obtain ⟨b3,e3,h3⟩:=KQ (F:=F) (q:=- -q) (bad:=b2) hC hC (by omega) g5 hf0 hf ht0 ht (Ne.symm htf) (by rw [ab_neg];exact hq')
 refine ⟨b3,?_,?_,?_⟩
 ·unfold fN.p
  rw [e1,Option.bind_some]
  simp only []
  rw [e2,Option.bind_some]
  simp only []
  rw [aN (by omega) (by omega),Int.zero_sub,e3,Option.bind_some]
  rfl
 ·unfold DN.p
  rw [show (q != 0)=true from bne_iff_ne.2 hq0,cond_true]
  obtain ⟨c1,x,f1,i1,j1⟩:=KT (F:=F) hR hC (by omega) g1 ht0 ht hf0 hf htf hq
  rw [f1,Option.bind_some]
  simp only []
  cases c1 with
  | true=>
   rw [KV (by omega),Option.bind_some]
   simp only []
   rw [KU (by omega),Option.bind_some]
   have hb:b3=true:=h3.2 (.inl (h2.2 (.inl (h1.2 (.inr (i1.1 rfl))))))
   subst hb
   exact ⟨_,_,_,rfl,λh=>by cases h⟩
  | false=>
   have n1:¬ nfC R u.d t f (-q):=λh=>by have:=i1.2 h;cases this
   obtain ⟨c2,y,f2,i2,j2⟩:=KT (F:=F) hC hC (by omega) g4 ht0 ht hf0 hf htf hq
   rw [f2,Option.bind_some]
   simp only []
   cases c2 with
   | true=>
    rw [KU (by omega),Option.bind_some]
    have hb:b3=true:=h3.2 (.inl (h2.2 (.inr (i2.1 rfl))))
    subst hb
    exact ⟨_,_,_,rfl,λh=>by cases h⟩
   | false=>
    have n2:¬ nfC C u.r t f (-q):=λh=>by have:=i2.2 h;cases this
    obtain ⟨c3,z,f3,i3,j3⟩:=KS (F:=F) (q:=-q) hC hC (by omega) g5 hf0 hf ht0 ht (Ne.symm htf) hq'
    rw [aN (by omega) (by omega),Int.zero_sub,f3,Option.bind_some]
    have hb:b3=c3:=by
     rw [Bool.eq_iff_iff,h3,i3]
     constructor
     ·rintro (h | h)
      ·rcases h2.1 h with h | h
       ·rcases h1.1 h with h | h
        ·cases h
        ·exact absurd h n1
       ·exact absurd h n2
      ·exact h
     ·exact λh=>.inr h
    subst hb
    exact ⟨_,_,_,rfl,λh=>⟨j1 rfl,j2 rfl,j3 h⟩⟩
 ·intro hb
  refine ⟨λhn=>?_,λhn=>?_,λhn=>?_⟩
  ·have:b3=true:=h3.2 (.inl (h2.2 (.inl (h1.2 (.inr hn)))))
   rw [hb] at this;cases this
  ·have:b3=true:=h3.2 (.inl (h2.2 (.inr hn)))
   rw [hb] at this;cases this
  ·have:b3=true:=h3.2 (.inr hn)
   rw [hb] at this;cases this
end Go.Proofs.Ytokekkacliomkaa.AE
end
section
namespace Go.Proofs.Ytokekkacliomkaa.AE
open Go Go.AE Go.Proofs
variable {R C F:Nat} {A:Mat} {i j k:Int}
abbrev i13 (F g R C:Nat) (u:St) (bad:Bool) (k i:Int):=aE.pl13 F g R (mk R R u.l) R R (mk R R u.m) R C (mk R C u.d) C C (mk C C u.r) C (mk C C u.s) bad k R C i
abbrev i4 (F R C:Nat) (u:St) (bad:Bool) (k:Int):=aE.pj4 F (mk R R u.l) (mk R R u.m) R C (mk R C u.d) C C (mk C C u.r) C (mk C C u.s) bad k C
abbrev i15 (F g R C:Nat) (u:St) (bad:Bool) (k j:Int):=aE.pl15 F g (mk R R u.l) (mk R R u.m) R C (mk R C u.d) C C (mk C C u.r) C (mk C C u.s) bad k C j
abbrev s29 (F g R C:Nat) (u:St) (bad:Bool) (k i:Int):=fx.pl29 F g R C (mk R C u.d) R (mk R R u.l) R R (mk R R u.m) C C (mk C C u.r) C (mk C C u.s) bad k i
abbrev s2 (F R C:Nat) (u:St) (bad:Bool) (k:Int):=fx.pj2 F R C (mk R C u.d) R (mk R R u.l) R R (mk R R u.m) C C (mk C C u.r) C (mk C C u.s) bad k
abbrev s61 (F g R C:Nat) (u:St) (bad:Bool) (k i:Int):=fx.pl61 F g R C (mk R C u.d) R (mk R R u.l) R R (mk R R u.m) C C (mk C C u.r) C (mk C C u.s) bad k i
abbrev s1 (F R C:Nat) (u:St) (bad:Bool) (k:Int):=fx.pj1 F R C (mk R C u.d) R (mk R R u.l) R R (mk R R u.m) (mk C C u.r) (mk C C u.s) bad k
theorem i15_bad {g:Nat} {l m d r s:List Int} {c6 c7 c9 c10 c13 k x j:Int}:aE.pl15 F (g+1) l m c6 c7 d c9 c10 r c13 s true k x j=some (true,l,m,d,r,s):=by
 rw [aE.pl15]
 cases decide (j<x) <;> rfl
theorem i13_bad {g:Nat} {l m d r s:List Int} {c1 c3 c4 c6 c7 c9 c10 c13 k x y i:Int} (hF:0<F):aE.pl13 F (g+1) c1 l c3 c4 m c6 c7 d c9 c10 r c13 s true k x y i=some (true,l,m,d,r,s):=by
 obtain ⟨f,rfl⟩:∃ f,F=f+1:=⟨F - 1,by omega⟩
 rw [aE.pl13]
 unfold aE.pj4
 cases decide (i<x)
 ·exact i15_bad
 ·exact i15_bad
theorem s61_bad {g:Nat} {l m d r s:List Int} {c0 c1 c4 c6 c7 c9 c10 c13 k i:Int}:fx.pl61 F (g+1) c0 c1 d c4 l c6 c7 m c9 c10 r c13 s true k i=some (false,false,d,l,m,r,s,true):=by
 rw [fx.pl61]
 cases decide (i<c1) <;> rfl
theorem s29_bad {g:Nat} {l m d r s:List Int} {c0 c1 c4 c6 c7 c9 c10 c13 k i:Int} (hF:0<F):fx.pl29 F (g+1) c0 c1 d c4 l c6 c7 m c9 c10 r c13 s true k i=some (false,false,d,l,m,r,s,true):=by
 obtain ⟨f,rfl⟩:∃ f,F=f+1:=⟨F - 1,by omega⟩
 rw [fx.pl29]
 unfold fx.pj2
 cases decide (i<c0)
 ·exact s61_bad
 ·exact s61_bad
theorem mod_eq {x p:Int}:x+p * -(x / p)=x % p:=by
 have:=Int.mul_ediv_add_emod x p
 rw [Int.mul_neg];omega
theorem quo_ne {x p:Int} (h:x / p=0):x % p=x:=by
 have:=Int.mul_ediv_add_emod x p
 rw [h] at this;omega
theorem clr_rows (hR:R<=1000) (hC:C<=1000) (hF:5000000<F) (hk:0<=k) (hkR:k<R) (hkC:k<C) {p:Int} (hp:0<p):∀ (n g h:Nat) (u:St) (i:Int),u.good R C->u.d k k=p->R - i=n->n+1<g->n+1<h->k<i ->
  (∃ v:St,v.good R C/\Rch R C k u v/\(∀ a b:Int,a<i->v.d a b=u.d a b)/\(∀ b:Int,0<=b->b<C->v.d k b=u.d k b)/\(∀ a:Int,i<=a->a<R->v.d a k=u.d a k % p)/\(∀ a:Int,0<=a->a<i->v.d a k=u.d a k) /\
   i13 F g R C u false k i=i4 F R C v false k/\s29 F h R C u false k i=s2 F R C v false k) \/
  (∃ l m d r s,i13 F g R C u false k i=some (true,l,m,d,r,s))/\(∃ l m d r s,s29 F h R C u false k i=some (false,false,d,l,m,r,s,true)):=by
 intro n
 induction n with
 | zero=>
  intro g h u i hu hkk hn hg hh hki
  obtain ⟨g,rfl⟩:∃ g',g=g'+1:=⟨g - 1,by omega⟩
  obtain ⟨h,rfl⟩:∃ g',h=g'+1:=⟨h - 1,by omega⟩
  left
  refine ⟨u,hu,.refl _,λ_ _ _=>rfl,λ_ _ _=>rfl,λa h1 h2=>by omega,λ_ _ _=>rfl,?_,?_⟩
  ·unfold i13
   rw [aE.pl13,show decide (i<(R:Int))=false from decide_eq_false (by omega),cond_false]
  ·unfold s29
   rw [fx.pl29,show decide (i<(R:Int))=false from decide_eq_false (by omega),cond_false]
 | succ n ih=>
  intro g h u i hu hkk hn hg hh hki
  obtain ⟨g,rfl⟩:∃ g',g=g'+1:=⟨g - 1,by omega⟩
  obtain ⟨h,rfl⟩:∃ g',h=g'+1:=⟨h - 1,by omega⟩
  have bik:=hu.1.ab (i:=i) (j:=k) (by omega) (by omega) hk hkC
  have bq:=(quo_bd hp bik).1
  have bq':=ab_bd bq
  unfold i13 s29
  rw [aE.pl13,show decide (i<(R:Int))=true from decide_eq_true (by omega),cond_true,Bool.not_false,cond_true]
  rw [fx.pl29,show decide (i<(R:Int))=true from decide_eq_true (by omega),cond_true,Bool.not_false,cond_true]
  simp (disch:=omega) only [at_mk,gD,hJ,Option.bind_some]
  rw [hkk,RT hp bik,RU hp bik,Option.bind_some,Option.bind_some]
  by_cases hq:u.d i k / p=0
  ·rw [hq,show ((0:Int) != 0)=false from rfl,cond_false]
   unfold aE.pj5 yZ.p
   rw [show ((0:Int) != 0)=false from rfl,cond_false,Option.bind_some,aN (by omega) (by omega)]
   rcases ih g h u (i+1) hu hkk (by omega) (by omega) (by omega) (by omega) with ⟨v,q1,qr,q0,q2,q3,q4,q5,q6⟩ | hbad
   ·left
    refine ⟨v,q1,qr,λa b h=>q0 a b (by omega),q2,λa h1 h2=>?_,λa h1 h2=>q4 a h1 (by omega),q5,q6⟩
    by_cases e:a=i
    ·subst e
     rw [q4 a (by omega) (by omega),quo_ne hq]
    ·exact q3 a (by omega) h2
   ·exact .inr hbad
  ·rw [show (u.d i k / p != 0)=true from bne_iff_ne.2 hq,cond_true,aN (x:=0 - u.d i k / p) (by omega) (by omega),Int.zero_sub]
   obtain ⟨bad',e1,⟨x,y,z,e2,e3⟩,e4⟩:=row_both (q:=u.d i k / p) hR hC hF hu (by omega:0<=i) (by omega) hk hkR (by omega) (by omega) hq
   rw [e1,e2,Option.bind_some,Option.bind_some]
   unfold aE.pj5
   rw [aN (x:=i+1) (by omega) (by omega)]
   simp only []
   cases bad' with
   | true=>
    right
    obtain ⟨g,rfl⟩:∃ g',g=g'+1:=⟨g - 1,by omega⟩
    obtain ⟨h,rfl⟩:∃ g',h=g'+1:=⟨h - 1,by omega⟩
    exact ⟨⟨_,_,_,_,_,i13_bad (by omega)⟩,⟨_,_,_,_,_,s29_bad (by omega)⟩⟩
   | false=>
    obtain ⟨rfl,rfl,rfl⟩:=e3 rfl
    have e4:=e4 rfl
    have key:∀ b:Int,0<=b->b<C->(rowS u i k (-(u.d i k / p))).d i b=u.d i b+u.d k b * -(u.d i k / p):=by
     intro b h1 h2
     show adR u.d i k (-(u.d i k / p)) i b=_
     unfold adR
     rw [if_pos rfl]
     apply ad_fit
     exact Classical.byContradiction λhh=>e4.1 ⟨b,h1,h2,hh⟩
    have oth:∀ a b,a≠i->(rowS u i k (-(u.d i k / p))).d a b=u.d a b:=by
     intro a b h1
     show adR u.d i k (-(u.d i k / p)) a b=_
     unfold adR
     rw [if_neg h1]
    rcases ih g h (rowS u i k (-(u.d i k / p))) (i+1) (rowS_good hu _ _ _) (by rw [oth k k (by omega)];exact hkk) (by omega) (by omega) (by omega) (by omega) with ⟨v,q1,qr,q0,q2,q3,q4,q5,q6⟩ | hbad
    ·left
     refine ⟨v,q1,(Rch.row u i k _ (by omega) (by omega) (by omega) (by omega) (by omega) e4.1 e4.2.1 e4.2.2).trans qr,λa b h=>(q0 a b (by omega)).trans (oth a b (by omega)),λb h1 h2=>?_,λa h1 h2=>?_,λa h1 h2=>?_,q5,q6⟩
     ·rw [q2 b h1 h2,oth k b (by omega)]
     ·by_cases e:a=i
      ·subst e
       rw [q4 a (by omega) (by omega),key k hk hkC,hkk,mod_eq]
      ·rw [q3 a (by omega) h2,oth a k e]
     ·rw [q4 a h1 (by omega),oth a k (by omega)]
    ·exact .inr hbad
theorem clr_cols (hR:R<=1000) (hC:C<=1000) (hF:5000000<F) (hk:0<=k) (hkR:k<R) (hkC:k<C) {p:Int} (hp:0<p):∀ (n g h:Nat) (u:St) (j:Int),u.good R C->u.d k k=p->C - j=n->n+1<g->n+1<h->k<j ->
  (∃ v:St,v.good R C/\Rch R C k u v/\(∀ a b:Int,b<j->v.d a b=u.d a b)/\(∀ a:Int,0<=a->a<R->v.d a k=u.d a k)/\(∀ b:Int,j<=b->b<C->v.d k b=u.d k b % p)/\(∀ b:Int,0<=b->b<j->v.d k b=u.d k b) /\
   i15 F g R C u false k j=some (false,mk R R v.l,mk R R v.m,mk R C v.d,mk C C v.r,mk C C v.s)/\s61 F h R C u false k j=s1 F R C v false k) \/
  (∃ l m d r s,i15 F g R C u false k j=some (true,l,m,d,r,s))/\(∃ l m d r s,s61 F h R C u false k j=some (false,false,d,l,m,r,s,true)):=by
 intro n
 induction n with
 | zero=>
  intro g h u i hu hkk hn hg hh hki
  obtain ⟨g,rfl⟩:∃ g',g=g'+1:=⟨g - 1,by omega⟩
  obtain ⟨h,rfl⟩:∃ g',h=g'+1:=⟨h - 1,by omega⟩
  left
  refine ⟨u,hu,.refl _,λ_ _ _=>rfl,λ_ _ _=>rfl,λa h1 h2=>by omega,λ_ _ _=>rfl,?_,?_⟩
  ·unfold i15
   rw [aE.pl15,show decide (i<(C:Int))=false from decide_eq_false (by omega),cond_false]
  ·unfold s61
   rw [fx.pl61,show decide (i<(C:Int))=false from decide_eq_false (by omega),cond_false]
 | succ n ih=>
  intro g h u j hu hkk hn hg hh hki
  obtain ⟨g,rfl⟩:∃ g',g=g'+1:=⟨g - 1,by omega⟩
  obtain ⟨h,rfl⟩:∃ g',h=g'+1:=⟨h - 1,by omega⟩
  have bik:=hu.1.ab (i:=k) (j:=j) hk hkR (by omega) (by omega)
  have bq:=(quo_bd hp bik).1
  have bq':=ab_bd bq
  unfold i15 s61
  rw [aE.pl15,show decide (j<(C:Int))=true from decide_eq_true (by omega),cond_true,Bool.not_false,cond_true]
  rw [fx.pl61,show decide (j<(C:Int))=true from decide_eq_true (by omega),cond_true,Bool.not_false,cond_true]
  simp (disch:=omega) only [at_mk,gD,hJ,Option.bind_some]
  rw [hkk,RT hp bik,RU hp bik,Option.bind_some,Option.bind_some]
  by_cases hq:u.d k j / p=0
  ·rw [hq,show ((0:Int) != 0)=false from rfl,cond_false]
   unfold aE.pj3 DN.p
   rw [show ((0:Int) != 0)=false from rfl,cond_false,Option.bind_some,aN (by omega) (by omega)]
   rcases ih g h u (j+1) hu hkk (by omega) (by omega) (by omega) (by omega) with ⟨v,q1,qr,q0,q2,q3,q4,q5,q6⟩ | hbad
   ·left
    refine ⟨v,q1,qr,λa b h=>q0 a b (by omega),q2,λa h1 h2=>?_,λa h1 h2=>q4 a h1 (by omega),q5,q6⟩
    by_cases e:a=j
    ·subst e
     rw [q4 a (by omega) (by omega),quo_ne hq]
    ·exact q3 a (by omega) h2
   ·exact .inr hbad
  ·rw [show (u.d k j / p != 0)=true from bne_iff_ne.2 hq,cond_true,aN (x:=0 - u.d k j / p) (by omega) (by omega),Int.zero_sub]
   obtain ⟨bad',e1,⟨x,y,z,e2,e3⟩,e4⟩:=col_both (q:=u.d k j / p) hR hC hF hu (by omega:0<=j) (by omega) hk hkC (by omega) (by omega) hq
   rw [e1,e2,Option.bind_some,Option.bind_some]
   unfold aE.pj3
   rw [aN (x:=j+1) (by omega) (by omega)]
   simp only []
   cases bad' with
   | true=>
    right
    obtain ⟨g,rfl⟩:∃ g',g=g'+1:=⟨g - 1,by omega⟩
    obtain ⟨h,rfl⟩:∃ g',h=g'+1:=⟨h - 1,by omega⟩
    exact ⟨⟨_,_,_,_,_,i15_bad⟩,⟨_,_,_,_,_,s61_bad⟩⟩
   | false=>
    obtain ⟨rfl,rfl,rfl⟩:=e3 rfl
    have e4:=e4 rfl
    have key:∀ a:Int,0<=a->a<R->(colS u j k (-(u.d k j / p))).d a j=u.d a j+u.d a k * -(u.d k j / p):=by
     intro b h1 h2
     show adC u.d j k (-(u.d k j / p)) b j=_
     unfold adC
     rw [if_pos rfl]
     apply ad_fit
     exact Classical.byContradiction λhh=>e4.1 ⟨b,h1,h2,hh⟩
    have oth:∀ a b,b≠j->(colS u j k (-(u.d k j / p))).d a b=u.d a b:=by
     intro a b h1
     show adC u.d j k (-(u.d k j / p)) a b=_
     unfold adC
     rw [if_neg h1]
    rcases ih g h (colS u j k (-(u.d k j / p))) (j+1) (colS_good hu _ _ _) (by rw [oth k k (by omega)];exact hkk) (by omega) (by omega) (by omega) (by omega) with ⟨v,q1,qr,q0,q2,q3,q4,q5,q6⟩ | hbad
    ·left
     refine ⟨v,q1,(Rch.col u j k _ (by omega) (by omega) (by omega) (by omega) (by omega) e4.1 e4.2.1 e4.2.2).trans qr,λa b h=>(q0 a b (by omega)).trans (oth a b (by omega)),λb h1 h2=>?_,λa h1 h2=>?_,λa h1 h2=>?_,q5,q6⟩
     ·rw [q2 b h1 h2,oth b k (by omega)]
     ·by_cases e:a=j
      ·subst e
       rw [q4 a (by omega) (by omega),key k hk hkR,hkk,mod_eq]
      ·rw [q3 a (by omega) h2,oth k a e]
     ·rw [q4 a h1 (by omega),oth k a (by omega)]
    ·exact .inr hbad
theorem clr_both (hR:R<=1000) (hC:C<=1000) (hF:5000000<F) (hk:0<=k) (hkR:k<R) (hkC:k<C) {p:Int} (hp:0<p) {u:St} (hu:u.good R C) (hkk:u.d k k=p) :
  (∃ v:St,v.good R C/\Rch R C k u v/\(∀ a b:Int,a<k->b<k->v.d a b=u.d a b)/\v.d k k=p/\(∀ a:Int,k<a->a<R->v.d a k=u.d a k % p)/\(∀ b:Int,k<b->b<C->v.d k b=u.d k b % p) /\
   aE.p F R (mk R R u.l) R R (mk R R u.m) R C (mk R C u.d) C C (mk C C u.r) C (mk C C u.s) false k=some (false,mk R R v.l,mk R R v.m,mk R C v.d,mk C C v.r,mk C C v.s)/\s29 F F R C u false k (IntKind.i64.wrap (k+1))=s1 F R C v false k) \/
  (∃ l m d r s,aE.p F R (mk R R u.l) R R (mk R R u.m) R C (mk R C u.d) C C (mk C C u.r) C (mk C C u.s) false k=some (true,l,m,d,r,s))/\(∃ l m d r s,s29 F F R C u false k (IntKind.i64.wrap (k+1))=some (false,false,d,l,m,r,s,true)):=by
 unfold aE.p
 rw [aN (x:=k+1) (by omega) (by omega)]
 rcases clr_rows hR hC hF hk hkR hkC hp (R - (k+1)).toNat F F u (k+1) hu hkk (by omega) (by omega) (by omega) (by omega) with ⟨v,q1,qr,q0,q2,q3,q4,q5,q6⟩ | ⟨h1,h2⟩
 ·rcases clr_cols hR hC hF hk hkR hkC hp (C - (k+1)).toNat F F v (k+1) q1 (by rw [q4 k hk (by omega)];exact hkk) (by omega) (by omega) (by omega) (by omega) with ⟨w,p1,pr,p0,p2,p3,p4,p5,p6⟩ | ⟨h1,h2⟩
  ·left
   refine ⟨w,p1,qr.trans pr,λa b h1 h2=>(p0 a b (by omega)).trans (q0 a b (by omega)),by rw [p2 k hk hkR,q4 k hk (by omega)];exact hkk,λa h1 h2=>by rw [p2 a (by omega) h2,q3 a (by omega) h2],λb h1 h2=>by rw [p3 b (by omega) h2,q2 b (by omega) h2],?_,?_⟩
   ·rw [show aE.pl13 F F R (mk R R u.l) R R (mk R R u.m) R C (mk R C u.d) C C (mk C C u.r) C (mk C C u.s) false k R C (k+1)=_ from q5]
    unfold i4 aE.pj4
    rw [aN (x:=k+1) (by omega) (by omega)]
    exact p5
   ·rw [q6]
    unfold s2 fx.pj2
    rw [aN (x:=k+1) (by omega) (by omega)]
    exact p6
  ·right
   obtain ⟨a1,a2,a3,a4,a5,h1⟩:=h1
   obtain ⟨b1,b2,b3,b4,b5,h2⟩:=h2
   refine ⟨⟨a1,a2,a3,a4,a5,?_⟩,⟨b1,b2,b3,b4,b5,?_⟩⟩
   ·rw [show aE.pl13 F F R (mk R R u.l) R R (mk R R u.m) R C (mk R C u.d) C C (mk C C u.r) C (mk C C u.s) false k R C (k+1)=_ from q5]
    unfold i4 aE.pj4
    rw [aN (x:=k+1) (by omega) (by omega)]
    exact h1
   ·rw [q6]
    unfold s2 fx.pj2
    rw [aN (x:=k+1) (by omega) (by omega)]
    exact h2
 ·exact .inr ⟨h1,h2⟩
end Go.Proofs.Ytokekkacliomkaa.AE
end
section
namespace Go.Proofs.Ytokekkacliomkaa.AE
open Go Go.AE Go.Proofs
variable {R C F:Nat} {A:Mat} {i j k:Int}
theorem cutf_row (hR:R<=1000) (hC:C<=1000) (hk0:0<=k) (hk:k<R):∃ x,ee.p F C (mk R C A) k=some x/\x.length=C/\∀ n:Nat,n<C->gt x n=A k n:=by
 obtain ⟨k,rfl⟩:=Int.eq_ofNat_of_zero_le hk0
 have h1:(k+1) * C<=R * C:=Nat.mul_le_mul_right _ (by omega)
 have h2:R * C<=1000 * 1000:=Nat.mul_le_mul hR hC
 have h3:(k+1) * C=k * C+C:=Nat.succ_mul _ _
 unfold ee.p
 rw [aN (x:=(k:Int)+1) (by omega) (by omega),show (k:Int)+1=((k+1:Nat):Int) by omega,<-Int.natCast_mul,<-Int.natCast_mul,aN (by omega) (by omega),aN (by omega) (by omega)]
 unfold cutf
 rw [if_pos (by rw [gP];omega),Option.bind_some]
 refine ⟨_,rfl,?_,?_⟩
 ·rw [List.length_drop,List.length_take,gP]
  omega
 ·intro n hn
  unfold gt
  rw [List.getD_eq_getElem?_getD,List.getElem?_drop,List.getElem?_take_of_lt (by omega),Int.toNat_natCast,zn hn (by omega)]
  rfl
theorem cutf_end {x:List Int} (hk0:0<=k) (hk:k<=x.length):∃ y,cutf x k (x.length:Int)=some y/\(y.length:Int)=x.length - k/\∀ n:Nat,gt y n=gt x (k.toNat+n):=by
 unfold cutf
 rw [if_pos (by omega)]
 refine ⟨_,rfl,?_,?_⟩
 ·rw [List.length_drop,List.length_take];omega
 ·intro n
  unfold gt
  rw [List.getD_eq_getElem?_getD,List.getD_eq_getElem?_getD,List.getElem?_drop,Int.toNat_natCast,List.take_length]
theorem idx_155 {y:List Int} (hy:y.length<=1000):∀ (n g:Nat) (i:Int),y.length - i=n->n<g->0<=i ->
  ∃ r,cM.pl13 F g y y.length i=some r/\(r>=0↔∃ a:Int,i<=a/\a<y.length/\gt y a.toNat≠0):=by
 intro n
 induction n with
 | zero=>
  intro g i hn hg hi
  obtain ⟨g,rfl⟩:∃ g',g=g'+1:=⟨g - 1,by omega⟩
  rw [cM.pl13,show decide (i<(y.length:Int))=false from decide_eq_false (by omega),cond_false]
  exact ⟨_,rfl,⟨λh=>absurd h (by decide),λ⟨a,h1,h2,_⟩=>by omega⟩⟩
 | succ n ih=>
  intro g i hn hg hi
  obtain ⟨g,rfl⟩:∃ g',g=g'+1:=⟨g - 1,by omega⟩
  rw [cM.pl13,show decide (i<(y.length:Int))=true from decide_eq_true (by omega),cond_true]
  unfold ix iO.p
  rw [if_pos (by omega),Option.bind_some,Option.bind_some]
  by_cases h:gt y i.toNat=0
  ·rw [h,show ((0:Int) != 0)=false from rfl,cond_false,aN (by omega) (by omega)]
   obtain ⟨r,e,hr⟩:=ih g (i+1) (by omega) (by omega) (by omega)
   refine ⟨r,e,hr.trans ⟨λ⟨a,h1,h2,h3⟩=>⟨a,by omega,h2,h3⟩,λ⟨a,h1,h2,h3⟩=>?_⟩⟩
   by_cases e:a=i
   ·subst e;exact absurd h h3
   ·exact ⟨a,by omega,h2,h3⟩
  ·rw [show (gt y i.toNat != 0)=true from bne_iff_ne.2 h,cond_true]
   exact ⟨_,rfl,⟨λ_=>⟨i,by omega,by omega,h⟩,λ_=>hi⟩⟩
theorem isClear_l (hR:R<=1000) (hC:C<=1000) (hF:5000000<F) (hk:0<=k) (hkR:k<R) (hkC:k<C):∀ (n g:Nat) (i:Int),R - i=n->n<g->k<i ->
  ∃ b:Bool,bR.pl29 F g k R C (mk R C A) i=some b/\(b=true↔(∀ a:Int,i<=a->a<R->A a k=0)/\(∀ a:Int,k<a->a<C->A k a=0)):=by
 intro n
 induction n with
 | zero=>
  intro g i hn hg hi
  obtain ⟨g,rfl⟩:∃ g',g=g'+1:=⟨g - 1,by omega⟩
  rw [bR.pl29,show decide (i<(R:Int))=false from decide_eq_false (by omega),cond_false]
  unfold bR.pj1
  obtain ⟨x,ex,xl,xg⟩:=cutf_row (F:=F) (A:=A) hR hC hk hkR
  rw [ex,Option.bind_some,aN (by omega) (by omega)]
  obtain ⟨y,ey,yl,yg⟩:=cutf_end (x:=x) (k:=k+1) (by omega) (by omega)
  rw [ey,Option.bind_some]
  unfold gJ.p cM.p
  obtain ⟨r,er,hr⟩:=idx_155 (F:=F) (y:=y) (by omega) y.length F 0 (by omega) (by omega) (by omega)
  rw [er,Option.bind_some,Option.bind_some]
  refine ⟨_,rfl,?_⟩
  have:(!decide (r>=0))=true↔¬ (r>=0):=by simp
  rw [this,hr]
  constructor
  ·intro h
   refine ⟨λa h1 h2=>by omega,λa h1 h2=>?_⟩
   refine Classical.byContradiction λhne=>h ⟨a - (k+1),by omega,by omega,?_⟩
   rw [yg,show (k+1).toNat+(a - (k+1)).toNat=a.toNat by omega,xg _ (by omega),Int.toNat_of_nonneg (by omega)]
   exact hne
  ·rintro ⟨_,h⟩ ⟨a,h1,h2,h3⟩
   apply h3
   rw [yg,xg _ (by omega),show (((k+1).toNat+a.toNat:Nat):Int)=k+1+a by omega]
   exact h _ (by omega) (by omega)
 | succ n ih=>
  intro g i hn hg hi
  obtain ⟨g,rfl⟩:∃ g',g=g'+1:=⟨g - 1,by omega⟩
  rw [bR.pl29,show decide (i<(R:Int))=true from decide_eq_true (by omega),cond_true]
  simp (disch:=omega) only [gD,hJ,Option.bind_some]
  by_cases h:A i k=0
  ·rw [h,show ((0:Int) != 0)=false from rfl,cond_false,aN (by omega) (by omega)]
   obtain ⟨b,e,hb⟩:=ih g (i+1) (by omega) (by omega) (by omega)
   refine ⟨b,e,hb.trans ⟨λ⟨h1,h2⟩=>⟨λa h3 h4=>?_,h2⟩,λ⟨h1,h2⟩=>⟨λa h3 h4=>h1 a (by omega) h4,h2⟩⟩⟩
   by_cases e:a=i
   ·subst e;exact h
   ·exact h1 a (by omega) h4
  ·rw [show (A i k != 0)=true from bne_iff_ne.2 h,cond_true]
   exact ⟨_,rfl,⟨λh=>(by cases h),λ⟨h1,_⟩=>absurd (h1 i (by omega) (by omega)) h⟩⟩
theorem specClear_in (hR:R<=1000) (hC:C<=1000) (hk:0<=k) (hkR:k<R) (hkC:k<C):∀ (n g:Nat) (j:Int),C - j=n->n<g->k<j ->
  ∃ b:Bool,jA.pl29 F g C (mk R C A) k j=some b/\(b=true↔(∀ a:Int,j<=a->a<C->A k a=0)):=by
 intro n
 induction n with
 | zero=>
  intro g i hn hg hi
  obtain ⟨g,rfl⟩:∃ g',g=g'+1:=⟨g - 1,by omega⟩
  rw [jA.pl29,show decide (i<(C:Int))=false from decide_eq_false (by omega),cond_false]
  exact ⟨_,rfl,⟨λ_ a h1 h2=>by omega,λ_=>rfl⟩⟩
 | succ n ih=>
  intro g i hn hg hi
  obtain ⟨g,rfl⟩:∃ g',g=g'+1:=⟨g - 1,by omega⟩
  rw [jA.pl29,show decide (i<(C:Int))=true from decide_eq_true (by omega),cond_true]
  simp (disch:=omega) only [at_mk,Option.bind_some]
  by_cases h:A k i=0
  ·rw [h,show ((0:Int) != 0)=false from rfl,cond_false,aN (by omega) (by omega)]
   obtain ⟨b,e,hb⟩:=ih g (i+1) (by omega) (by omega) (by omega)
   refine ⟨b,e,hb.trans ⟨λh1 a h3 h4=>?_,λh1 a h3 h4=>h1 a (by omega) h4⟩⟩
   by_cases e:a=i
   ·subst e;exact h
   ·exact h1 a (by omega) h4
  ·rw [show (A k i != 0)=true from bne_iff_ne.2 h,cond_true]
   exact ⟨_,rfl,⟨λh=>(by cases h),λh1=>absurd (h1 i (by omega) (by omega)) h⟩⟩
theorem specClear_l (hR:R<=1000) (hC:C<=1000) (hF:5000000<F) (hk:0<=k) (hkR:k<R) (hkC:k<C):∀ (n g:Nat) (i:Int),R - i=n->n<g->k<i ->
  ∃ b:Bool,jA.pl13 F g R C (mk R C A) k i=some b/\(b=true↔(∀ a:Int,i<=a->a<R->A a k=0)/\(∀ a:Int,k<a->a<C->A k a=0)):=by
 intro n
 induction n with
 | zero=>
  intro g i hn hg hi
  obtain ⟨g,rfl⟩:∃ g',g=g'+1:=⟨g - 1,by omega⟩
  rw [jA.pl13,show decide (i<(R:Int))=false from decide_eq_false (by omega),cond_false]
  unfold jA.pj1
  rw [aN (by omega) (by omega)]
  obtain ⟨b,e,hb⟩:=specClear_in (F:=F) (A:=A) hR hC hk hkR hkC (C - (k+1)).toNat F (k+1) (by omega) (by omega) (by omega)
  exact ⟨b,e,hb.trans ⟨λh=>⟨λa h1 h2=>by omega,λa h1 h2=>h a (by omega) h2⟩,λ⟨_,h⟩ a h1 h2=>h a (by omega) h2⟩⟩
 | succ n ih=>
  intro g i hn hg hi
  obtain ⟨g,rfl⟩:∃ g',g=g'+1:=⟨g - 1,by omega⟩
  rw [jA.pl13,show decide (i<(R:Int))=true from decide_eq_true (by omega),cond_true]
  simp (disch:=omega) only [at_mk,Option.bind_some]
  by_cases h:A i k=0
  ·rw [h,show ((0:Int) != 0)=false from rfl,cond_false,aN (by omega) (by omega)]
   obtain ⟨b,e,hb⟩:=ih g (i+1) (by omega) (by omega) (by omega)
   refine ⟨b,e,hb.trans ⟨λ⟨h1,h2⟩=>⟨λa h3 h4=>?_,h2⟩,λ⟨h1,h2⟩=>⟨λa h3 h4=>h1 a (by omega) h4,h2⟩⟩⟩
   by_cases e:a=i
   ·subst e;exact h
   ·exact h1 a (by omega) h4
  ·rw [show (A i k != 0)=true from bne_iff_ne.2 h,cond_true]
   exact ⟨_,rfl,⟨λh=>(by cases h),λ⟨h1,_⟩=>absurd (h1 i (by omega) (by omega)) h⟩⟩
theorem clear_both (hR:R<=1000) (hC:C<=1000) (hF:5000000<F) (hk:0<=k) (hkR:k<R) (hkC:k<C) :
  ∃ b:Bool,bR.p F R C (mk R C A) k=some b/\jA.p F R C (mk R C A) k=some b/\(b=true↔(∀ a:Int,k<a->a<R->A a k=0)/\(∀ a:Int,k<a->a<C->A k a=0)):=by
 obtain ⟨b,e,hb⟩:=isClear_l (F:=F) (A:=A) hR hC hF hk hkR hkC (R - (k+1)).toNat F (k+1) (by omega) (by omega) (by omega)
 obtain ⟨c,e',hc⟩:=specClear_l (F:=F) (A:=A) hR hC hF hk hkR hkC (R - (k+1)).toNat F (k+1) (by omega) (by omega) (by omega)
 have:b=c:=by rw [Bool.eq_iff_iff,hb,hc]
 subst this
 unfold bR.p jA.p
 rw [aN (by omega) (by omega)]
 exact ⟨b,e,e',hb⟩
theorem idx_156 {y:List Int} (hR:R<=1000) (hC:C<=1000) (hk:0<=k) (hkR:k<R) (hkC:k<C) (hp:A k k≠0) (hy:y.length<=1000):∀ (n g:Nat) (i:Int),y.length - i=n->n<g->0<=i ->
  ∃ r,cN.pl13 F g y C (mk R C A) k y.length i=some r/\(r>=0↔∃ a:Int,i<=a/\a<y.length/\Int.tmod (gt y a.toNat) (A k k)≠0):=by
 intro n
 induction n with
 | zero=>
  intro g i hn hg hi
  obtain ⟨g,rfl⟩:∃ g',g=g'+1:=⟨g - 1,by omega⟩
  rw [cN.pl13,show decide (i<(y.length:Int))=false from decide_eq_false (by omega),cond_false]
  exact ⟨_,rfl,⟨λh=>absurd h (by decide),λ⟨a,h1,h2,_⟩=>by omega⟩⟩
 | succ n ih=>
  intro g i hn hg hi
  obtain ⟨g,rfl⟩:∃ g',g=g'+1:=⟨g - 1,by omega⟩
  rw [cN.pl13,show decide (i<(y.length:Int))=true from decide_eq_true (by omega),cond_true]
  unfold gT.p
  rw [gD hR hC hk hkR hk hkC]
  unfold ix
  rw [if_pos (by omega),Option.bind_some,Option.bind_some,hJ hk hkR hk hkC,if_neg hp,Option.bind_some]
  by_cases h:Int.tmod (gt y i.toNat) (A k k)=0
  ·rw [h,show ((0:Int) != 0)=false from rfl,cond_false,aN (by omega) (by omega)]
   obtain ⟨r,e,hr⟩:=ih g (i+1) (by omega) (by omega) (by omega)
   refine ⟨r,e,hr.trans ⟨λ⟨a,h1,h2,h3⟩=>⟨a,by omega,h2,h3⟩,λ⟨a,h1,h2,h3⟩=>?_⟩⟩
   by_cases e:a=i
   ·subst e;exact absurd h h3
   ·exact ⟨a,by omega,h2,h3⟩
  ·rw [show (Int.tmod (gt y i.toNat) (A k k) != 0)=true from bne_iff_ne.2 h,cond_true]
   exact ⟨_,rfl,⟨λ_=>⟨i,by omega,by omega,h⟩,λ_=>hi⟩⟩
theorem specOdd_in (hR:R<=1000) (hC:C<=1000) (hk:0<=k) (hkR:k<R) (hkC:k<C) (hp:A k k≠0) (hi:k<i) (hiR:i<R) {pC}:∀ (n g:Nat) (j:Int),C - j=n->n<g->k<j ->
  ((∃ b:Int,j<=b/\b<C/\Int.tmod (A i b) (A k k)≠0)/\iF.pl213 F pC g R C (mk R C A) k i j=some i) \/
  ((∀ b:Int,j<=b->b<C->Int.tmod (A i b) (A k k)=0)/\iF.pl213 F pC g R C (mk R C A) k i j=pC R C (mk R C A) k (i+1)):=by
 intro n
 induction n with
 | zero=>
  intro g j hn hg hj
  obtain ⟨g,rfl⟩:∃ g',g=g'+1:=⟨g - 1,by omega⟩
  rw [iF.pl213,show decide (j<(C:Int))=false from decide_eq_false (by omega),cond_false]
  unfold iF.pj4 iF.pj3
  rw [aN (by omega) (by omega)]
  exact .inr ⟨λb h1 h2=>by omega,rfl⟩
 | succ n ih=>
  intro g j hn hg hj
  obtain ⟨g,rfl⟩:∃ g',g=g'+1:=⟨g - 1,by omega⟩
  rw [iF.pl213,show decide (j<(C:Int))=true from decide_eq_true (by omega),cond_true]
  simp (disch:=omega) only [at_mk,Option.bind_some]
  rw [if_neg hp]
  by_cases h:Int.tmod (A i j) (A k k)=0
  ·rw [h,show ((0:Int) != 0)=false from rfl,cond_false,aN (by omega) (by omega)]
   rcases ih g (j+1) (by omega) (by omega) (by omega) with ⟨⟨b,h1,h2,h3⟩,e⟩ | ⟨h1,e⟩
   ·exact .inl ⟨⟨b,by omega,h2,h3⟩,e⟩
   ·refine .inr ⟨λb h3 h4=>?_,e⟩
    by_cases e:b=j
    ·subst e;exact h
    ·exact h1 b (by omega) h4
  ·rw [show (Int.tmod (A i j) (A k k) != 0)=true from bne_iff_ne.2 h,cond_true]
   exact .inl ⟨⟨j,by omega,by omega,h⟩,rfl⟩
theorem odd_l (hR:R<=1000) (hC:C<=1000) (hF:5000000<F) (hk:0<=k) (hkR:k<R) (hkC:k<C) (hp:A k k≠0):∀ (n g h:Nat) (i:Int),R - i=n->n<g->n<h->k<i ->
  ∃ r:Int,ch.pl29 F g k R C (mk R C A) i=some r/\iF.pl13 F h R C (mk R C A) k i=some r/\((r=-1/\∀ a b:Int,i<=a->a<R->k<b->b<C->Int.tmod (A a b) (A k k)=0)\/(k<r/\r<R/\∃ b:Int,k<b/\b<C/\Int.tmod (A r b) (A k k)≠0)):=by
 intro n
 induction n with
 | zero=>
  intro g h i hn hg hh hi
  obtain ⟨g,rfl⟩:∃ g',g=g'+1:=⟨g - 1,by omega⟩
  obtain ⟨h,rfl⟩:∃ g',h=g'+1:=⟨h - 1,by omega⟩
  rw [ch.pl29,iF.pl13,show decide (i<(R:Int))=false from decide_eq_false (by omega),cond_false,cond_false]
  exact ⟨-1,rfl,rfl,.inl ⟨rfl,λa b h1 h2=>by omega⟩⟩
 | succ n ih=>
  intro g h i hn hg hh hi
  obtain ⟨g,rfl⟩:∃ g',g=g'+1:=⟨g - 1,by omega⟩
  obtain ⟨h,rfl⟩:∃ g',h=g'+1:=⟨h - 1,by omega⟩
  rw [ch.pl29,iF.pl13,show decide (i<(R:Int))=true from decide_eq_true (by omega),cond_true,cond_true]
  obtain ⟨x,ex,xl,xg⟩:=cutf_row (F:=F) (A:=A) (k:=i) hR hC (by omega) (by omega)
  rw [ex,Option.bind_some,aN (x:=k+1) (by omega) (by omega)]
  obtain ⟨y,ey,yl,yg⟩:=cutf_end (x:=x) (k:=k+1) (by omega) (by omega)
  rw [ey,Option.bind_some]
  unfold gU.p cN.p
  obtain ⟨r,er,hr⟩:=idx_156 (F:=F) (y:=y) hR hC hk hkR hkC hp (by omega) y.length F 0 (by omega) (by omega) (by omega)
  rw [er,Option.bind_some,Option.bind_some]
  have yv:∀ a:Int,0<=a->a<y.length->gt y a.toNat=A i (k+1+a):=by
   intro a h1 h2
   rw [yg,xg _ (by omega),show (((k+1).toNat+a.toNat:Nat):Int)=k+1+a by omega]
  rcases specOdd_in (F:=F) (pC:=iF.pl13 F h) hR hC hk hkR hkC hp hi (by omega) (C - (k+1)).toNat F (k+1) (by omega) (by omega) (by omega) with ⟨⟨b,h1,h2,h3⟩,e⟩ | ⟨h1,e⟩
  ·have:r>=0:=hr.2 ⟨b - (k+1),by omega,by omega,by rw [yv _ (by omega) (by omega),show k+1+(b - (k+1))=b by omega];exact h3⟩
   rw [decide_eq_true this,cond_true,e]
   exact ⟨i,rfl,rfl,.inr ⟨hi,by omega,b,by omega,h2,h3⟩⟩
  ·have:¬ r>=0:=by
    rw [hr]
    rintro ⟨a,h2,h3,h4⟩
    rw [yv a h2 h3] at h4
    exact h4 (h1 _ (by omega) (by omega))
   rw [decide_eq_false this,cond_false,e,aN (by omega) (by omega)]
   obtain ⟨s,f1,f2,f3⟩:=ih g h (i+1) (by omega) (by omega) (by omega) (by omega)
   refine ⟨s,f1,f2,f3.imp (λ⟨q,hq⟩=>⟨q,λa b h3 h4 h5 h6=>?_⟩) id⟩
   by_cases ea:a=i
   ·rw [ea];exact h1 b (by omega) h6
   ·exact hq a b (by omega) h4 h5 h6
theorem odd_both (hR:R<=1000) (hC:C<=1000) (hF:5000000<F) (hk:0<=k) (hkR:k<R) (hkC:k<C) (hp:A k k≠0) :
  ∃ r:Int,ch.p F R C (mk R C A) k=some r/\iF.p F R C (mk R C A) k=some r/\((r=-1/\∀ a b:Int,k+1<=a->a<R->k<b->b<C->Int.tmod (A a b) (A k k)=0)\/(k<r/\r<R/\∃ b:Int,k<b/\b<C/\Int.tmod (A r b) (A k k)≠0)):=by
 unfold ch.p iF.p
 rw [aN (by omega) (by omega)]
 exact odd_l hR hC hF hk hkR hkC hp (R - (k+1)).toNat F F (k+1) (by omega) (by omega) (by omega) (by omega)
end Go.Proofs.Ytokekkacliomkaa.AE
end
section
namespace Go.Proofs.Ytokekkacliomkaa.AE
open Go Go.AE Go.Proofs
variable {R C F:Nat} {A:Mat} {i j k:Int}
abbrev ir (F g R C:Nat) (u:St) (bad:Bool) (k:Int):=aV.pl3 F g R (mk R R u.l) R R (mk R R u.m) R C (mk R C u.d) C C (mk C C u.r) C (mk C C u.s) bad k
abbrev sr (F R C:Nat) (u:St) (k:Int):=fx.p F R C (mk R C u.d) R (mk R R u.l) R R (mk R R u.m) C C (mk C C u.r) C (mk C C u.s) false k
theorem ir_bad {g:Nat} {l m d r s:List Int} {c1 c3 c4 c6 c7 c9 c10 c13 k:Int}:aV.pl3 F (g+1) c1 l c3 c4 m c6 c7 d c9 c10 r c13 s true k=some (l,m,d,r,s,true):=by
 rw [aV.pl3];rfl
def Ust (R C:Nat) (k:Int) (u:St) (P:Int):Prop:=u.d k k=P/\(∀ a:Int,k<a->a<R->u.d a k=0)/\∃ b:Int,k<b/\b<C/\Int.tmod (u.d k b) P≠0
def HasLt (R C:Nat) (k:Int) (u:St) (P:Int):Prop:=∃ a b:Int,k<=a/\a<R/\k<=b/\b<C/\u.d a b≠0/\ab (u.d a b)<P
def Same (k:Int) (u v:St):Prop:=∀ a:Int,0<=a->a<k->v.d a a=u.d a a
theorem pv_same {u:St} {p q k:Int} (hp:k<=p) (hq:k<=q):Same k u (pvS u p q k):=by
 intro a _ h2
 have e:(swS u p q k).d a a=u.d a a:=by
  show swC (swR u.d p k) q k a a=_
  unfold swC swR sw
  rw [if_neg (by omega),if_neg (by omega),if_neg (by omega),if_neg (by omega)]
 unfold pvS
 split
 ·show (ngS (swS u p q k) k).d a a=_
  rw [<- e]
  unfold ngS
  simp only
  first | rw [ngR_ne (by omega)] | (unfold ngR;rw [if_neg (by omega)])
 ·exact e
theorem round_both (hR:R<=1000) (hC:C<=1000) (hF:5000000<F) (hk:0<=k) (hkR:k<R) (hkC:k<C) {u:St} (hu:u.good R C) (g:Nat) :
  ((∀ a b,k<=a->a<R->k<=b->b<C->u.d a b=0)/\ir F (g+1) R C u false k=some (mk R R u.l,mk R R u.m,mk R C u.d,mk C C u.r,mk C C u.s,false)/\sr F R C u k=some (true,true,mk R C u.d,mk R R u.l,mk R R u.m,mk C C u.r,mk C C u.s,false)) \/
  ∃ p q,SI k C u.d R k (some (p,q)) /\
   (((∃ l m d r s,ir F (g+2) R C u false k=some (l,m,d,r,s,true))/\(∃ l m d r s,sr F R C u k=some (false,false,d,l,m,r,s,true))) \/
   (∃ v:St,v.good R C/\ir F (g+1) R C u false k=ir F g R C v false k/\sr F R C u k=some (false,false,mk R C v.d,mk R R v.l,mk R R v.m,mk C C v.r,mk C C v.s,false) /\
    Same k u v/\Rch R C k u v/\(HasLt R C k v (ab (u.d p q))\/(Ust R C k v (ab (u.d p q))/\∀ b:Int,k<b->b<C->(pvS u p q k).d k b % ab (u.d p q)=0))) \/
   (∃ v:St,v.good R C/\ir F (g+1) R C u false k=ir F g R C v false (k+1)/\sr F R C u k=some (true,false,mk R C v.d,mk R R v.l,mk R R v.m,mk C C v.r,mk C C v.s,false)/\0<v.d k k/\Same k u v/\Rch R C k u v/\Clr R C k v)):=by
 unfold ir sr fx.p
 have hmin:k<(if (C:Int)<R then (C:Int) else R):=by split <;> omega
 rcases pivot_both hR hC hF hu hk hkR hkC with ⟨h0,e1,e2⟩ | ⟨p,q,hs,w,hw,hwg,hwk,e1,e2⟩
 ·left
  refine ⟨h0,?_,?_⟩
  ·rw [aV.pl3,decide_eq_true hmin]
   simp only [Bool.not_false,cond_true]
   rw [e2,Option.bind_some]
   rfl
  ·rw [e1,Option.bind_some]
   rfl
 ·right
  refine ⟨p,q,hs,?_⟩
  have hP:0<ab (u.d p q):=ab_pos.2 hs.2.1
  rw [e1,Option.bind_some]
  simp only [Bool.not_true,cond_false]
  have hI:∀ g,aV.pl3 F (g+1) R (mk R R u.l) R R (mk R R u.m) R C (mk R C u.d) C C (mk C C u.r) C (mk C C u.s) false k =
    (aE.p F R (mk R R w.l) R R (mk R R w.m) R C (mk R C w.d) C C (mk C C w.r) C (mk C C w.s) false k).bind λr3=>(bif r3.1 then (aV.pj4 F (aV.pl3 F g) R r3.2.1 R R r3.2.2.1 R C r3.2.2.2.1 C C r3.2.2.2.2.1 C r3.2.2.2.2.2 r3.1 k) else ((bR.p F R C r3.2.2.2.1 k).bind λr7=>(bif (!r7) then (aV.pj4 F (aV.pl3 F g) R r3.2.1 R R r3.2.2.1 R C r3.2.2.2.1 C C r3.2.2.2.2.1 C r3.2.2.2.2.2 r3.1 k) else ((ch.p F R C r3.2.2.2.1 k).bind λr12=>(bif (decide (r12>=0)) then ((ef.p F R r3.2.1 R R r3.2.2.1 C r3.2.2.2.1 r3.1 k r12 1).bind λr16=>aV.pj6 F (aV.pl3 F g) R r16.1 R R r16.2.1 R C r16.2.2.1 C C r3.2.2.2.2.1 C r3.2.2.2.2.2 r16.2.2.2 k) else (aV.pj6 F (aV.pl3 F g) R r3.2.1 R R r3.2.2.1 R C r3.2.2.2.1 C C r3.2.2.2.2.1 C r3.2.2.2.2.2 r3.1 (IntKind.i64.wrap (k+1)))))))):=by
   intro g
   rw [aV.pl3,decide_eq_true hmin]
   simp only [Bool.not_false,cond_true]
   rw [e2,Option.bind_some]
   rfl
  have hpv:Same k u w:=by rw [hw];exact pv_same hs.1.1 hs.1.2.1
  have hpr:Rch R C k u w:=by
   rw [hw]
   obtain ⟨s1,s2,s3,s4⟩:=hs.1
   exact .piv u p q k s1 (by omega) s2 s3 (Int.le_refl _) hkR hkC
  rcases clr_both hR hC hF hk hkR hkC hP hwg hwk with ⟨v,hv,hvr,hv0,hvk,hva,hvb,c1,c2⟩ | ⟨⟨l,m,d,r,s,c1⟩,⟨l',m',d',r',s',c2⟩⟩
  ·have c2:fx.pl29 F F R C (mk R C w.d) R (mk R R w.l) R R (mk R R w.m) C C (mk C C w.r) C (mk C C w.s) false k (IntKind.i64.wrap (k+1))=_:=c2
   rw [c2]
   simp only [c1,Option.bind_some,cond_false] at hI
   obtain ⟨b,d1,d2,hb⟩:=clear_both (F:=F) (A:=v.d) hR hC hF hk hkR hkC
   unfold s1 fx.pj1
   simp only [cond_false]
   rw [d2,Option.bind_some]
   simp only [d1,Option.bind_some] at hI
   cases b with
   | false=>
    right;left
    refine ⟨v,hv,hI g,rfl,λa h1 h2=>(hv0 a a h2 h2).trans (hpv a h1 h2),hpr.trans hvr,.inl ?_⟩
    have hn:¬ ((∀ a:Int,k<a->a<R->v.d a k=0)/\(∀ a:Int,k<a->a<C->v.d k a=0)):=λh=>by have:=hb.2 h;cases this
    rcases Classical.not_and_iff_not_or_not.1 hn with h | h
    ·obtain ⟨a,h⟩:=Classical.not_forall.1 h
     have h:=not_imp.1 h
     obtain ⟨h1,h⟩:=h
     obtain ⟨h2,h3⟩:=not_imp.1 h
     refine ⟨a,k,by omega,h2,by omega,hkC,h3,?_⟩
     have:=hva a h1 h2
     have g1:=Int.emod_nonneg (w.d a k) (Int.ne_of_gt hP)
     have g2:=Int.emod_lt_of_pos (w.d a k) hP
     unfold ab at *
     rw [if_neg (by omega)];omega
    ·obtain ⟨a,h⟩:=Classical.not_forall.1 h
     have h:=not_imp.1 h
     obtain ⟨h1,h⟩:=h
     obtain ⟨h2,h3⟩:=not_imp.1 h
     refine ⟨k,a,by omega,hkR,by omega,h2,h3,?_⟩
     have:=hvb a h1 h2
     have g1:=Int.emod_nonneg (w.d k a) (Int.ne_of_gt hP)
     have g2:=Int.emod_lt_of_pos (w.d k a) hP
     unfold ab at *
     rw [if_neg (by omega)];omega
   | true=>
    obtain ⟨z1,z2⟩:=hb.1 rfl
    obtain ⟨r,f1,f2,hr⟩:=odd_both (F:=F) (A:=v.d) hR hC hF hk hkR hkC (by rw [hvk];omega)
    simp only [Bool.not_true,cond_false]
    rw [f2,Option.bind_some]
    simp only [Bool.not_true,cond_false,f1,Option.bind_some] at hI
    rcases hr with ⟨rfl,hdv⟩ | ⟨r1,r2,b,r3,r4,r5⟩
    ·right;right
     refine ⟨v,hv,?_,rfl,by rw [hvk];exact hP,λa h1 h2=>(hv0 a a h2 h2).trans (hpv a h1 h2),hpr.trans hvr,⟨z1,z2,λa b h1 h2 h3 h4=>Int.dvd_of_tmod_eq_zero (hdv a b (by omega) h2 h3 h4)⟩⟩
     rw [hI g,show decide ((-1:Int)>=0)=false from rfl,cond_false,aN (by omega) (by omega)]
     rfl
    ·rw [decide_eq_false (show ¬ r<0 by omega),cond_false]
     simp only [decide_eq_true (show r>=0 by omega),cond_true] at hI
     obtain ⟨bad',t1,⟨x,y,z,t2,t3⟩,t4⟩:=row_both (q:=-1) hR hC hF hv hk hkR (by omega:0<=r) r2 (by omega) (by decide) (by decide)
     rw [show (- -1:Int)=1 from rfl] at *
     rw [t2,Option.bind_some]
     simp only [t1,Option.bind_some] at hI
     cases bad' with
     | true=>
      left
      refine ⟨?_,⟨_,_,_,_,_,rfl⟩⟩
      rw [hI (g+1)]
      unfold aV.pj6 aV.pj5
      exact ⟨_,_,_,_,_,ir_bad⟩
     | false=>
      obtain ⟨rfl,rfl,rfl⟩:=t3 rfl
      have t4:=t4 rfl
      right;left
      refine ⟨rowS v k r 1,rowS_good hv _ _ _,hI g,rfl,?_,(hpr.trans hvr).trans (Rch.row v k r 1 (by omega) hkR (by omega) r2 (by omega) t4.1 t4.2.1 t4.2.2),.inr ⟨⟨?_,?_,?_⟩,?_⟩⟩
      all_goals
       have key:∀ b:Int,0<=b->b<C->(rowS v k r 1).d k b=v.d k b+v.d r b * 1:=by
        intro b h1 h2
        show adR v.d k r 1 k b=_
        unfold adR
        rw [if_pos rfl]
        apply ad_fit
        exact Classical.byContradiction λhh=>t4.1 ⟨b,h1,h2,hh⟩
       have oth:∀ a b,a≠k->(rowS v k r 1).d a b=v.d a b:=by
        intro a b h1
        show adR v.d k r 1 a b=_
        unfold adR
        rw [if_neg h1]
      ·exact λa h1 h2=>(oth a a (by omega)).trans ((hv0 a a h2 h2).trans (hpv a h1 h2))
      ·rw [key k hk hkC,hvk,z1 r r1 r2];omega
      ·intro a h1 h2
       rw [oth a k (by omega)]
       exact z1 a h1 h2
      ·refine ⟨b,r3,r4,?_⟩
       rw [key b (by omega) r4,z2 b r3 r4,<-hvk]
       rw [show 0+v.d r b * 1=v.d r b by omega]
       exact r5
      ·intro b h1 h2
       rw [<- hw,<-hvb b h1 h2]
       exact z2 b h1 h2
  ·left
   have c2:fx.pl29 F F R C (mk R C w.d) R (mk R R w.l) R R (mk R R w.m) C C (mk C C w.r) C (mk C C w.s) false k (IntKind.i64.wrap (k+1))=_:=c2
   rw [c2,hI (g+1),c1,Option.bind_some]
   unfold aV.pj4
   simp only [cond_true]
   exact ⟨⟨_,_,_,_,_,ir_bad⟩,⟨_,_,_,_,_,rfl⟩⟩
end Go.Proofs.Ytokekkacliomkaa.AE
end
section
namespace Go.Proofs.Ytokekkacliomkaa.AE
open Go Go.AE Go.Proofs
variable {R C F:Nat} {A:Mat} {i j k:Int}
abbrev sd (F:Nat) pC (g R C:Nat) (u:St) (k:Int):=ga.pl938 F pC g R C R C (mk R C u.d) R R (mk R R u.l) R R (mk R R u.m) C C (mk C C u.r) C C (mk C C u.s) false k false false
abbrev sO (F g R C:Nat) (u:St) (k:Int):=ga.pl29 F g R C R C (mk R C u.d) R R (mk R R u.l) R R (mk R R u.m) C C (mk C C u.r) C C (mk C C u.s) false k
def RBad (x:Option (List Int×List Int×List Int×List Int×List Int×Bool)):Prop:=∃ l m d r s,x=some (l,m,d,r,s,true)
def SBad (x:Option (Int×Int×List Int×Int×Int×List Int×Int×Int×List Int×Int×Int×List Int×Int×Int×List Int×Bool)):Prop:=∃ a1 a2 d a3 a4 l a5 a6 m a7 a8 r a9 a10 s,x=some (a1,a2,d,a3,a4,l,a5,a6,m,a7,a8,r,a9,a10,s,true)
theorem sd_bad {pC} {g:Nat} {l m d r s:List Int} {c1 c2 a1 a2 a3 a4 a5 a6 a7 a8 a9 a10 k:Int}:SBad (ga.pl938 F pC (g+1) c1 c2 a1 a2 d a3 a4 l a5 a6 m a7 a8 r a9 a10 s true k false false):=by
 rw [ga.pl938]
 exact ⟨_,_,_,_,_,_,_,_,_,_,_,_,_,_,_,rfl⟩
theorem inner_both (hR:R<=1000) (hC:C<=1000) (hF:5000000<F) (hk:0<=k) (hkR:k<R) (hkC:k<C) {pC}:∀ (m:Nat) (u:St) (g h:Nat),u.good R C->HasLt R C k u (m+1)->2 * m+3<=g->2 * m+3<=h ->
  (RBad (ir F g R C u false k)/\SBad (sd F pC h R C u k)) \/
  (∃ v:St,v.good R C/\0<v.d k k/\Same k u v/\Rch R C k u v/\Clr R C k v/\∃ g',g<=g'+(2 * m+2)/\ir F g R C u false k=ir F g' R C v false (k+1)/\sd F pC h R C u k=pC R C R C (mk R C v.d) R R (mk R R v.l) R R (mk R R v.m) C C (mk C C v.r) C C (mk C C v.s) false (k+1)):=by
 intro m
 induction m using Nat.strongRecOn with
 | _ m ih=>
 intro u g h hu hlt hg hh
 have stepS:∀ (u:St) (h:Nat),sd F pC (h+1) R C u k=(sr F R C u k).bind λr2=>ga.pl938 F pC h R C R C r2.2.2.1 R R r2.2.2.2.1 R R r2.2.2.2.2.1 C C r2.2.2.2.2.2.1 C C r2.2.2.2.2.2.2.1 r2.2.2.2.2.2.2.2 k r2.1 r2.2.1:=by
  intro u h
  unfold sd
  rw [ga.pl938]
  rfl
 have done:∀ (v:St) (h:Nat),ga.pl938 F pC (h+1) R C R C (mk R C v.d) R R (mk R R v.l) R R (mk R R v.m) C C (mk C C v.r) C C (mk C C v.s) false k true false=pC R C R C (mk R C v.d) R R (mk R R v.l) R R (mk R R v.m) C C (mk C C v.r) C C (mk C C v.s) false (k+1):=by
  intro v h
  rw [ga.pl938]
  unfold ga.pj4 ga.pj3
  simp only [Bool.not_true,cond_false]
  rw [aN (by omega) (by omega)]
 obtain ⟨g,rfl⟩:∃ g',g=g'+3:=⟨g - 3,by omega⟩
 obtain ⟨h,rfl⟩:∃ g',h=g'+3:=⟨h - 3,by omega⟩
 rcases round_both hR hC hF hk hkR hkC hu (g+2) with ⟨h0,_,_⟩ | ⟨p,q,hs,hcase⟩
 ·obtain ⟨a,b,h1,h2,h3,h4,h5,_⟩:=hlt
  exact absurd (h0 a b h1 h2 h3 h4) h5
 ·have hP:0<ab (u.d p q):=ab_pos.2 hs.2.1
  have hPm:ab (u.d p q)<m+1:=by
   obtain ⟨a,b,h1,h2,h3,h4,h5,h6⟩:=hlt
   have:=(hs.2.2 a b ⟨h1,h3,h4,.inl h2⟩ h5).1
   omega
  generalize ab (u.d p q)=P at hP hPm hcase
  have rec_:∀ (v:St) (g h:Nat),v.good R C->HasLt R C k v P->2 * m+1<=g->2 * m+1<=h ->
    (RBad (ir F g R C v false k)/\SBad (sd F pC h R C v k)) \/
    (∃ w:St,w.good R C/\0<w.d k k/\Same k v w/\Rch R C k v w/\Clr R C k w/\∃ g',g<=g'+2 * m/\ir F g R C v false k=ir F g' R C w false (k+1)/\sd F pC h R C v k=pC R C R C (mk R C w.d) R R (mk R R w.l) R R (mk R R w.m) C C (mk C C w.r) C C (mk C C w.s) false (k+1)):=by
   intro v g h hv hl hg hh
   rcases ih (P.toNat - 1) (by omega) v g h hv (by rw [show (((P.toNat - 1:Nat):Int)+1)=P by omega];exact hl) (by omega) (by omega) with hb | ⟨w,hw,hw0,hw1,hwr,hwc,g',h1,h2,h3⟩
   ·exact .inl hb
   ·exact .inr ⟨w,hw,hw0,hw1,hwr,hwc,g',by omega,h2,h3⟩
  rcases hcase with ⟨⟨l,m',d,r,s,e1⟩,⟨l',m'',d',r',s',e2⟩⟩ | ⟨v,hv,e1,e2,hsm,hrc,hprog⟩ | ⟨v,hv,e1,e2,hpos,hsm,hrc,hcl⟩
  ·left
   refine ⟨?_,?_⟩
   ·rcases round_both hR hC hF hk hkR hkC hu (g+1) with ⟨h0,_,_⟩ | ⟨p1,q1,hs1,hcase⟩
    ·obtain ⟨a,b,h1,h2,h3,h4,h5,_⟩:=hlt
     exact absurd (h0 a b h1 h2 h3 h4) h5
    ·rcases hcase with ⟨⟨l,m',d,r,s,e1⟩,_⟩ | ⟨v,hv,_,e3,_⟩ | ⟨v,hv,_,e3,_⟩
     ·exact ⟨_,_,_,_,_,e1⟩
     ·rw [e2] at e3;simp at e3
     ·rw [e2] at e3;simp at e3
   ·rw [stepS,e2,Option.bind_some]
    exact sd_bad
  ·rw [e1,stepS,e2,Option.bind_some]
   rcases hprog with hl | ⟨⟨k1,k2,b,k3,k4,k5⟩,_⟩
   ·rcases rec_ v (g+2) (h+2) hv hl (by omega) (by omega) with hb | ⟨w,hw,hw0,hw1,hwr,hwc,g',h1,h2,h3⟩
    ·exact .inl hb
    ·exact .inr ⟨w,hw,hw0,λa h1 h2=>(hw1 a h1 h2).trans (hsm a h1 h2),hrc.trans hwr,hwc,g',by omega,h2,h3⟩
   ·by_cases hl:HasLt R C k v P
    ·rcases rec_ v (g+2) (h+2) hv hl (by omega) (by omega) with hb | ⟨w,hw,hw0,hw1,hwr,hwc,g',h1,h2,h3⟩
     ·exact .inl hb
     ·exact .inr ⟨w,hw,hw0,λa h1 h2=>(hw1 a h1 h2).trans (hsm a h1 h2),hrc.trans hwr,hwc,g',by omega,h2,h3⟩
    ·have hkk:v.d k k≠0:=by omega
     have abP:ab P=P:=by unfold ab;rw [if_neg (by omega)]
     rcases round_both hR hC hF hk hkR hkC hv (g+1) with ⟨h0,_,_⟩ | ⟨p1,q1,hs1,hcase⟩
     ·exact absurd (h0 k k (by omega) hkR (by omega) hkC) hkk
     ·obtain ⟨s1,s2,s3⟩:=hs1
      obtain ⟨t1,t2,t3,t4⟩:=s1
      have hkk3:=s3 k k ⟨by omega,by omega,hkC,.inl hkR⟩ hkk
      have hge:¬ ab (v.d p1 q1)<P:=λhh=>hl ⟨p1,q1,t1,by omega,t2,t3,s2,hh⟩
      have hpq:p1=k/\q1=k:=by
       refine Classical.byContradiction λhne=>?_
       have:=hkk3.2 (by omega)
       rw [k1,abP] at this
       exact hge this
      obtain ⟨hp1,hq1⟩:=hpq
      rw [hp1,hq1] at hcase
      have hPP:ab (v.d k k)=P:=by rw [k1,abP]
      rw [hPP] at hcase
      have hpv:pvS v k k k=swS v k k k:=by
       unfold pvS
       rw [if_neg]
       show ¬ swC (swR v.d k k) k k k k<0
       unfold swC swR sw
       simp only [if_true]
       omega
      rcases hcase with ⟨⟨l,m',d,r,s,f1⟩,⟨l',m'',d',r',s',f2⟩⟩ | ⟨w,hw,f1,f2,hsm2,hrc2,hprog⟩ | ⟨w,hw,f1,f2,hpos2,hsm2,hrc2,hcl2⟩
      ·left
       refine ⟨?_,?_⟩
       ·rcases round_both hR hC hF hk hkR hkC hv g with ⟨h0,_,_⟩ | ⟨p2,q2,hs1,hcase⟩
        ·exact absurd (h0 _ _ (by omega) hkR (by omega) hkC) hkk
        ·rcases hcase with ⟨⟨l,m',d,r,s,e1⟩,_⟩ | ⟨v,hv,_,e3,_⟩ | ⟨v,hv,_,e3,_⟩
         ·exact ⟨_,_,_,_,_,e1⟩
         ·rw [f2] at e3;simp at e3
         ·rw [f2] at e3;simp at e3
       ·show SBad (sd F pC (h+1+1) R C v k)
        rw [stepS,f2,Option.bind_some]
        exact sd_bad
      ·rcases hprog with hl2 | ⟨_,hz⟩
       ·have hx:sd F pC (h+2) R C v k=sd F pC (h+1) R C w k:=by
         show sd F pC (h+1+1) R C v k=_
         rw [stepS,f2,Option.bind_some]
        rcases rec_ w (g+1) (h+1) hw hl2 (by omega) (by omega) with hb | ⟨x,hx',hx0,hx1,hxr,hxc,g',h1,h2,h3⟩
        ·left
         refine ⟨?_,?_⟩
         ·show RBad (ir F (g+1+1) R C v false k)
          rw [f1];exact hb.1
         ·show SBad (sd F pC (h+2) R C v k)
          rw [hx];exact hb.2
        ·right
         refine ⟨x,hx',hx0,λa h1 h2=>(hx1 a h1 h2).trans ((hsm2 a h1 h2).trans (hsm a h1 h2)),(hrc.trans hrc2).trans hxr,hxc,g',by omega,?_,?_⟩
         ·exact f1.trans h2
         ·exact hx.trans h3
       ·exfalso
        have:=hz b k3 k4
        rw [hpv] at this
        have e:(swS v k k k).d k b=v.d k b:=by
         show swC (swR v.d k k) k k k b=_
         unfold swC swR sw
         grind
        rw [e] at this
        exact k5 (Int.tmod_eq_zero_of_dvd (Int.dvd_of_emod_eq_zero this))
      ·right
       refine ⟨w,hw,hpos2,λa h1 h2=>(hsm2 a h1 h2).trans (hsm a h1 h2),hrc.trans hrc2,hcl2,g+1,by omega,f1,?_⟩
       show sd F pC (h+1+1) R C v k=_
       rw [stepS,f2,Option.bind_some]
       exact done w h
  ·right
   refine ⟨v,hv,hpos,hsm,hrc,hcl,g+2,by omega,e1,?_⟩
   rw [stepS,e2,Option.bind_some]
   exact done v (h+1)
theorem run_both (hR:R<=1000) (hC:C<=1000) (hF:2000000000100<=F):∀ (n:Nat) (k:Int) (u:St) (g h:Nat),u.good R C->Stg R C k u->0<=k->(if (C:Int)<R then (C:Int) else R) - k=n->n * 2000000000100+1<=g->n+1<=h ->
  (RBad (ir F g R C u false k)/\SBad (sO F h R C u k)) \/
  (∃ v:St,v.good R C/\Same k u v/\(∀ A,Red R C A u->Red R C A v)/\Dia R C v.d/\(∀ a:Int,k<=a->a<R->a<C->0<=v.d a a)/\ir F g R C u false k=some (mk R R v.l,mk R R v.m,mk R C v.d,mk C C v.r,mk C C v.s,false) /\
   sO F h R C u k=some ((R:Int),(C:Int),mk R C v.d,(R:Int),(R:Int),mk R R v.l,(R:Int),(R:Int),mk R R v.m,(C:Int),(C:Int),mk C C v.r,(C:Int),(C:Int),mk C C v.s,false)):=by
 intro n
 induction n with
 | zero=>
  intro k u g h hu hs hk hn hg hh
  obtain ⟨g,rfl⟩:∃ g',g=g'+1:=⟨g - 1,by omega⟩
  obtain ⟨h,rfl⟩:∃ g',h=g'+1:=⟨h - 1,by omega⟩
  right
  refine ⟨u,hu,λ_ _ _=>rfl,λ_ h=>h,hs.dia hk (by by_cases c:(R:Int)<=k;exact .inl c;exact .inr (.inl (by split at hn <;> omega))),λa h1 h2 h3=>by split at hn <;> omega,?_,?_⟩
  ·unfold ir
   rw [aV.pl3,decide_eq_false (by omega)]
   rfl
  ·unfold sO
   rw [ga.pl29,decide_eq_false (by omega)]
   rfl
 | succ n ih=>
  intro k u g h hu hs hk hn hg hh
  obtain ⟨g,rfl⟩:∃ g',g=g'+1:=⟨g - 1,by omega⟩
  obtain ⟨h,rfl⟩:∃ g',h=g'+1:=⟨h - 1,by omega⟩
  have hkC:k<C:=by split at hn <;> omega
  have hkR:k<R:=by split at hn <;> omega
  have hS:sO F (h+1) R C u k=sd F (ga.pl29 F h) F R C u k:=by
   unfold sO sd
   rw [ga.pl29,decide_eq_true (by omega),cond_true]
  rw [hS]
  by_cases hz:∀ a b,k<=a->a<R->k<=b->b<C->u.d a b=0
  ·rcases round_both (F:=F) hR hC (by omega) hk hkR hkC hu g with ⟨h0,e1,e2⟩ | ⟨p1,q1,⟨⟨t1,t2,t3,t4⟩,s2,s3⟩,hcase⟩
   ·right
    refine ⟨u,hu,λ_ _ _=>rfl,λ_ h=>h,hs.dia hk (.inr (.inr hz)),λa h1 h2 h3=>by rw [hz a a h1 h2 h1 h3];omega,e1,?_⟩
    obtain ⟨f,rfl⟩:∃ g',F=g'+2:=⟨F - 2,by omega⟩
    unfold sd
    rw [ga.pl938]
    simp only [Bool.not_false,cond_true]
    have e2:fx.p (f+2) R C (mk R C u.d) R (mk R R u.l) R R (mk R R u.m) C C (mk C C u.r) C (mk C C u.s) false k=_:=e2
    rw [e2,Option.bind_some]
    rw [ga.pl938]
    rfl
   ·exact absurd (hz p1 q1 t1 (by omega) t2 t3) s2
  ·obtain ⟨M,hM⟩:∃ M:Nat,M=1000000000000:=⟨_,rfl⟩
   have hl:HasLt R C k u ((M:Int)+1):=by
    refine Classical.byContradiction λhne=>hz λa b h1 h2 h3 h4=>?_
    refine Classical.byContradiction λh5=>hne ⟨a,b,h1,h2,h3,h4,h5,?_⟩
    have:=hu.1.ab (i:=a) (j:=b) (by omega) h2 (by omega) h4
    omega
   rcases inner_both (F:=F) (pC:=ga.pl29 F h) hR hC (by omega) hk hkR hkC M u (g+1) F hu hl (by omega) (by omega) with ⟨hb1,hb2⟩ | ⟨v,hv,hv0,hv1,hvr,hvc,g',h1,h2,h3⟩
   ·exact .inl ⟨hb1,hb2⟩
   ·rw [h2,h3]
    have q1:n * 2000000000100+1<=g':=by
     rw [Nat.succ_mul] at hg
     generalize n * 2000000000100=N at *
     omega
    have q2:(if (C:Int)<R then (C:Int) else R) - (k+1)=n:=by omega
    have q3:n+1<=h:=by omega
    rcases ih (k+1) v g' h hv ((hvr.stg hk hs).next hk hkR hkC hvc (by omega)) (by omega) q2 q1 q3 with hb | ⟨w,hw,hw1,hwr,hwd,hw2,e⟩
    ·exact .inl hb
    ·refine .inr ⟨w,hw,λa h1 h2=>(hw1 a h1 (by omega)).trans (hv1 a h1 h2),λA h=>hwr A (hvr.red hk h),hwd,λa h1 h2 h3=>?_,e⟩
     by_cases ea:a=k
     ·subst ea;rw [hw1 a hk (by omega)];omega
     ·exact hw2 a (by omega) h2 h3
end Go.Proofs.Ytokekkacliomkaa.AE
end
section
namespace Go.Proofs.Ytokekkacliomkaa.AE
open Go Go.AE Go.Proofs
variable {R C F:Nat} {A:Mat} {i j k:Int}
theorem ix_of {l:List Int} (h0:0<=i) (h:i<l.length):ix l i=some i.toNat:=by
 unfold ix;rw [if_pos ⟨h0,h⟩]
def InR (x a b:Int):Prop:=a<=x/\x<=b
instance (x a b:Int):Decidable (InR x a b):=by unfold InR;infer_instance
theorem KW {x a b:Int}:gW.p F x a b=some (decide (InR x a b)):=by
 unfold gW.p InR
 by_cases h:x>=a
 ·rw [decide_eq_true h,cond_true];congr 1;simp only [ge_iff_le] at h;simp [h]
 ·rw [decide_eq_false h,cond_false];congr 1;simp only [ge_iff_le] at h;simp [h]
theorem KX {x a b:Int}:gg.p F x a b=some (decide (InR x a b)):=by
 unfold gg.p InR
 by_cases h:a<=x
 ·rw [decide_eq_true h,cond_true];congr 1;simp [h]
 ·rw [decide_eq_false h,cond_false];congr 1;simp [h]
end Go.Proofs.Ytokekkacliomkaa.AE
end
section
namespace Go.Proofs.Ytokekkacliomkaa.AE
open Go Go.AE Go.Proofs
variable {R C F:Nat} {A:Mat} {i j k:Int}
def okL (l:List Int) (i:Int):Prop:=∀ a:Nat,i<=a->a<l.length->InR (gt l a) (-1000000000000) 1000000000000
theorem specM_l {l:List Int} (hl:l.length<=2000000):∀ (n g:Nat) (i:Int),l.length - i=n->n<g->0<=i->∃ b,bS.pl29 F g l i=some b/\(b=true↔okL l i):=by
 intro n
 induction n with
 | zero=>
  intro g i hn hg hi
  obtain ⟨g,rfl⟩:∃ g',g=g'+1:=⟨g - 1,by omega⟩
  rw [bS.pl29,decide_eq_false (by omega),cond_false]
  exact ⟨_,rfl,⟨λ_ a h1 h2=>by omega,λ_=>rfl⟩⟩
 | succ n ih=>
  intro g i hn hg hi
  obtain ⟨g,rfl⟩:∃ g',g=g'+1:=⟨g - 1,by omega⟩
  rw [bS.pl29,decide_eq_true (by omega),cond_true,ix_of hi (by omega),Option.bind_some,KW,Option.bind_some]
  by_cases h:InR (gt l i.toNat) (-1000000000000) 1000000000000
  ·rw [decide_eq_true h,Bool.not_true,cond_false,aN (by omega) (by omega)]
   obtain ⟨b,e,hb⟩:=ih g (i+1) (by omega) (by omega) (by omega)
   refine ⟨b,e,hb.trans ⟨λh1 a h3 h4=>?_,λh1 a h3 h4=>h1 a (by omega) h4⟩⟩
   by_cases e:a=i.toNat
   ·subst e;exact h
   ·exact h1 a (by omega) h4
  ·rw [decide_eq_false h,Bool.not_false,cond_true]
   exact ⟨_,rfl,⟨λh=>(by cases h),λh1=>absurd (h1 i.toNat (by omega) (by omega)) h⟩⟩
theorem implM_l {l:List Int} (hl:l.length<=2000000):∀ (n g:Nat) (i:Int),l.length - i=n->n<g->0<=i->∃ r:Int,cy.pl13 F g l l.length i=some r/\(¬ r>=0↔okL l i):=by
 intro n
 induction n with
 | zero=>
  intro g i hn hg hi
  obtain ⟨g,rfl⟩:∃ g',g=g'+1:=⟨g - 1,by omega⟩
  rw [cy.pl13,decide_eq_false (by omega),cond_false]
  exact ⟨_,rfl,⟨λ_ a h1 h2=>by omega,λ_=>by decide⟩⟩
 | succ n ih=>
  intro g i hn hg hi
  obtain ⟨g,rfl⟩:∃ g',g=g'+1:=⟨g - 1,by omega⟩
  unfold cy.pl13 gQ.p
  rw [decide_eq_true (by omega),cond_true,ix_of hi (by omega),Option.bind_some,KX,Option.bind_some,Option.bind_some]
  by_cases h:InR (gt l i.toNat) (-1000000000000) 1000000000000
  ·rw [decide_eq_true h,Bool.not_true,cond_false,aN (by omega) (by omega)]
   obtain ⟨b,e,hb⟩:=ih g (i+1) (by omega) (by omega) (by omega)
   refine ⟨b,e,hb.trans ⟨λh1 a h3 h4=>?_,λh1 a h3 h4=>h1 a (by omega) h4⟩⟩
   by_cases e:a=i.toNat
   ·subst e;exact h
   ·exact h1 a (by omega) h4
  ·rw [decide_eq_false h,Bool.not_false,cond_true]
   exact ⟨_,rfl,⟨λh=>absurd hi h,λh1=>absurd (h1 i.toNat (by omega) (by omega)) h⟩⟩
theorem isMatrix_both {a b:Int} {l:List Int} (hF:5000000<F) (hl:l.length<=2000000) :
  ∃ v:Bool,bS.p F a b l=some v/\cn.p F a b l=some v/\(v=true->∃ (R C:Nat) (A:Mat),a=R/\b=C/\R<=48/\C<=48/\l=mk R C A/\Bd R C A):=by
 unfold bS.p cn.p
 rw [KW,KW,KX,KX]
 simp only [Option.bind_some]
 by_cases ha:InR a 0 48
 ·rw [decide_eq_true ha]
  simp only [Bool.not_true,cond_false,cond_true]
  by_cases hb:InR b 0 48
  ·rw [decide_eq_true hb]
   simp only [Bool.not_true,cond_false,cond_true]
   unfold gZ.p
   rw [Option.bind_some]
   obtain ⟨ha0,ha1⟩:=ha
   obtain ⟨hb0,hb1⟩:=hb
   obtain ⟨R,rfl⟩:=Int.eq_ofNat_of_zero_le ha0
   obtain ⟨C,rfl⟩:=Int.eq_ofNat_of_zero_le hb0
   have hm:R * C<=48 * 48:=Nat.mul_le_mul (by omega) (by omega)
   rw [<- Int.natCast_mul,aN (by omega) (by omega)]
   by_cases h:(l.length:Int)=((R * C:Nat):Int)
   ·rw [h,bne_self_eq_false,cond_false,beq_self_eq_true,cond_true]
    unfold gR.p cy.p
    obtain ⟨v,e1,h1⟩:=specM_l (F:=F) hl l.length F 0 (by omega) (by omega) (by omega)
    obtain ⟨r,e2,h2⟩:=implM_l (F:=F) hl l.length F 0 (by omega) (by omega) (by omega)
    rw [e1,e2,Option.bind_some,Option.bind_some]
    have:(!decide (r>=0))=v:=by
     rw [Bool.eq_iff_iff,h1,<-h2];simp
    rw [this]
    refine ⟨v,rfl,rfl,λhv=>⟨R,C,_,rfl,rfl,by omega,by omega,ack (by omega),?_⟩⟩
    intro i j hi0 hi hj0 hj
    obtain ⟨x,y,rfl,rfl,g1,g2,g3,g4,g5⟩:=zm hi0 hi hj0 hj
    show InR (gt l ((x:Int) * C+y).toNat) (-1000000000000) 1000000000000
    rw [g3]
    exact h1.1 hv _ (by omega) (by omega)
   ·rw [show ((l.length:Int) != ((R * C:Nat):Int))=true from bne_iff_ne.2 h,show ((l.length:Int)==((R * C:Nat):Int))=false from beq_eq_false_iff_ne.2 h]
    exact ⟨false,rfl,rfl,λh=>(by cases h)⟩
  ·rw [decide_eq_false hb]
   exact ⟨false,rfl,rfl,λh=>(by cases h)⟩
 ·rw [decide_eq_false ha]
  exact ⟨false,rfl,rfl,λh=>(by cases h)⟩
end Go.Proofs.Ytokekkacliomkaa.AE
end
section
namespace Go.Proofs.Ytokekkacliomkaa.AE
open Go Go.AE Go.Proofs
variable {R C F:Nat} {A:Mat} {i j k:Int}
theorem idM_bd {n:Nat}:Bd n n idM:=by
 intro a b _ _ _ _
 unfold idM;split <;> decide
theorem one_l {n:Nat} (hn:n<=1000):∀ (m g:Nat) (A:Mat) (i:Int),n - i=m->m<g->0<=i->(∀ a b:Int,0<=a->a<n->0<=b->b<n->A a b=if a<i then idM a b else 0) ->
  mh.pl29 F g n n n (mk n n A) i=some ((n:Int),(n:Int),mk n n idM):=by
 intro m
 induction m with
 | zero=>
  intro g A i hm hg hi hA
  obtain ⟨g,rfl⟩:∃ g',g=g'+1:=⟨g - 1,by omega⟩
  rw [mh.pl29,decide_eq_false (by omega),cond_false]
  rw [dC (A:=A) (B:=idM) (λa b h1 h2 h3 h4=>by rw [hA a b h1 h2 h3 h4,if_pos (by omega)])]
 | succ m ih=>
  intro g A i hm hg hi hA
  obtain ⟨g,rfl⟩:∃ g',g=g'+1:=⟨g - 1,by omega⟩
  rw [mh.pl29,decide_eq_true (by omega),cond_true]
  simp (disch:=omega) only [gD,ll,Option.bind_some,aN]
  refine ih g _ (i+1) (by omega) (by omega) (by omega) λa b h1 h2 h3 h4=>?_
  have:=hA a b h1 h2 h3 h4
  unfold upd idM at *
  grind
theorem mk_zero (n m:Nat):List.replicate (n * m) (0:Int)=mk n m λ_ _=>0:=by
 apply List.ext_getElem
 ·rw [gP,List.length_replicate]
 ·intro a h1 h2
  simp [mk]
theorem RX {n:Nat} (hn:n<=1000) (hF:5000000<F):mh.p F n=some ((n:Int),(n:Int),mk n n idM):=by
 have hm:n * n<=1000 * 1000:=Nat.mul_le_mul hn hn
 unfold mh.p eK.p mkn
 rw [<- Int.natCast_mul,aN (by omega) (by omega),if_pos (by omega),Option.bind_some,Option.bind_some,Int.toNat_natCast,mk_zero]
 exact one_l hn n F _ 0 (by omega) (by omega) (by omega) λa b h1 _ _ _=>by rw [if_neg (by omega)]
theorem id_l {n:Nat} (hn:n<=1000):∀ (m g:Nat) (A:Mat) (i:Int),n - i=m->m<g->0<=i->(∀ a b:Int,0<=a->a<n->0<=b->b<n->A a b=if a<i then idM a b else 0) ->
  bU.pl29 F g n n (mk n n A) n i=some ((n:Int),(n:Int),mk n n idM):=by
 intro m
 induction m with
 | zero=>
  intro g A i hm hg hi hA
  obtain ⟨g,rfl⟩:∃ g',g=g'+1:=⟨g - 1,by omega⟩
  rw [bU.pl29,decide_eq_false (by omega),cond_false]
  rw [dC (A:=A) (B:=idM) (λa b h1 h2 h3 h4=>by rw [hA a b h1 h2 h3 h4,if_pos (by omega)])]
 | succ m ih=>
  intro g A i hm hg hi hA
  obtain ⟨g,rfl⟩:∃ g',g=g'+1:=⟨g - 1,by omega⟩
  rw [bU.pl29,decide_eq_true (by omega),cond_true]
  simp (disch:=omega) only [gD,ll,Option.bind_some,aN]
  refine ih g _ (i+1) (by omega) (by omega) (by omega) λa b h1 h2 h3 h4=>?_
  have:=hA a b h1 h2 h3 h4
  unfold upd idM at *
  grind
theorem su {n:Nat} (hn:n<=1000) (hF:5000000<F):bU.p F n=some ((n:Int),(n:Int),mk n n idM):=by
 have hm:n * n<=1000 * 1000:=Nat.mul_le_mul hn hn
 unfold bU.p eG.p mkn
 rw [<- Int.natCast_mul,aN (by omega) (by omega),if_pos (by omega),Option.bind_some,Option.bind_some,Int.toNat_natCast,mk_zero]
 exact id_l hn n F _ 0 (by omega) (by omega) (by omega) λa b h1 _ _ _=>by rw [if_neg (by omega)]
theorem smith_both (hR:R<=48) (hC:C<=48) (hF:1000000000000000<=F) (hb:Bd R C A) :
  (eW.p F R C (mk R C A)=some (0,0,([]:List Int),0,0,([]:List Int),0,0,([]:List Int),0,0,([]:List Int),0,0,([]:List Int),3)/\SBad (ga.p F R C (mk R C A))) \/
  (∃ v:St,v.good R C/\Red R C A v/\Dia R C v.d/\(∀ a:Int,0<=a->a<R->a<C->0<=v.d a a)/\eW.p F R C (mk R C A)=some ((R:Int),(R:Int),mk R R v.l,(R:Int),(R:Int),mk R R v.m,(R:Int),(C:Int),mk R C v.d,(C:Int),(C:Int),mk C C v.r,(C:Int),(C:Int),mk C C v.s,0) /\
   ga.p F R C (mk R C A)=some ((R:Int),(C:Int),mk R C v.d,(R:Int),(R:Int),mk R R v.l,(R:Int),(R:Int),mk R R v.m,(C:Int),(C:Int),mk C C v.r,(C:Int),(C:Int),mk C C v.s,false)):=by
 have hm:R * C<=48 * 48:=Nat.mul_le_mul hR hC
 unfold eW.p ga.p gE.p iN.p apn aV.p
 rw [if_pos (by rw [gP];simp;omega),List.nil_append,RX (by omega) (by omega),RX (by omega) (by omega),su (by omega) (by omega),su (by omega) (by omega)]
 simp only [Option.bind_some]
 obtain ⟨n,hn⟩:∃ n:Nat,(if (C:Int)<R then (C:Int) else R) - 0=n:=⟨(if (C:Int)<R then (C:Int) else R).toNat,by split <;> omega⟩
 have hn48:n<=48:=by split at hn <;> omega
 have q1:n * 2000000000100+1<=F:=by omega
 rcases run_both (F:=F) (R:=R) (C:=C) (by omega) (by omega) (by omega) n 0 ⟨A,idM,idM,idM,idM⟩ F F ⟨hb,idM_bd,idM_bd,idM_bd,idM_bd⟩ Stg.zero (by omega) hn q1 (by omega) with ⟨⟨l,m,d,r,s,e1⟩,e2⟩ | ⟨v,hv,_,hre,hdi,hv2,e1,e2⟩
 ·left
  have e1:aV.pl3 F F R (mk R R idM) R R (mk R R idM) R C (mk R C A) C C (mk C C idM) C (mk C C idM) false 0=_:=e1
  rw [e1]
  exact ⟨rfl,e2⟩
 ·right
  have e1:aV.pl3 F F R (mk R R idM) R R (mk R R idM) R C (mk R C A) C C (mk C C idM) C (mk C C idM) false 0=_:=e1
  rw [e1]
  exact ⟨v,hv,hre A Red.start,hdi,λa h1 h2 h3=>hv2 a h1 h2 h3,rfl,e2⟩
end Go.Proofs.Ytokekkacliomkaa.AE
end
section
namespace Go.Proofs.Ytokekkacliomkaa.AE
open Go Go.AE Go.Proofs
variable {R C F:Nat} {A:Mat} {i j k:Int}
end Go.Proofs.Ytokekkacliomkaa.AE
end
section
namespace Go.Proofs.Ytokekkacliomkaa.AE
open Go Go.AE Go.Proofs
variable {R C F:Nat} {A:Mat} {i j k:Int}
end Go.Proofs.Ytokekkacliomkaa.AE
end
section
namespace Go.Proofs.Ytokekkacliomkaa.AE
open Go Go.AE Go.Proofs
variable {R C F:Nat} {A:Mat} {i j k:Int}
def tor (l:List Int):List Int:=l.filter λx=>x != 1
end Go.Proofs.Ytokekkacliomkaa.AE
end
section
namespace Go.Proofs.Ytokekkacliomkaa.AE
open Go Go.AE Go.Proofs
variable {R K C F:Nat} {A B X:Mat} {i j k:Int}
def okm1 (x y:Int):Prop:=ab (x * y)<=1000000000000
instance (x y:Int):Decidable (okm1 x y):=by unfold okm1;infer_instance
theorem abc {x y:Int} (hx:ab x<=4000000000000) (hy:ab y<=4000000000000):fa.p F x y 1000000000000=some (if okm1 x y then (x * y,true) else (0,false)):=by
 have bx:=ab_bd hx
 have by_:=ab_bd hy
 have n1:=ab_nn x
 unfold fa.p
 by_cases h:x=0
 ·subst h
  have:okm1 0 y:=by unfold okm1 ab;rw [Int.zero_mul];decide
  rw [if_pos this,show ((0:Int) != 0)=false from rfl,cond_false,Int.zero_mul,aN (by omega) (by omega)]
 ·rw [show (x != 0)=true from bne_iff_ne.2 h,cond_true,pm (by omega) (by omega),Option.bind_some,pm (by omega) (by omega),Option.bind_some]
  have hp:0<ab x:=by unfold ab;split <;> omega
  have bd:=tdiv_bd (m:=1000000000000) (u:=ab x) (by omega) (by omega)
  rw [if_neg (by omega),aN (by omega) (by omega)]
  have key:ab y>Int.tdiv 1000000000000 (ab x)↔¬ okm1 x y:=by
   rw [gt_div hp (by omega),okm1,ab_mul];omega
  by_cases ho:okm1 x y
  ·rw [decide_eq_false (λh=>(key.1 h) ho),cond_false,if_pos ho]
   have:=ab_bd ho
   rw [aN (by omega) (by omega)]
  ·rw [decide_eq_true (key.2 ho),cond_true,if_neg ho]
theorem abd {x y:Int} (hx:ab x<=4000000000000) (hy:ab y<=4000000000000):eM.p F x y 1000000000000=some (if okm1 x y then (x * y,true) else (0,false)):=by
 have bx:=ab_bd hx
 have by_:=ab_bd hy
 have n1:=ab_nn x
 unfold eM.p
 by_cases h:x=0
 ·subst h
  have:okm1 0 y:=by unfold okm1 ab;rw [Int.zero_mul];decide
  rw [if_pos this,show ((0:Int) != 0)=false from rfl,cond_false,Int.zero_mul,aN (by omega) (by omega)]
 ·rw [show (x != 0)=true from bne_iff_ne.2 h,cond_true,oe (by omega) (by omega),Option.bind_some,oe (by omega) (by omega),Option.bind_some]
  have hp:0<ab x:=by unfold ab;split <;> omega
  have bd:=tdiv_bd (m:=1000000000000) (u:=ab x) (by omega) (by omega)
  rw [if_neg (by omega),aN (by omega) (by omega)]
  have key:ab y>Int.tdiv 1000000000000 (ab x)↔¬ okm1 x y:=by
   rw [gt_div hp (by omega),okm1,ab_mul];omega
  by_cases ho:okm1 x y
  ·rw [decide_eq_false (λh=>(key.1 h) ho),cond_false,if_pos ho]
   have:=ab_bd ho
   rw [aN (by omega) (by omega)]
  ·rw [decide_eq_true (key.2 ho),cond_true,if_neg ho]
def dts (A B:Mat) (i j:Int):Nat->Int->Int
 | 0,_=>0
 | n+1,k=>A i k * B k j+dts A B i j n (k+1)
theorem entry_both (hR:R<=48) (hK:K<=48) (hC:C<=48) (hA:Bd R K A) (hB:Bd K C B) (hi0:0<=i) (hi:i<R) (hj0:0<=j) (hj:j<C) {p1 p2} {ol:List Int}:∀ (n g h:Nat) (s t k:Int),K - k=n->n<g->n<h->0<=k->ab s<=t->t<=1000000000000 ->
  (ci.pl29 F g i j K (mk R K A) C (mk K C B) s t K k=some (0,false)/\aw.pl30037 F p1 p2 h R K (mk R K A) C (mk K C B) R C ol i j s t k=some (0,0,[],false)) \/
  (ab (s+dts A B i j n k)<=1000000000000/\ci.pl29 F g i j K (mk R K A) C (mk K C B) s t K k=some (s+dts A B i j n k,true) /\
   aw.pl30037 F p1 p2 h R K (mk R K A) C (mk K C B) R C ol i j s t k=aw.pj12 F p2 R K (mk R K A) C (mk K C B) R C ol i j (s+dts A B i j n k)):=by
 intro n
 induction n with
 | zero=>
  intro g h s t k hn hg hh hk hs ht
  obtain ⟨g,rfl⟩:∃ g',g=g'+1:=⟨g - 1,by omega⟩
  obtain ⟨h,rfl⟩:∃ g',h=g'+1:=⟨h - 1,by omega⟩
  right
  rw [ci.pl29,aw.pl30037,decide_eq_false (by omega),cond_false,cond_false,dts,Int.add_zero]
  exact ⟨by omega,rfl,rfl⟩
 | succ n ih=>
  intro g h s t k hn hg hh hk hs ht
  obtain ⟨g,rfl⟩:∃ g',g=g'+1:=⟨g - 1,by omega⟩
  obtain ⟨h,rfl⟩:∃ g',h=g'+1:=⟨h - 1,by omega⟩
  rw [ci.pl29,aw.pl30037,decide_eq_true (by omega),cond_true,cond_true]
  have ba:=hA.ab (i:=i) (j:=k) hi0 hi hk (by omega)
  have bb:=hB.ab (i:=k) (j:=j) hk (by omega) hj0 hj
  simp (disch:=omega) only [at_mk,gD,hJ,Option.bind_some]
  rw [abd (by omega) (by omega),abc (by omega) (by omega),Option.bind_some,Option.bind_some]
  by_cases ho:okm1 (A i k) (B k j)
  ·rw [if_pos ho]
   simp only [Bool.not_true,cond_false]
   have ho:ab (A i k * B k j)<=1000000000000:=ho
   have b0:=ab_bd ho
   have b1:=ab_nn (A i k * B k j)
   have bs:=ab_bd hs
   have bst:0<=t:=by have:=ab_nn s;omega
   rw [pm (by omega) (by omega),oe (by omega) (by omega),Option.bind_some,Option.bind_some,aN (x:=t+ab (A i k * B k j)) (by omega) (by omega)]
   by_cases hl:t+ab (A i k * B k j)>1000000000000
   ·rw [decide_eq_true hl,cond_true,cond_true];exact .inl ⟨rfl,rfl⟩
   ·rw [decide_eq_false hl,cond_false,cond_false,aN (x:=k+1) (by omega) (by omega),aN (x:=s+A i k * B k j) (by omega) (by omega)]
    rw [dts,<-Int.add_assoc]
    exact ih g h (s+A i k * B k j) (t+ab (A i k * B k j)) (k+1) (by omega) (by omega) (by omega) (by omega) (by unfold ab at *;split <;> split at hs <;> split <;> omega) (by omega)
  ·rw [if_neg ho]
   simp only [Bool.not_false,cond_true]
   rw [pm (by omega) (by omega),oe (by omega) (by omega)]
   exact .inl ⟨rfl,rfl⟩
theorem row_mul (hR:R<=48) (hK:K<=48) (hC:C<=48) (hF:5000<F) (hA:Bd R K A) (hB:Bd K C B) (hi0:0<=i) (hi:i<R) {p1 p2}:∀ (n g h:Nat) (X:Mat) (j:Int),C - j=n->n<g->n<h->0<=j ->
  (aL.pl3931 F p1 g K (mk R K A) C (mk K C B) R C (mk R C X) R i i C j=some (0,0,[],3)/\aw.pl469 F p2 h R K (mk R K A) C (mk K C B) R C (mk R C X) i j=some (0,0,[],false)) \/
  ∃ Y:Mat,(∀ a b:Int,Y a b=if a=i/\j<=b/\b<C then dts A B i b K 0 else X a b)/\(∀ b:Int,j<=b->b<C->ab (Y i b)<=1000000000000) /\
   aL.pl3931 F p1 g K (mk R K A) C (mk K C B) R C (mk R C X) R i i C j=p1 K (mk R K A) C (mk K C B) R C (mk R C Y) R (i+1) /\
   aw.pl469 F p2 h R K (mk R K A) C (mk K C B) R C (mk R C X) i j=p2 R K (mk R K A) C (mk K C B) R C (mk R C Y) (i+1):=by
 intro n
 induction n with
 | zero=>
  intro g h X j hn hg hh hj
  obtain ⟨g,rfl⟩:∃ g',g=g'+1:=⟨g - 1,by omega⟩
  obtain ⟨h,rfl⟩:∃ g',h=g'+1:=⟨h - 1,by omega⟩
  right
  refine ⟨X,λa b=>by rw [if_neg (by omega)],λb h1 h2=>by omega,?_,?_⟩
  ·rw [aL.pl3931,decide_eq_false (by omega),cond_false]
   unfold aL.pj4 aL.pj3
   rw [aN (by omega) (by omega)]
  ·rw [aw.pl469,decide_eq_false (by omega),cond_false]
   unfold aw.pj10 aw.pj9
   rw [aN (by omega) (by omega)]
 | succ n ih=>
  intro g h X j hn hg hh hj
  obtain ⟨g,rfl⟩:∃ g',g=g'+1:=⟨g - 1,by omega⟩
  obtain ⟨h,rfl⟩:∃ g',h=g'+1:=⟨h - 1,by omega⟩
  have hjC:j<C:=by omega
  rw [aL.pl3931,decide_eq_true (by omega),cond_true,aw.pl469,decide_eq_true (by omega),cond_true]
  unfold ci.p
  rcases entry_both (F:=F) (p1:=p2) (p2:=aw.pl469 F p2 h) (ol:=mk R C X) hR hK hC hA hB hi0 hi hj hjC K F F 0 0 0 (by omega) (by omega) (by omega) (by omega) (by decide) (by omega) with ⟨e1,e2⟩ | ⟨e0,e1,e2⟩
  ·rw [e1,e2];exact .inl ⟨rfl,rfl⟩
  ·rw [Int.zero_add] at e0 e1 e2
   rw [e1,e2]
   unfold aw.pj12 aw.pj11
   simp (disch:=omega) only [gD,ll,Option.bind_some,Bool.not_true,cond_false]
   rw [aN (x:=j+1) (by omega) (by omega)]
   rcases ih g h (upd X i j (dts A B i j K 0)) (j+1) (by omega) (by omega) (by omega) (by omega) with hb | ⟨Y,h1,h2,h3,h4⟩
   ·exact .inl hb
   ·right
    have hY:∀ a b:Int,Y a b=if a=i/\j<=b/\b<C then dts A B i b K 0 else X a b:=λa b=>by
     rw [h1]
     by_cases c1:a=i/\j+1<=b/\b<C
     ·rw [if_pos c1,if_pos ⟨c1.1,by omega,c1.2.2⟩]
     ·rw [if_neg c1]
      by_cases c2:a=i/\b=j
      ·obtain ⟨rfl,rfl⟩:=c2;rw [Ev,if_pos ⟨rfl,Int.le_refl _,hjC⟩]
      ·rw [jD _ _ c2,if_neg (by omega)]
    refine ⟨Y,hY,λb h5 h6=>?_,h3,h4⟩
    by_cases e:b=j
    ·subst e;rw [hY,if_pos ⟨rfl,h5,h6⟩];exact e0
    ·exact h2 b (by omega) h6
theorem mul_l (hR:R<=48) (hK:K<=48) (hC:C<=48) (hF:5000<F) (hA:Bd R K A) (hB:Bd K C B):∀ (n g h:Nat) (X:Mat) (i:Int),R - i=n->n<g->n<h->0<=i ->
  (aL.pl61 F g K (mk R K A) C (mk K C B) R C (mk R C X) R i=some (0,0,[],3)/\aw.pl29 F h R K (mk R K A) C (mk K C B) R C (mk R C X) i=some (0,0,[],false)) \/
  ∃ Y:Mat,(∀ a b:Int,Y a b=if i<=a/\a<R/\0<=b/\b<C then dts A B a b K 0 else X a b)/\(∀ a b:Int,i<=a->a<R->0<=b->b<C->ab (Y a b)<=1000000000000) /\
   aL.pl61 F g K (mk R K A) C (mk K C B) R C (mk R C X) R i=some ((R:Int),(C:Int),mk R C Y,0) /\
   aw.pl29 F h R K (mk R K A) C (mk K C B) R C (mk R C X) i=some ((R:Int),(C:Int),mk R C Y,true):=by
 intro n
 induction n with
 | zero=>
  intro g h X i hn hg hh hi
  obtain ⟨g,rfl⟩:∃ g',g=g'+1:=⟨g - 1,by omega⟩
  obtain ⟨h,rfl⟩:∃ g',h=g'+1:=⟨h - 1,by omega⟩
  right
  refine ⟨X,λa b=>by rw [if_neg (by omega)],λa b h1 h2=>by omega,?_,?_⟩
  ·rw [aL.pl61,decide_eq_false (by omega)];rfl
  ·rw [aw.pl29,decide_eq_false (by omega)];rfl
 | succ n ih=>
  intro g h X i hn hg hh hi
  obtain ⟨g,rfl⟩:∃ g',g=g'+1:=⟨g - 1,by omega⟩
  obtain ⟨h,rfl⟩:∃ g',h=g'+1:=⟨h - 1,by omega⟩
  rw [aL.pl61,decide_eq_true (by omega),cond_true,aw.pl29,decide_eq_true (by omega),cond_true]
  rcases row_mul (F:=F) (p1:=aL.pl61 F g) (p2:=aw.pl29 F h) hR hK hC hF hA hB hi (by omega:i<R) C F F X 0 (by omega) (by omega) (by omega) (by omega) with hb | ⟨Y,h1,h2,h3,h4⟩
  ·exact .inl hb
  ·rw [h3,h4]
   rcases ih g h Y (i+1) (by omega) (by omega) (by omega) (by omega) with hb | ⟨Z,k1,k2,k3,k4⟩
   ·exact .inl hb
   ·right
    have hZ:∀ a b:Int,Z a b=if i<=a/\a<R/\0<=b/\b<C then dts A B a b K 0 else X a b:=λa b=>by
     rw [k1]
     by_cases c1:i+1<=a/\a<R/\0<=b/\b<C
     ·rw [if_pos c1,if_pos ⟨by omega,c1.2⟩]
     ·rw [if_neg c1,h1]
      by_cases c2:a=i/\0<=b/\b<C
      ·obtain ⟨rfl,c3,c4⟩:=c2;rw [if_pos ⟨rfl,c3,c4⟩,if_pos ⟨by omega,by omega,c3,c4⟩]
      ·rw [if_neg c2,if_neg (by omega)]
    refine ⟨Z,hZ,λa b h5 h6 h7 h8=>?_,k3,k4⟩
    by_cases e:a=i
    ·subst e
     rw [k1,if_neg (by omega)];exact h2 b h7 h8
    ·exact k2 a b (by omega) h6 h7 h8
theorem zero_mk (hR:R<=48) (hC:C<=48):mkn (IntKind.i64.wrap ((R:Int) * C)) (0:Int)=some (mk R C λ_ _=>0):=by
 have hm:R * C<=48 * 48:=Nat.mul_le_mul hR hC
 have e:((R:Int) * C)=((R * C:Nat):Int):=by rw [Int.natCast_mul]
 rw [e,aN (by omega) (by omega)]
 unfold mkn
 rw [if_pos (by constructor <;> omega),Int.toNat_natCast]
 congr 1
 unfold mk
 rw [List.map_const']
 simp only [List.length_range]
theorem mul_both (hR:R<=48) (hK:K<=48) (hC:C<=48) (hF:5000<F) (hA:Bd R K A) (hB:Bd K C B) :
  ((eG.p F R C).bind (λr23=>aL.pl61 F F K (mk R K A) C (mk K C B) r23.1 r23.2.1 r23.2.2 R 0)=some (0,0,[],3)/\aw.p F R K (mk R K A) C (mk K C B)=some (0,0,[],false)) \/
  ∃ Y:Mat,(∀ a b:Int,0<=a->a<R->0<=b->b<C->Y a b=dts A B a b K 0)/\Bd R C Y/\(eG.p F R C).bind (λr23=>aL.pl61 F F K (mk R K A) C (mk K C B) r23.1 r23.2.1 r23.2.2 R 0)=some ((R:Int),(C:Int),mk R C Y,0) /\
   aw.p F R K (mk R K A) C (mk K C B)=some ((R:Int),(C:Int),mk R C Y,true):=by
 unfold eG.p aw.p eK.p
 rw [zero_mk hR hC]
 simp only [Option.bind_some]
 rcases mul_l (F:=F) hR hK hC hF hA hB R F F (λ_ _=>0) 0 (by omega) (by omega) (by omega) (by omega) with hb | ⟨Y,h1,h2,h3,h4⟩
 ·exact .inl hb
 ·exact .inr ⟨Y,λa b k1 k2 k3 k4=>by rw [h1,if_pos ⟨k1,k2,k3,k4⟩],λa b k1 k2 k3 k4=>ab_bd (h2 a b k1 k2 k3 k4),h3,h4⟩
end Go.Proofs.Ytokekkacliomkaa.AE
end
section
namespace Go.Proofs.Ytokekkacliomkaa.AE
open Go Go.AE Go.Proofs
variable {R C F:Nat} {A:Mat}
structure FV (R C:Nat) (A:Mat) (y:List Int):Prop where
 r:y.length<=R
 c:y.length<=C
 v:∀ a:Nat,a<y.length->y[a]?=some (A a a)/\0<A a a/\A a a<=1000000000000
 z:∀ a:Int,(y.length:Int)<=a->a<R->a<C->A a a=0
theorem facs_0 (hR:R<=48) (hC:C<=48) {n0:Int} (hn:n0=if (C:Int)<R then (C:Int) else R) {x:List Int}:∀ (m g:Nat) (i:Int),n0 - i=m->m<g->0<=i->(∀ a:Int,i<=a->a<R->a<C->A a a=0) ->
  bu.pl125 F g C (mk R C A) x n0 i=some (x,0):=by
 intro m
 induction m with
 | zero=>
  intro g i hm hg hi hz
  obtain ⟨g,rfl⟩:∃ g',g=g'+1:=⟨g - 1,by omega⟩
  rw [bu.pl125,decide_eq_false (by omega),cond_false]
 | succ m ih=>
  intro g i hm hg hi hz
  obtain ⟨g,rfl⟩:∃ g',g=g'+1:=⟨g - 1,by omega⟩
  have h48:n0<=C/\n0<=R:=by rw [hn];split <;> omega
  rw [bu.pl125,decide_eq_true (by omega),cond_true]
  simp (disch:=omega) only [gD,hJ,Option.bind_some]
  rw [hz i (by omega) (by omega) (by omega),show ((0:Int) != 0)=false from rfl,cond_false]
  unfold bu.pj2
  rw [aN (by omega) (by omega)]
  exact ih g (i+1) (by omega) (by omega) (by omega) λa h1=>hz a (by omega)
theorem facs_l (hR:R<=48) (hC:C<=48) (hD:Dia R C A) (hb:Bd R C A) {n0:Int} (hn:n0=if (C:Int)<R then (C:Int) else R):∀ (m g:Nat) (x:List Int),n0 - x.length=m->m<g ->
  (∀ a:Nat,a<x.length->x[a]?=some (A a a)/\0<A a a/\A a a<=1000000000000)->∃ y,bu.pl125 F g C (mk R C A) x n0 x.length=some (y,0)/\FV R C A y:=by
 intro m
 have h48:n0<=C/\n0<=R/\((C:Int)<=n0\/(R:Int)<=n0):=by rw [hn];split <;> omega
 induction m with
 | zero=>
  intro g x hm hg hx
  obtain ⟨g,rfl⟩:∃ g',g=g'+1:=⟨g - 1,by omega⟩
  rw [bu.pl125,decide_eq_false (by omega),cond_false]
  exact ⟨x,rfl,by omega,by omega,hx,λa h1 h2 h3=>by omega⟩
 | succ m ih=>
  intro g x hm hg hx
  by_cases h0:A x.length x.length=0
  ·refine ⟨x,?_,by omega,by omega,hx,λa h1 h2 h3=>?_⟩
   ·refine facs_0 hR hC hn (m+1) g x.length hm hg (by omega) λa h1 h2 h3=>?_
    have:=hD.c x.length a (by omega) h1 h2 h3
    rw [h0] at this;exact Int.zero_dvd.1 this
   ·have:=hD.c x.length a (by omega) h1 h2 h3
    rw [h0] at this;exact Int.zero_dvd.1 this
  ·obtain ⟨g,rfl⟩:∃ g',g=g'+1:=⟨g - 1,by omega⟩
   rw [bu.pl125,decide_eq_true (by omega),cond_true]
   simp (disch:=omega) only [gD,hJ,Option.bind_some]
   rw [show (A x.length x.length != 0)=true from bne_iff_ne.2 h0,cond_true]
   unfold apn
   rw [if_pos (by simp;omega),Option.bind_some]
   unfold bu.pj2
   have hl:((x++[A x.length x.length]).length:Int)=x.length+1:=by simp
   rw [aN (by omega) (by omega),<-hl]
   refine ih g (x++[A x.length x.length]) (by omega) (by omega) λa ha=>?_
   rw [List.length_append,List.length_singleton] at ha
   by_cases e:a=x.length
   ·subst e
    have h1:=hD.n x.length (by omega) (by omega) (by omega)
    have h2:=hb x.length x.length (by omega) (by omega) (by omega) (by omega)
    exact ⟨by rw [List.getElem?_append_right (Nat.le_refl _),Nat.sub_self];rfl,by omega,h2.2⟩
   ·rw [List.getElem?_append_left (by omega)]
    exact hx a (by omega)
theorem factors_v (hR:R<=48) (hC:C<=48) (hF:1000000000000000<=F) (hb:Bd R C A) :
  bu.p F R C (mk R C A)=some ([],3)\/∃ y v,Red R C A v/\Dia R C v.d/\FV R C v.d y/\bu.p F R C (mk R C A)=some (y,0):=by
 unfold bu.p
 rcases smith_both hR hC hF hb with ⟨e1,_⟩ | ⟨v,hv,hr,hd,_,e1,_⟩
 ·left;rw [e1];rfl
 ·right
  rw [e1]
  simp only [Option.bind_some]
  rw [show ((0:Int) != 0)=false from rfl,cond_false]
  obtain ⟨y,h1,h2⟩:=facs_l (F:=F) hR hC hd hv.1 rfl (if (C:Int)<R then (C:Int) else R).toNat F [] (by simp;split <;> omega) (by split <;> omega) λa ha=>by simp at ha
  exact ⟨y,v,hr,hd,h2,h1⟩
theorem inv_v {a b:Int} {l:List Int} (hF:1000000000000000<=F) (hl:l.length<=2000000) :
  (cn.p F a b l=some false/\eR.p F a b l=some ([],1))\/(∃ (R C:Nat) (A:Mat),a=R/\b=C/\R<=48/\C<=48/\l=mk R C A/\Bd R C A/\cn.p F a b l=some true/\eR.p F a b l=bu.p F a b l):=by
 unfold eR.p
 obtain ⟨v,_,e2,hv⟩:=isMatrix_both (F:=F) (a:=a) (b:=b) (by omega) hl
 rw [e2,Option.bind_some]
 cases v with
 | false=>exact .inl ⟨rfl,rfl⟩
 | true=>
  obtain ⟨R,C,A,rfl,rfl,hR,hC,rfl,hb⟩:=hv rfl
  refine .inr ⟨R,C,A,rfl,rfl,hR,hC,rfl,hb,rfl,?_⟩
  rw [Bool.not_true,cond_false]
  cases bu.p F R C (mk R C A) <;> rfl
end Go.Proofs.Ytokekkacliomkaa.AE
end
section
namespace Go.Proofs.Ytokekkacliomkaa.AE.SS
open Go Go.AE Go.Proofs
variable {F:Nat}
theorem ix_of {α:Type} {l:List α} {i:Int} (h0:0<=i) (h:i<l.length):ix l i=some i.toNat:=by
 unfold ix;rw [if_pos ⟨h0,h⟩]
structure Src (c:List Int) (a s:Int):Prop where
 b:∀ n:Nat,0<=gt c n/\gt c n<=255
 l:c.length<=1000000
 a0:0<=a
 a1:a<=c.length
 s0:0<=s
 s1:s<2147483647
theorem seed_ok {s:Int} (h0:0<=s) (h1:s<2147483647):∃ t,Int.tmod (IntKind.i64.wrap ((IntKind.i64.wrap (s * 48271))+11)) 2147483647=t/\0<=t/\t<2147483647:=by
 rw [aN (x:=s * 48271) (by omega) (by omega),aN (by omega) (by omega)]
 refine ⟨_,rfl,?_⟩
 rw [Int.tmod_eq_emod_of_nonneg (by omega)]
 constructor <;> omega
theorem mod_ok {x n:Int} (hx:0<=x) (hn:1<n):∃ r,Int.tmod x n=r/\0<=r/\r<n:=by
 refine ⟨_,rfl,?_⟩
 rw [Int.tmod_eq_emod_of_nonneg hx]
 exact ⟨Int.emod_nonneg _ (by omega),Int.emod_lt_of_pos _ (by omega)⟩
theorem next {c:List Int} {a s n:Int} (h:Src c a s):∃ r a' s',bw.p F c a s n=some (r,a',s')/\Src c a' s'/\0<=r/\(n<=1->r=0)/\(1<n->r<n):=by
 obtain ⟨h1,h2,h3,h4,h5,h6⟩:=h
 unfold bw.p
 by_cases hn:n<=1
 ·rw [decide_eq_true hn,cond_true]
  exact ⟨0,a,s,rfl,⟨h1,h2,h3,h4,h5,h6⟩,Int.le_refl _,λ_=>rfl,λq=>by omega⟩
 ·rw [decide_eq_false hn,cond_false]
  obtain ⟨t,e,t0,t1⟩:=seed_ok h5 h6
  simp only [e]
  have td:0<=Int.tdiv t 11/\Int.tdiv t 11<=t:=by
   rw [Int.tdiv_eq_ediv_of_nonneg t0];constructor <;> omega
  unfold bw.pj2 bw.pj1 bw.pj3
  have n0:¬ n=0:=by omega
  simp only [if_neg n0]
  by_cases ha:a<c.length
  ·rw [decide_eq_true ha,cond_true]
   have ix0:ix c a=some a.toNat:=ix_of h3 ha
   have gb:=h1 a.toNat
   rw [ix0,Option.bind_some,aN (x:=a+1) (by omega) (by omega),aN (x:=a+1 - 1) (by omega) (by omega),show a+1 - 1=a by omega,ix0,Option.bind_some,aN (x:=gt c a.toNat) (by omega) (by omega),aN (x:=Int.tdiv t 11) (by omega) (by omega),aN (x:=Int.tdiv t 11+gt c a.toNat) (by omega) (by omega)]
   have S:Src c (a+1) t:=⟨h1,h2,by omega,by omega,t0,t1⟩
   obtain ⟨r1,m1,m2,m3⟩:=mod_ok (x:=gt c a.toNat) (n:=n) gb.1 (by omega)
   obtain ⟨r2,m4,m5,m6⟩:=mod_ok (x:=Int.tdiv t 11+gt c a.toNat) (n:=n) (by omega) (by omega)
   rw [m1,m4]
   cases decide (n<=256) <;> cases (Int.tmod (a+1) 2==0) <;> simp only [cond_true,cond_false]
   ·exact ⟨r2,_,_,rfl,S,m5,λq=>absurd q hn,λ_=>m6⟩
   ·exact ⟨r2,_,_,rfl,S,m5,λq=>absurd q hn,λ_=>m6⟩
   ·exact ⟨r2,_,_,rfl,S,m5,λq=>absurd q hn,λ_=>m6⟩
   ·exact ⟨r1,_,_,rfl,S,m2,λq=>absurd q hn,λ_=>m3⟩
  ·rw [decide_eq_false ha,cond_false,aN (x:=Int.tdiv t 11) (by omega) (by omega)]
   obtain ⟨r2,m4,m5,m6⟩:=mod_ok (x:=Int.tdiv t 11) (n:=n) (by omega) (by omega)
   rw [m4]
   exact ⟨r2,_,_,rfl,⟨h1,h2,h3,h4,t0,t1⟩,m5,λq=>absurd q hn,λ_=>m6⟩
theorem from_l {c:List Int} (hc:c.length<=1000000) (hb:∀ n:Nat,0<=gt c n/\gt c n<=255):∀ (n g:Nat) (s i:Int),c.length - i=n->n<g->0<=i->0<=s->s<2147483647->∃ t,cL.pl29 F g c 0 s i=some (c,0,t)/\0<=t/\t<2147483647:=by
 intro n
 induction n with
 | zero=>
  intro g s i hn hg hi h0 h1
  obtain ⟨g,rfl⟩:∃ g',g=g'+1:=⟨g - 1,by omega⟩
  rw [cL.pl29,decide_eq_false (by omega),cond_false]
  exact ⟨s,rfl,h0,h1⟩
 | succ n ih=>
  intro g s i hn hg hi h0 h1
  obtain ⟨g,rfl⟩:∃ g',g=g'+1:=⟨g - 1,by omega⟩
  rw [cL.pl29,decide_eq_true (by omega),cond_true]
  cases decide (i<64) with
  | false=>exact ⟨s,rfl,h0,h1⟩
  | true=>
   have gb:=hb i.toNat
   rw [cond_true,ix_of hi (by omega),Option.bind_some,aN (x:=gt c i.toNat) (by omega) (by omega),aN (x:=s * 37) (by omega) (by omega),aN (x:=s * 37+gt c i.toNat) (by omega) (by omega),aN (x:=i+1) (by omega) (by omega)]
   obtain ⟨r,m1,m2,m3⟩:=mod_ok (x:=s * 37+gt c i.toNat) (n:=2147483647) (by omega) (by omega)
   rw [m1]
   exact ih g r (i+1) (by omega) (by omega) (by omega) m2 m3
theorem from_ {c:List Int} (hF:5000000<F) (hc:c.length<=1000000) (hb:∀ n:Nat,0<=gt c n/\gt c n<=255):∃ t,cL.p F c=some (c,0,t)/\Src c 0 t:=by
 unfold cL.p
 obtain ⟨t,e,h0,h1⟩:=from_l (F:=F) hc hb c.length F 97531 0 (by omega) (by omega) (by omega) (by omega) (by omega)
 exact ⟨t,e,hb,hc,Int.le_refl _,by omega,h0,h1⟩
theorem nx {c:List Int} {a s n:Int} (h:Src c a s) (hn:1<=n):∃ r a' s',bw.p F c a s n=some (r,a',s')/\Src c a' s'/\0<=r/\r<n:=by
 obtain ⟨r,a',s',e,h',r0,r1,r2⟩:=next (F:=F) (n:=n) h
 refine ⟨r,a',s',e,h',r0,?_⟩
 by_cases c:n<=1
 ·have:=r1 c;omega
 ·exact r2 (by omega)
end Go.Proofs.Ytokekkacliomkaa.AE.SS
end
section
namespace Go.Proofs.Ytokekkacliomkaa.AE
open Go Go.AE Go.Proofs
variable {F:Nat} {c:List Int}
theorem mem_set {l:List Int} {n:Nat} {x y:Int} (h:y∈l.set n x):y∈l\/y=x:=List.mem_or_eq_of_mem_set h
theorem ixk {α:Type} {l:List α} {i:Int} (h0:0<=i) (h:i<l.length):ix l i=some i.toNat:=SS.ix_of h0 h
theorem zero_l {a b:Int} (ha:0<=a) (ha':a<=1000) (hb:0<=b) (hb':b<=1000):eK.p F a b=some (a,b,List.replicate (a * b).toNat 0):=by
 have h0:0<=a * b:=Int.mul_nonneg ha hb
 have h1:a * b<=1000 * 1000:=Int.mul_le_mul ha' hb' hb (by omega)
 unfold eK.p mkn
 rw [aN (by omega) (by omega),if_pos (by omega)];rfl
theorem size_l {R C w:Int} (hw:1<=w) (hw6:w<=6):∀ (n g:Nat) (a s:Int) (l:List Int) (i:Int),l.length - i=n->n<g->0<=i->l.length<=1000000->(∀ x∈l,-6<=x/\x<=6)->SS.Src c a s ->
  ∃ l' a' s',bJ.pl61 F g c a s R C l w i=some (R,C,l',a',s')/\l'.length=l.length/\(∀ x∈l',-6<=x/\x<=6)/\SS.Src c a' s':=by
 intro n
 induction n with
 | zero=>
  intro g a s l i hn hg hi hl hx hs
  obtain ⟨g,rfl⟩:∃ g',g=g'+1:=⟨g - 1,by omega⟩
  rw [bJ.pl61,decide_eq_false (by omega),cond_false]
  exact ⟨l,a,s,rfl,rfl,hx,hs⟩
 | succ n ih=>
  intro g a s l i hn hg hi hl hx hs
  obtain ⟨g,rfl⟩:∃ g',g=g'+1:=⟨g - 1,by omega⟩
  rw [bJ.pl61,decide_eq_true (by omega),cond_true]
  obtain ⟨r,a1,s1,e1,h1,r0,r1⟩:=SS.nx (F:=F) (n:=3) hs (by omega)
  rw [e1,Option.bind_some]
  simp only []
  unfold bJ.pj2
  rw [aN (x:=i+1) (by omega) (by omega)]
  cases decide (r>0) with
  | false=>rw [cond_false];exact ih g a1 s1 l (i+1) (by omega) (by omega) (by omega) hl hx h1
  | true=>
   rw [cond_true,aN (x:=2 * w) (by omega) (by omega),aN (x:=2 * w+1) (by omega) (by omega)]
   obtain ⟨q,a2,s2,e2,h2,q0,q1⟩:=SS.nx (F:=F) (n:=2 * w+1) h1 (by omega)
   rw [e2,Option.bind_some,ixk hi (by omega),Option.bind_some,Option.bind_some]
   simp only []
   rw [aN (x:=q - w) (by omega) (by omega)]
   obtain ⟨l',a',s',e,k1,k2,k3⟩:=ih g a2 s2 (l.set i.toNat (q - w)) (i+1) (by rw [List.length_set];omega) (by omega) (by omega) (by rw [List.length_set];omega) (λx hx'=>by
    rcases mem_set hx' with h | h
    ·exact hx x h
    ·omega) h2
   exact ⟨l',a',s',e,by rw [k1,List.length_set],k2,k3⟩
theorem draw_size {R C a s:Int} (hF:5000000<F) (hR:0<=R) (hR':R<=100) (hC:0<=C) (hC':C<=100) (hs:SS.Src c a s) :
  ∃ l a' s',bJ.p F c a s R C=some (R,C,l,a',s')/\l.length=(R * C).toNat/\(∀ x∈l,-6<=x/\x<=6)/\SS.Src c a' s':=by
 unfold bJ.p
 have h0:0<=R * C:=Int.mul_nonneg hR hC
 have h1:R * C<=100 * 100:=Int.mul_le_mul hR' hC' hC (by omega)
 rw [zero_l hR (by omega) hC (by omega),Option.bind_some]
 obtain ⟨w,a1,s1,e1,k1,w0,w1⟩:=SS.nx (F:=F) (n:=6) hs (by omega)
 rw [e1,Option.bind_some]
 simp only []
 rw [aN (by omega) (by omega)]
 obtain ⟨l,a',s',e,q1,q2,q3⟩:=size_l (F:=F) (c:=c) (R:=R) (C:=C) (w:=1+w) (by omega) (by omega) (R * C).toNat F a1 s1 (List.replicate (R * C).toNat 0) 0 (by rw [List.length_replicate];omega) (by omega) (by omega) (by rw [List.length_replicate];omega) (λx hx=>by rw [List.eq_of_mem_replicate hx];omega) k1
 exact ⟨l,a',s',e,by rw [q1,List.length_replicate],q2,q3⟩
theorem draw_matrix {a s:Int} (hF:5000000<F) (hs:SS.Src c a s):∃ x y l a' s',gf.p F c a s=some (x,y,l,a',s')/\List.length l<=100/\SS.Src c a' s':=by
 unfold gf.p
 obtain ⟨x,a1,s1,e1,h1,x0,x1⟩:=SS.nx (F:=F) (n:=5) hs (by omega)
 obtain ⟨y,a2,s2,e2,h2,y0,y1⟩:=SS.nx (F:=F) (n:=5) h1 (by omega)
 obtain ⟨l,a3,s3,e3,l1,_,h3⟩:=draw_size (F:=F) (R:=x) (C:=y) hF x0 (by omega) y0 (by omega) h2
 obtain ⟨r,a4,s4,e4,h4,r0,r1⟩:=SS.nx (F:=F) (n:=24) h3 (by omega)
 have k0:0<=x * y:=Int.mul_nonneg x0 y0
 have k1:x * y<=5 * 5:=Int.mul_le_mul (by omega) (by omega) y0 (by omega)
 rw [e1,Option.bind_some]
 simp only []
 rw [e2,Option.bind_some]
 simp only []
 rw [e3,Option.bind_some]
 simp only []
 rw [e4,Option.bind_some]
 simp only []
 cases (r==0) with
 | true=>rw [cond_true];exact ⟨_,_,_,_,_,rfl,by omega,h4⟩
 | false=>
  cases (r==1) with
  | true=>
   have hap:apn l [(0:Int)]=some (l++[0]):=by unfold apn;rw [if_pos (by simp;omega)]
   rw [cond_false,cond_true,hap];exact ⟨_,_,_,_,_,rfl,by simp;omega,h4⟩
  | false=>
   cases (r==2) with
   | true=>
    simp only [cond_false,cond_true]
    by_cases hl:(l.length:Int)>0
    ·obtain ⟨k,a5,s5,e5,h5,p0,p1⟩:=SS.nx (F:=F) (n:=(l.length:Int)) h4 (by omega)
     obtain ⟨q,a6,s6,e6,h6,q0,q1⟩:=SS.nx (F:=F) (n:=5) h5 (by omega)
     rw [decide_eq_true hl,cond_true,e5,Option.bind_some]
     simp only []
     rw [e6,Option.bind_some]
     simp only []
     rw [ixk q0 (by simpa using q1),Option.bind_some,ixk p0 p1,Option.bind_some,Option.bind_some]
     exact ⟨_,_,_,_,_,rfl,by rw [List.length_set];omega,h6⟩
    ·rw [decide_eq_false hl,cond_false]
     exact ⟨_,_,_,_,_,rfl,by omega,h4⟩
   | false=>
    simp only [cond_false]
    cases (r==3) with
    | true=>
     obtain ⟨k,a5,s5,e5,h5,p0,p1⟩:=SS.nx (F:=F) (n:=3) h4 (by omega)
     rw [cond_true,e5,Option.bind_some]
     simp only []
     rw [ixk p0 (by simpa using p1),Option.bind_some]
     exact ⟨_,_,_,_,_,rfl,by simp,h5⟩
    | false=>rw [cond_false];exact ⟨_,_,_,_,_,rfl,by omega,h4⟩
end Go.Proofs.Ytokekkacliomkaa.AE
end
section
namespace Go.Proofs.Ytokekkacliomkaa.AE
open Go Go.AE Go.Proofs
variable {R K C F:Nat} {A B:Mat}
theorem dts_sg {i j:Int}:∀ (n:Nat) (k:Int),dts A B i j n k=Sg n λl=>A i (k+l) * B (k+l) j
 | 0,_=>rfl
 | n+1,k=>by
  have h:=Sg_split (f:=λl=>A i (k+l) * B (k+l) j) (a:=1) n
  rw [show 1+n=n+1 by omega] at h
  rw [h,dts,dts_sg n (k+1)]
  have e1:Sg 1 (λl=>A i (k+l) * B (k+l) j)=A i k * B k j:=by
   show 0+A i (k+((0:Nat):Int)) * B (k+((0:Nat):Int)) j=_
   rw [show k+((0:Nat):Int)=k by omega,Int.zero_add]
  rw [e1]
  congr 1
  exact Sg_congr λl _ _=>by rw [show k+1+l=k+(l+((1:Nat):Int)) by omega]
theorem dts_mm {i j:Int}:dts A B i j K 0=mm K A B i j:=by
 rw [dts_sg]
 exact Sg_congr λl _ _=>by rw [Int.zero_add]
theorem mul_nil {n:Int} {m:List Int} {X:List Int} (hR:R<=48) (hF:0<F):∀ (k g:Nat) (i:Int),R - i=k->k<g->0<=i->aL.pl61 F g n m (0:Nat) [] R (0:Nat) X R i=some ((R:Int),((0:Nat):Int),X,0):=by
 obtain ⟨f,hf⟩:∃ f,F=f+1:=⟨F - 1,by omega⟩
 intro k
 induction k with
 | zero=>
  intro g i hk hg hi
  obtain ⟨g,rfl⟩:∃ g',g=g'+1:=⟨g - 1,by omega⟩
  rw [aL.pl61,decide_eq_false (by omega),cond_false]
 | succ k ih=>
  intro g i hk hg hi
  obtain ⟨g,rfl⟩:∃ g',g=g'+1:=⟨g - 1,by omega⟩
  rw [aL.pl61,decide_eq_true (by omega),cond_true]
  have h:∀ (pC:Int->List Int->Int->List Int->Int->Int->List Int->Int->Int->Option (Int×Int×List Int×Int)) (G:Nat),aL.pl3931 F pC (G+1) n m (0:Nat) [] R (0:Nat) X R i i (0:Nat) 0=pC n m (0:Nat) [] R (0:Nat) X R (IntKind.i64.wrap (i+1)):=λpC G=>by
   rw [aL.pl3931,decide_eq_false (by omega),cond_false];rfl
  have h':=h (aL.pl61 F g) f
  rw [<- hf] at h'
  rw [h',aN (by omega) (by omega)]
  exact ih g (i+1) (by omega) (by omega) (by omega)
inductive HV (F:Nat) (a b:Int) (l:List Int) (c d:Int) (m:List Int):Int->List Int->Int->Prop
 | bad (e:Int) (he:e≠0):HV F a b l c d m 0 [] e
 | good (R n C':Nat) (A B:Mat) (v w:St) (y y':List Int) (ha:a=n) (hb:b=C') (hc:c=R) (hd:d=n) (hR:R<=48) (hn:n<=48) (hC:C'<=48) (hl:l=mk n C' B) (hm:m=mk R n A) (bA:Bd R n A) (bB:Bd n C' B)
   (h0:On R C' (mm n A B) λ_ _=>0) (rA:Red R n A v) (rB:Red n C' B w) (dA:Dia R n v.d) (dB:Dia n C' w.d) (fA:FV R n v.d y') (fB:FV n C' w.d y)
   (mB:cn.p F a b l=some true) (mA:cn.p F c d m=some true) (eA:bu.p F c d m=some (y',0)) (eB:bu.p F a b l=some (y,0)):HV F a b l c d m (IntKind.i64.wrap (IntKind.i64.wrap (a - y.length) - y'.length)) (tor y) 0
end Go.Proofs.Ytokekkacliomkaa.AE
end
section
namespace Go.Proofs.Ytokekkacliomkaa.AE
open Go Go.AE Go.Proofs
variable {F:Nat} {c:List Int}
theorem and_m (x:Int):0<=bits .and .u64 x 16777215/\bits .and .u64 x 16777215<=16777215:=by
 have h:(BitVec.ofInt 64 x &&& BitVec.ofInt 64 16777215).toNat<=16777215:=by
  rw [BitVec.toNat_and];exact Nat.le_trans Nat.and_le_right (by decide)
 have e:bits .and .u64 x 16777215=IntKind.u64.wrap ((BitVec.ofInt 64 x &&& BitVec.ofInt 64 16777215).toNat:Int):=rfl
 rw [e]
 generalize (BitVec.ofInt 64 x &&& BitVec.ofInt 64 16777215).toNat=k at h
 have e2:IntKind.u64.wrap (k:Int)=(k:Int) % 2 ^ 64:=rfl
 rw [e2]
 omega
theorem below {i h n:Int} (hc:c.length<=1000000) (hb:∀ m:Nat,0<=gt c m/\gt c m<=255) (hi:0<=i/\i<=c.length) (hn:1<=n) (hn2:n<=1000):∃ r i' h',ev.p F c i h n=some (r,i',h')/\0<=r/\r<n/\0<=i'/\i'<=c.length:=by
 unfold ev.p ev.pj1
 have a0:=and_m (Int.fdiv (IntKind.u64.wrap ((IntKind.u64.wrap (h * 6364136223846793005))+1442695040888963407)) (2 ^ (min (33:Int).toNat (IntKind.u64).bits)))
 generalize bits .and .u64 (Int.fdiv (IntKind.u64.wrap ((IntKind.u64.wrap (h * 6364136223846793005))+1442695040888963407)) (2 ^ (min (33:Int).toNat (IntKind.u64).bits))) 16777215=x at a0
 rw [aN (x:=x) (by omega) (by omega)]
 by_cases hlt:i<c.length
 ·have:=hb i.toNat
  rw [decide_eq_true hlt,cond_true,ixk hi.1 hlt,Option.bind_some,aN (x:=gt c i.toNat) (by omega) (by omega),aN (x:=x+gt c i.toNat) (by omega) (by omega),aN (x:=i+1) (by omega) (by omega),if_neg (by omega)]
  obtain ⟨r,m1,m2,m3⟩:∃ r,Int.tmod (x+gt c i.toNat) n=r/\0<=r/\r<n:=⟨_,rfl,by rw [Int.tmod_eq_emod_of_nonneg (by omega)];exact Int.emod_nonneg _ (by omega),by rw [Int.tmod_eq_emod_of_nonneg (by omega)];exact Int.emod_lt_of_pos _ (by omega)⟩
  rw [m1]
  exact ⟨r,_,_,rfl,m2,m3,by omega,by omega⟩
 ·rw [decide_eq_false hlt,cond_false,if_neg (by omega)]
  obtain ⟨r,m1,m2,m3⟩:∃ r,Int.tmod x n=r/\0<=r/\r<n:=⟨_,rfl,by rw [Int.tmod_eq_emod_of_nonneg (by omega)];exact Int.emod_nonneg _ (by omega),by rw [Int.tmod_eq_emod_of_nonneg (by omega)];exact Int.emod_lt_of_pos _ (by omega)⟩
  rw [m1]
  exact ⟨r,_,_,rfl,m2,m3,hi.1,hi.2⟩
structure Ord (n:Nat) (p:List Int):Prop where
 l:p.length=n
 r:∀ x∈p,0<=x/\x<n
 s:∀ a:Nat,a<n->∃ i:Nat,i<n/\p[i]?=some (a:Int)
theorem Ord.swap {n:Nat} {p:List Int} (h:Ord n p) {i k:Nat} (hi:i<n) (hk:k<n):Ord n ((p.set i (gt p k)).set k (gt p i)):=by
 have hl:=h.l
 have gi:gt p i=p[i]'(by omega):=by unfold gt;simp [show i<p.length by omega]
 have gk:gt p k=p[k]'(by omega):=by unfold gt;simp [show k<p.length by omega]
 refine ⟨by rw [List.length_set,List.length_set];exact h.l,λx hx=>?_,λa ha=>?_⟩
 ·rcases mem_set hx with hx | rfl
  ·rcases mem_set hx with hx | rfl
   ·exact h.r x hx
   ·rw [gk];exact h.r _ (List.getElem_mem _)
  ·rw [gi];exact h.r _ (List.getElem_mem _)
 ·obtain ⟨j,hj,e⟩:=h.s a ha
  by_cases e1:j=i
  ·subst e1
   refine ⟨k,hk,?_⟩
   rw [List.getElem?_set_self (by rw [List.length_set];omega),gi]
   rw [List.getElem?_eq_getElem (by omega)] at e;exact e
  ·by_cases e2:j=k
   ·subst e2
    refine ⟨i,hi,?_⟩
    by_cases e3:j=i
    ·exact absurd e3 e1
    ·rw [List.getElem?_set_ne e3,List.getElem?_set_self (by omega),gk]
     rw [List.getElem?_eq_getElem (by omega)] at e;exact e
   ·refine ⟨j,hj,?_⟩
    rw [List.getElem?_set_ne (Ne.symm e2),List.getElem?_set_ne (Ne.symm e1)];exact e
theorem shuf2 {n:Nat} (hn:n<=48) (hc:c.length<=1000000) (hb:∀ m:Nat,0<=gt c m/\gt c m<=255):∀ (m g:Nat) (i h:Int) (p:List Int),m<g->(m:Int)<n\/m=0->0<=i/\i<=c.length->Ord n p->∃ p' i' h',aY.pl61 F g c i h p m=some (p',i',h')/\Ord n p'/\0<=i'/\i'<=c.length:=by
 intro m
 induction m with
 | zero=>
  intro g i h p hg hm hi hp
  obtain ⟨g,rfl⟩:∃ g',g=g'+1:=⟨g - 1,by omega⟩
  rw [aY.pl61,decide_eq_false (by omega),cond_false]
  exact ⟨p,i,h,rfl,hp,hi.1,hi.2⟩
 | succ m ih=>
  intro g i h p hg hm hi hp
  obtain ⟨g,rfl⟩:∃ g',g=g'+1:=⟨g - 1,by omega⟩
  have hl:=hp.l
  obtain ⟨r,i',h',e,r0,r1,i0,i1⟩:=below (F:=F) (i:=i) (h:=h) (n:=((m+1:Nat):Int)+1) hc hb hi (by omega) (by omega)
  obtain ⟨k,rfl⟩:=Int.eq_ofNat_of_zero_le r0
  have x1:ix p ((m+1:Nat):Int)=some (m+1):=by rw [ixk (by omega) (by omega)];rfl
  have x2:ix p (k:Int)=some k:=by rw [ixk (by omega) (by omega)];rfl
  have x3:ix (p.set (m+1) (gt p k)) (k:Int)=some k:=by rw [ixk (by omega) (by rw [List.length_set];omega)];rfl
  rw [aY.pl61,decide_eq_true (by omega),cond_true,aN (x:=((m+1:Nat):Int)+1) (by omega) (by omega),e,Option.bind_some]
  simp only []
  rw [x1,Option.bind_some,x2,Option.bind_some,Option.bind_some,Option.bind_some,x3,Option.bind_some,Option.bind_some,aN (x:=((m+1:Nat):Int) - 1) (by omega) (by omega),show ((m+1:Nat):Int) - 1=(m:Int) by omega]
  exact ih g i' h' _ (by omega) (by omega) ⟨i0,i1⟩ (hp.swap (by omega) (by omega))
def upto (n:Nat):List Int:=(List.range n).map λ(k:Nat)=>(k:Int)
theorem shuf1 {n:Nat} (hn:n<=48) (hF:5000<F) (hc:c.length<=1000000) (hb:∀ m:Nat,0<=gt c m/\gt c m<=255) {i h:Int} (hi:0<=i/\i<=c.length):∀ (m g j:Nat),n - j=m->m<g->j<=n->∃ p' i' h',aY.pl29 F g c i h n (upto j) j=some (p',i',h')/\Ord n p'/\0<=i'/\i'<=c.length:=by
 intro m
 induction m with
 | zero=>
  intro g j hm hg hj
  obtain ⟨g,rfl⟩:∃ g',g=g'+1:=⟨g - 1,by omega⟩
  obtain rfl:j=n:=by omega
  rw [aY.pl29,decide_eq_false (by omega),cond_false]
  unfold aY.pj1
  have ho:Ord j (upto j):=⟨by simp [upto],λx hx=>by
   obtain ⟨y,hy,rfl⟩:=List.mem_map.1 hx
   have:=List.mem_range.1 hy;omega,λa ha=>⟨a,ha,by unfold upto;rw [List.getElem?_map,List.getElem?_range ha];rfl⟩⟩
  rw [aN (by omega) (by omega)]
  by_cases h0:j=0
  ·subst h0
   obtain ⟨f,hf⟩:∃ f,F=f+1:=⟨F - 1,by omega⟩
   have:∀ G,aY.pl61 F (G+1) c i h (upto 0) (((0:Nat):Int) - 1)=some (upto 0,i,h):=λG=>by
    rw [aY.pl61,decide_eq_false (by omega),cond_false]
   have:=this f
   rw [<- hf] at this
   exact ⟨_,_,_,this,ho,hi.1,hi.2⟩
  ·have:=shuf2 (F:=F) hn hc hb (j - 1) F i h (upto j) (by omega) (by omega) hi ho
   rw [show (((j - 1:Nat)):Int)=(j:Int) - 1 by omega] at this
   exact this
 | succ m ih=>
  intro g j hm hg hj
  obtain ⟨g,rfl⟩:∃ g',g=g'+1:=⟨g - 1,by omega⟩
  have hap:apn (upto j) [(j:Int)]=some (upto (j+1)):=by
   unfold apn;rw [if_pos (by simp [upto];omega)]
   unfold upto;rw [List.range_succ,List.map_append];rfl
  rw [aY.pl29,decide_eq_true (by omega),cond_true,hap,Option.bind_some,aN (by omega) (by omega)]
  exact ih g (j+1) (by omega) (by omega) (by omega)
theorem shuffled {n:Nat} (hn:n<=48) (hF:5000<F) (hc:c.length<=1000000) (hb:∀ m:Nat,0<=gt c m/\gt c m<=255) {i h:Int} (hi:0<=i/\i<=c.length):∃ p' i' h',aY.p F c i h n=some (p',i',h')/\Ord n p'/\0<=i'/\i'<=c.length:=by
 unfold aY.p
 exact shuf1 hn hF hc hb hi n F 0 (by omega) (by omega) (by omega)
theorem roll_l (hc:c.length<=1000000) {i:Int}:∀ (m g:Nat) (h:Int) (j:Int),c.length - j=m->m<g->0<=j->∃ h',ct.pl29 F g c i h j=some (c,i,h'):=by
 intro m
 induction m with
 | zero=>
  intro g h j hm hg hj
  obtain ⟨g,rfl⟩:∃ g',g=g'+1:=⟨g - 1,by omega⟩
  rw [ct.pl29,decide_eq_false (by omega),cond_false]
  exact ⟨h,rfl⟩
 | succ m ih=>
  intro g h j hm hg hj
  obtain ⟨g,rfl⟩:∃ g',g=g'+1:=⟨g - 1,by omega⟩
  rw [ct.pl29,decide_eq_true (by omega),cond_true,ixk hj (by omega),Option.bind_some,aN (x:=j+1) (by omega) (by omega)]
  exact ih g _ (j+1) (by omega) (by omega) (by omega)
theorem Sim.trans {R C:Nat} {A B D:Mat} (h:Sim R C A B) (h':Sim R C B D):Sim R C A D:=by
 obtain ⟨P,U,h⟩:=h
 obtain ⟨Q,V,h'⟩:=h'
 refine ⟨mm R Q P,mm C U V,λi j h1 h2 h3 h4=>?_⟩
 rw [h' i j h1 h2 h3 h4]
 have e:On R C (mm C (mm R Q B) V) (mm C (mm R (mm R Q P) A) (mm C U V)):=by
  rw [show mm R (mm R Q P) A=mm R Q (mm R P A) from mm_assoc,show mm C (mm R Q (mm R P A)) (mm C U V)=mm C (mm C (mm R Q (mm R P A)) U) V from mm_assoc.symm,show mm C (mm R Q (mm R P A)) U=mm R Q (mm C (mm R P A) U) from mm_assoc]
  exact On.mm (On.mm On.refl h) On.refl
 exact e i j h1 h2 h3 h4
def prm (A:Mat) (p q:List Int):Mat:=λi j=>A (gt p i.toNat) (gt q j.toNat)
theorem Ord.gt {n:Nat} {p:List Int} (h:Ord n p) {i:Int} (h0:0<=i) (hi:i<n):0<=Go.AE.gt p i.toNat/\Go.AE.gt p i.toNat<n:=by
 have hl:=h.l
 have e:Go.AE.gt p i.toNat=p[i.toNat]'(by omega):=by unfold Go.AE.gt;simp [show i.toNat<p.length by omega]
 rw [e];exact h.r _ (List.getElem_mem _)
theorem prm_sim {R C:Nat} {A:Mat} {p q:List Int} (hp:Ord R p) (hq:Ord C q):Sim R C A (prm A p q):=by
 refine ⟨λi a=>if a=gt p i.toNat then 1 else 0,λb j=>if b=gt q j.toNat then 1 else 0,λi j h1 h2 h3 h4=>?_⟩
 have gp:=hp.gt h1 h2
 have gq:=hq.gt h3 h4
 show A (gt p i.toNat) (gt q j.toNat)=Sg C λb=>(Sg R λa=>(if a=gt p i.toNat then 1 else 0) * A a b) * (if b=gt q j.toNat then 1 else 0)
 rw [Sg_congr (g:=λb=>if b=gt q j.toNat then A (gt p i.toNat) b else 0) λb _ _=>by
  rw [Sg_congr (g:=λa=>if a=gt p i.toNat then A a b else 0) λa _ _=>by by_cases e:a=gt p i.toNat <;> simp [e],Sg_one gp.1,if_pos gp.2]
  by_cases e:b=gt q j.toNat <;> simp [e],Sg_one gq.1,if_pos gq.2]
open Classical in
theorem prm_mis {R C:Nat} {A:Mat} {p q:List Int} (hp:Ord R p) (hq:Ord C q):Sim R C (prm A p q) A:=by
 have inv:∀ {n:Nat} {p:List Int},Ord n p->∃ f:Int->Int,∀ a:Int,0<=a->a<n->0<=f a/\f a<n/\gt p (f a).toNat=a:=λ{n p} h=>by
  refine ⟨λa=>if h':∃ i:Int,0<=i/\i<n/\gt p i.toNat=a then h'.choose else 0,λa h0 ha=>?_⟩
  have h':∃ i:Int,0<=i/\i<n/\gt p i.toNat=a:=by
   obtain ⟨i,hi,e⟩:=h.s a.toNat (by omega)
   refine ⟨i,by omega,by omega,?_⟩
   rw [Int.toNat_natCast]
   unfold gt
   rw [List.getD_eq_getElem?_getD,e]
   show ((a.toNat:Nat):Int)=a
   omega
  simp only [dif_pos h']
  exact h'.choose_spec
 obtain ⟨f,hf⟩:=inv hp
 obtain ⟨g,hg⟩:=inv hq
 refine ⟨λi a=>if a=f i then 1 else 0,λb j=>if b=g j then 1 else 0,λi j h1 h2 h3 h4=>?_⟩
 obtain ⟨f1,f2,f3⟩:=hf i h1 h2
 obtain ⟨g1,g2,g3⟩:=hg j h3 h4
 show A i j=Sg C λb=>(Sg R λa=>(if a=f i then 1 else 0) * prm A p q a b) * (if b=g j then 1 else 0)
 rw [Sg_congr (g:=λb=>if b=g j then prm A p q (f i) b else 0) λb _ _=>by
  rw [Sg_congr (g:=λa=>if a=f i then prm A p q a b else 0) λa _ _=>by by_cases e:a=f i <;> simp [e],Sg_one f1,if_pos f2]
  by_cases e:b=g j <;> simp [e],Sg_one g1,if_pos g2]
 unfold prm
 rw [f3,g3]
theorem FV.uniq {R C:Nat} {A B:Mat} {y z:List Int} (h:FV R C A y) (h':FV R C B z) (e:∀ i:Int,0<=i->i<R->i<C->A i i=B i i):y=z:=by
 have hr:=h.r;have hc:=h.c;have hr':=h'.r;have hc':=h'.c
 have hl:y.length=z.length:=by
  rcases Nat.lt_trichotomy y.length z.length with q | q | q
  ·have h1:=h.z y.length (by omega) (by omega) (by omega)
   have h2:=(h'.v y.length q).2.1
   rw [e _ (by omega) (by omega) (by omega)] at h1;omega
  ·exact q
  ·have h1:=h'.z z.length (by omega) (by omega) (by omega)
   have h2:=(h.v z.length q).2.1
   rw [<- e _ (by omega) (by omega) (by omega)] at h1;omega
 apply List.ext_getElem?
 intro a
 by_cases ha:a<y.length
 ·rw [(h.v a ha).1,(h'.v a (by omega)).1,e a (by omega) (by omega) (by omega)]
 ·rw [List.getElem?_eq_none (by omega),List.getElem?_eq_none (by omega)]
end Go.Proofs.Ytokekkacliomkaa.AE
end
section
namespace Go.Proofs.Ytokekkacliomkaa.AE
open Go Go.AE Go.Proofs
variable {R C F:Nat} {A:Mat} {c:List Int}
theorem is_true (hR:R<=48) (hC:C<=48) (hF:5000000<F) (hb:Bd R C A):cn.p F R C (mk R C A)=some true:=by
 have hm:R * C<=48 * 48:=Nat.mul_le_mul hR hC
 unfold cn.p gg.p gZ.p gR.p cy.p
 rw [decide_eq_true (show (0:Int)<=R by omega),decide_eq_true (show (R:Int)<=48 by omega)]
 simp only [cond_true,Option.bind_some]
 rw [decide_eq_true (show (0:Int)<=C by omega),decide_eq_true (show (C:Int)<=48 by omega)]
 simp only [cond_true,Option.bind_some]
 rw [<- Int.natCast_mul,aN (by omega) (by omega),gP,beq_self_eq_true,cond_true]
 obtain ⟨r,e,h⟩:=implM_l (F:=F) (l:=mk R C A) (by rw [gP];omega) (mk R C A).length F 0 (by omega) (by rw [gP];omega) (by omega)
 rw [gP] at e
 rw [e,Option.bind_some,Option.bind_some]
 have:¬ r>=0:=h.2 λa _ ha=>by
  rw [gP] at ha
  have hC0:0<C:=by
   rcases Nat.eq_zero_or_pos C with q | q
   ·subst q;simp at ha
   ·exact q
  have h1:a / C<R:=(Nat.div_lt_iff_lt_mul hC0).2 ha
  have h2:=Nat.mod_lt a hC0
  have e2:gt (mk R C A) a=A ((a / C:Nat):Int) ((a % C:Nat):Int):=by
   unfold gt mk
   rw [List.getD_eq_getElem?_getD,List.getElem?_map,List.getElem?_range ha];rfl
  rw [e2]
  exact hb _ _ (Int.natCast_nonneg _) (Int.ofNat_lt.2 h1) (Int.natCast_nonneg _) (Int.ofNat_lt.2 h2)
 rw [decide_eq_false this];rfl
theorem y_ (hR:R<=48) (hC:C<=48) (hF:5000000<F) (hb:Bd R C A):bS.p F R C (mk R C A)=some true:=by
 have hm:R * C<=48 * 48:=Nat.mul_le_mul hR hC
 obtain ⟨v,e1,e2,_⟩:=isMatrix_both (F:=F) (a:=R) (b:=C) (l:=mk R C A) hF (by rw [gP];omega)
 rw [is_true hR hC hF hb] at e2
 rw [e1,<-Option.some.inj e2]
theorem eq_self_l {l:List Int} (hl:l.length<=1000000):∀ (m g:Nat) (i:Int),l.length - i=m->m<g->0<=i->cW.pl29 F g l l l.length i=some true:=by
 intro m
 induction m with
 | zero=>
  intro g i hm hg hi
  obtain ⟨g,rfl⟩:∃ g',g=g'+1:=⟨g - 1,by omega⟩
  rw [cW.pl29,decide_eq_false (by omega),cond_false]
 | succ m ih=>
  intro g i hm hg hi
  obtain ⟨g,rfl⟩:∃ g',g=g'+1:=⟨g - 1,by omega⟩
  rw [cW.pl29,decide_eq_true (by omega),cond_true,ixk hi (by omega),Option.bind_some,Option.bind_some,bne_self_eq_false,cond_false,aN (by omega) (by omega)]
  exact ih g (i+1) (by omega) (by omega) (by omega)
theorem eq_self {l:List Int} (hF:2000000<F) (hl:l.length<=1000000):cW.p F l l=some true:=by
 unfold cW.p
 rw [bne_self_eq_false,cond_false]
 exact eq_self_l hl l.length F 0 (by omega) (by omega) (by omega)
theorem same_self {a b:Int} {l:List Int} (hF:2000000<F) (hl:l.length<=1000000):fV.p F a b l a b l=some true:=by
 unfold fV.p
 rw [beq_self_eq_true,beq_self_eq_true,eq_self hF hl];rfl
theorem like_l {l:List Int} (hl:l.length<=1000000):∀ (m g:Nat) (i:Int),l.length - i=m->m<g->0<=i->cu.pl29 F g l l i=some true:=by
 intro m
 induction m with
 | zero=>
  intro g i hm hg hi
  obtain ⟨g,rfl⟩:∃ g',g=g'+1:=⟨g - 1,by omega⟩
  rw [cu.pl29,decide_eq_false (by omega),cond_false]
 | succ m ih=>
  intro g i hm hg hi
  obtain ⟨g,rfl⟩:∃ g',g=g'+1:=⟨g - 1,by omega⟩
  rw [cu.pl29,decide_eq_true (by omega),cond_true,ixk hi (by omega),Option.bind_some,Option.bind_some,bne_self_eq_false,cond_false,aN (by omega) (by omega)]
  exact ih g (i+1) (by omega) (by omega) (by omega)
theorem like_self {l:List Int} (hF:2000000<F) (hl:l.length<=1000000):cu.p F l l=some true:=by
 unfold cu.p
 rw [bne_self_eq_false,cond_false]
 exact like_l hl l.length F 0 (by omega) (by omega) (by omega)
theorem mulS {K:Nat} {B:Mat} (hR:R<=48) (hK:K<=48) (hC:C<=48) (hF:5000000<F) (hA:Bd R K A) (hB:Bd K C B) :
  dU.p F R K (mk R K A) K C (mk K C B)=some (0,0,[],3) \/
  (Bd R C (mm K A B)/\dU.p F R K (mk R K A) K C (mk K C B)=some ((R:Int),(C:Int),mk R C (mm K A B),0)/\aL.p F R K (mk R K A) K C (mk K C B)=some ((R:Int),(C:Int),mk R C (mm K A B),0)):=by
 unfold dU.p aL.p
 rw [y_ hR hK hF hA,y_ hK hC hF hB,is_true hR hK hF hA,is_true hK hC hF hB]
 simp only [Option.bind_some,Bool.not_true,cond_false,bne_self_eq_false]
 rcases mul_both (F:=F) hR hK hC (by omega) hA hB with ⟨_,h⟩ | ⟨Y,h1,h2,h3,h4⟩
 ·rw [h];exact .inl rfl
 ·have e:∀ i j:Int,0<=i->i<R->0<=j->j<C->Y i j=mm K A B i j:=λi j a b c d=>by rw [h1 i j a b c d,dts_mm]
  refine .inr ⟨λi j a b c d=>?_,?_,?_⟩
  ·rw [<- e i j a b c d];exact h2 i j a b c d
  ·rw [h4,dC e];rfl
  ·rw [h3,dC e]
theorem inv_ok {n:Nat} {A B:Mat} (hn:n<=48) (hF:5000000<F) (h:On n n (mm n A B) idM) (e:aL.p F n n (mk n n A) n n (mk n n B)=some ((n:Int),(n:Int),mk n n (mm n A B),0)):fJ.p F n n (mk n n A) n n (mk n n B) n=some true:=by
 have hm:n * n<=48 * 48:=Nat.mul_le_mul hn hn
 unfold fJ.p
 rw [e,Option.bind_some]
 simp only [beq_self_eq_true,cond_true]
 rw [su (by omega) hF,Option.bind_some,dC h,same_self (by omega) (by rw [gP];omega)];rfl
theorem diag_in (hR:R<=48) (hC:C<=48) (hF:5000<F) (hD:Dia R C A) {pC} {i:Int} (hi:0<=i) (hiR:i<R):∀ (m g:Nat) (j L:Int),C - j=m->m<g->0<=j->(j<=i->∀ a:Int,i<=a->a<R->a<C->L∣A a a)->(i<j->∀ a:Int,i<a->a<R->a<C->L∣A a a) ->
  ∃ L',(∀ a:Int,i+1<=a->a<R->a<C->L'∣A a a)/\ag.pl1883 F pC g C (mk R C A) L R i i C j=pC C (mk R C A) L' R (i+1):=by
 intro m
 induction m with
 | zero=>
  intro g j L hm hg hj h1 h2
  obtain ⟨g,rfl⟩:∃ g',g=g'+1:=⟨g - 1,by omega⟩
  rw [ag.pl1883,decide_eq_false (by omega),cond_false]
  unfold ag.pj34 ag.pj33
  rw [aN (by omega) (by omega)]
  refine ⟨L,λa ha hR hC=>?_,rfl⟩
  by_cases q:i<j
  ·exact h2 q a (by omega) hR hC
  ·omega
 | succ m ih=>
  intro g j L hm hg hj h1 h2
  obtain ⟨g,rfl⟩:∃ g',g=g'+1:=⟨g - 1,by omega⟩
  rw [ag.pl1883,decide_eq_true (by omega),cond_true]
  simp (disch:=omega) only [gD,hJ,Option.bind_some]
  have hw:IntKind.i64.wrap (j+1)=j+1:=aN (by omega) (by omega)
  simp only [ag.pj35,ag.pj36,ag.pj37,ag.pj38,ag.pj39,ag.pj40,ag.pj41,ag.pj42,ag.pj43,ag.pj44,hw]
  by_cases e:i=j
  ·subst e
   have hx0:=hD.n i hi hiR (by omega)
   have hdv:=h1 (Int.le_refl _) i (Int.le_refl _) hiR (by omega)
   have hnext:∃ L',(∀ a:Int,i+1<=a->a<R->a<C->L'∣A a a)/\ag.pl1883 F pC g C (mk R C A) (A i i) R i i C (i+1)=pC C (mk R C A) L' R (i+1):=
    ih g (i+1) (A i i) (by omega) (by omega) (by omega) (λh=>by omega) (λ_ a ha haR haC=>hD.c i a hi (by omega) haR haC)
   rw [bne_self_eq_false,beq_self_eq_true,decide_eq_false (show ¬ A i i<0 by omega)]
   simp only [cond_false,cond_true]
   by_cases hL:L=0
   ·subst hL
    have hz:A i i=0:=Int.zero_dvd.1 hdv
    rw [hz] at hnext
    rw [hz]
    simp only [beq_self_eq_true,bne_self_eq_false,cond_true,cond_false]
    exact hnext
   ·rw [show (L==0)=false from beq_eq_false_iff_ne.2 hL,show (L != 0)=true from bne_iff_ne.2 hL,if_neg hL,Int.tmod_eq_zero_of_dvd hdv]
    simp only [bne_self_eq_false,cond_true,cond_false]
    exact hnext
  ·have hz:A i j=0:=hD.o i j hi hiR hj (by omega) e
   have hnext:∃ L',(∀ a:Int,i+1<=a->a<R->a<C->L'∣A a a)/\ag.pl1883 F pC g C (mk R C A) L R i i C (j+1)=pC C (mk R C A) L' R (i+1):=
    ih g (j+1) L (by omega) (by omega) (by omega) (λh=>h1 (by omega)) (λh a ha haR haC=>by
     by_cases q:i<j
     ·exact h2 q a ha haR haC
     ·exact h1 (by omega) a (by omega) haR haC)
   rw [show (i != j)=true from bne_iff_ne.2 e,show (i==j)=false from beq_eq_false_iff_ne.2 e,hz,decide_eq_false (show ¬ (0:Int)<0 by omega)]
   simp only [bne_self_eq_false,cond_true,cond_false]
   exact hnext
theorem diag_true (hR:R<=48) (hC:C<=48) (hF:5000<F) (hD:Dia R C A):ag.p F R C (mk R C A)=some true:=by
 unfold ag.p
 have:∀ (m g:Nat) (i L:Int),R - i=m->m<g->0<=i->(∀ a:Int,i<=a->a<R->a<C->L∣A a a)->ag.pl29 F g C (mk R C A) L R i=some true:=by
  intro m
  induction m with
  | zero=>
   intro g i L hm hg hi hL
   obtain ⟨g,rfl⟩:∃ g',g=g'+1:=⟨g - 1,by omega⟩
   rw [ag.pl29,decide_eq_false (by omega),cond_false]
  | succ m ih=>
   intro g i L hm hg hi hL
   obtain ⟨g,rfl⟩:∃ g',g=g'+1:=⟨g - 1,by omega⟩
   rw [ag.pl29,decide_eq_true (by omega),cond_true]
   obtain ⟨L',h1,h2⟩:=diag_in (F:=F) (pC:=ag.pl29 F g) hR hC hF hD hi (by omega) C F 0 L (by omega) (by omega) (by omega) (λ_=>hL) (λh a ha=>hL a (by omega))
   rw [h2]
   exact ih g (i+1) L' (by omega) (by omega) (by omega) h1
 exact this R F 0 1 (by omega) (by omega) (by omega) λa _ _ _=>Int.one_dvd _
theorem oth_in (hR:R<=48) (hC:C<=48) {p q y:List Int} (hp:Ord R p) (hq:Ord C q) {pC} {i:Nat} (hi:i<R):∀ (m g j:Nat),C - j=m->m<g->j<=C ->
  ap.pl67108821 F pC g R C (mk R C A) y p q R C ((mk R C (prm A p q)).take (i * C+j)) i j=pC R C (mk R C A) y p q R C ((mk R C (prm A p q)).take ((i+1) * C)) ((i+1:Nat):Int):=by
 have hm48:R * C<=48 * 48:=Nat.mul_le_mul hR hC
 intro m
 induction m with
 | zero=>
  intro g j hm hg hj
  obtain ⟨g,rfl⟩:∃ g',g=g'+1:=⟨g - 1,by omega⟩
  obtain rfl:j=C:=by omega
  rw [ap.pl67108821,decide_eq_false (by omega),cond_false]
  unfold ap.pj6 ap.pj5
  rw [aN (by omega) (by omega),Nat.succ_mul];rfl
 | succ m ih=>
  intro g j hm hg hj
  obtain ⟨g,rfl⟩:∃ g',g=g'+1:=⟨g - 1,by omega⟩
  have hpl:=hp.l
  have hql:=hq.l
  have gp:=hp.gt (i:=(i:Int)) (by omega) (by omega)
  have gq:=hq.gt (i:=(j:Int)) (by omega) (by omega)
  rw [Int.toNat_natCast] at gp gq
  have hlt:i * C+j<R * C:=by
   have:(i+1) * C<=R * C:=Nat.mul_le_mul_right _ hi
   rw [Nat.succ_mul] at this;omega
  rw [ap.pl67108821,decide_eq_true (by omega),cond_true,ixk (by omega) (by omega),Option.bind_some,ixk (by omega) (by omega),Option.bind_some,Int.toNat_natCast,Int.toNat_natCast,gD (by omega) (by omega) gp.1 gp.2 gq.1 gq.2,Option.bind_some,hJ gp.1 gp.2 gq.1 gq.2]
  have hap:apn ((mk R C (prm A p q)).take (i * C+j)) [A (gt p i) (gt q j)]=some ((mk R C (prm A p q)).take (i * C+(j+1))):=by
   unfold apn
   rw [if_pos (by rw [List.length_take,gP];simp;omega),<-Nat.add_assoc,List.take_add_one,zn (by omega) hlt]
   rfl
  rw [hap,Option.bind_some,aN (by omega) (by omega)]
  exact ih g (j+1) (by omega) (by omega) (by omega)
theorem oth_out (hR:R<=48) (hC:C<=48) (hF:5000<F) {p q y:List Int} (hp:Ord R p) (hq:Ord C q):∀ (m g i:Nat),R - i=m->m<g->i<=R ->
  ap.pl4194301 F g R C (mk R C A) y p q R C ((mk R C (prm A p q)).take (i * C)) i=ap.pj4 F y R C (mk R C (prm A p q)):=by
 intro m
 induction m with
 | zero=>
  intro g i hm hg hi
  obtain ⟨g,rfl⟩:∃ g',g=g'+1:=⟨g - 1,by omega⟩
  obtain rfl:i=R:=by omega
  rw [ap.pl4194301,decide_eq_false (by omega),cond_false,List.take_of_length_le (by rw [gP];exact Nat.le_refl _)]
 | succ m ih=>
  intro g i hm hg hi
  obtain ⟨g,rfl⟩:∃ g',g=g'+1:=⟨g - 1,by omega⟩
  have:=oth_in (F:=F) (A:=A) (y:=y) (pC:=ap.pl4194301 F g) hR hC hp hq (i:=i) (by omega) C F 0 (by omega) (by omega) (by omega)
  rw [Nat.add_zero] at this
  have this:ap.pl67108821 F (ap.pl4194301 F g) F R C (mk R C A) y p q R C ((mk R C (prm A p q)).take (i * C)) i 0=_:=this
  rw [ap.pl4194301,decide_eq_true (by omega),cond_true,this]
  exact ih g (i+1) (by omega) (by omega) (by omega)
theorem prm_bd {p q:List Int} (hb:Bd R C A) (hp:Ord R p) (hq:Ord C q):Bd R C (prm A p q):=λi j h1 h2 h3 h4=>by
 obtain ⟨a,b⟩:=hp.gt h1 h2
 obtain ⟨c,d⟩:=hq.gt h3 h4
 exact hb _ _ a b c d
theorem tail_ok (hR:R<=48) (hC:C<=48) (hF:1000000000000000<=F) (hb:Bd R C A) {v:St} {y:List Int} (hr:Red R C A v) (hd:Dia R C v.d) (hy:FV R C v.d y) (hc:c.length<=1000000) (hby:∀ m:Nat,0<=gt c m/\gt c m<=255) {h:Int} :
  ∃ p i' h',aY.p F c 0 h R=some (p,i',h')/\∃ q i2 h2,aY.p F c i' h' C=some (q,i2,h2)/\ap.pl4194301 F F R C (mk R C A) y p q R C ([]:List Int) 0=some true:=by
 obtain ⟨p,i',h',e1,hp,i0,i1⟩:=shuffled (F:=F) (i:=0) (h:=h) hR (by omega) hc hby ⟨by omega,by omega⟩
 obtain ⟨q,i2,h2,e2,hq,_,_⟩:=shuffled (F:=F) (i:=i') (h:=h') hC (by omega) hc hby ⟨i0,i1⟩
 refine ⟨p,i',h',e1,q,i2,h2,e2,?_⟩
 have:=oth_out (F:=F) (A:=A) (y:=y) hR hC (by omega) hp hq R F 0 (by omega) (by omega) (by omega)
 rw [Nat.zero_mul,List.take_zero] at this
 have this:ap.pl4194301 F F R C (mk R C A) y p q R C ([]:List Int) 0=_:=this
 rw [this]
 have hb':=prm_bd hb hp hq
 unfold ap.pj4 eR.p
 rw [is_true hR hC (by omega) hb']
 simp only [Option.bind_some,Bool.not_true,cond_false]
 rcases factors_v (F:=F) hR hC hF hb' with g1 | ⟨z,w,wr,wd,wf,g1⟩
 ·rw [g1];rfl
 ·have s1:Sim R C v.d w.d:=(hr.mis.trans (prm_sim hp hq)).trans wr.sim
  have s2:Sim R C w.d v.d:=(wr.mis.trans (prm_mis hp hq)).trans hr.sim
  have hz:z=y:=wf.uniq hy λi h0 hiR hiC=>wd.uniq hd s1 s2 h0 hiR hiC
  subst hz
  have:=wf.r
  rw [g1]
  simp only [Option.bind_some]
  rw [like_self (by omega) (by omega)];rfl
end Go.Proofs.Ytokekkacliomkaa.AE
end
section
namespace Go.Proofs.Ytokekkacliomkaa.AE
open Go Go.AE Go.Proofs
variable {R C F:Nat} {A:Mat} {c:List Int}
theorem mul_some {R1 K1 K2 C1:Nat} {A B:Mat} (h1:R1<=48) (h2:K1<=48) (h3:K2<=48) (h4:C1<=48) (hF:5000000<F) (hA:Bd R1 K1 A) (hB:Bd K2 C1 B):∃ t,dU.p F R1 K1 (mk R1 K1 A) K2 C1 (mk K2 C1 B)=some t:=by
 by_cases e:K1=K2
 ·subst e
  rcases mulS (F:=F) h1 h2 h4 hF hA hB with h | ⟨_,h,_⟩ <;> exact ⟨_,h⟩
 ·unfold dU.p
  rw [y_ h1 h2 hF hA,y_ h3 h4 hF hB]
  simp only [Option.bind_some,Bool.not_true,cond_false]
  rw [show ((K1:Int) != K2)=true from bne_iff_ne.2 (by omega)]
  exact ⟨_,rfl⟩
theorem good_red (hR:R<=48) (hC:C<=48) (hF:1000000000000000<=F) (hb:Bd R C A) {v:St} (hv:v.good R C) (hr:Red R C A v) (hd:Dia R C v.d)
  (p1:aL.p F R R (mk R R v.m) R R (mk R R v.l)=some ((R:Int),(R:Int),mk R R (mm R v.m v.l),0)) (p2:aL.p F C C (mk C C v.s) C C (mk C C v.r)=some ((C:Int),(C:Int),mk C C (mm C v.s v.r),0))
  (p3:aL.p F R R (mk R R v.l) R C (mk R C A)=some ((R:Int),(C:Int),mk R C (mm R v.l A),0)) (p4:aL.p F R C (mk R C (mm R v.l A)) C C (mk C C v.r)=some ((R:Int),(C:Int),mk R C (mm C (mm R v.l A) v.r),0)) :
  eN.p F R C (mk R C A) R R (mk R R v.l) R R (mk R R v.m) R C (mk R C v.d) C C (mk C C v.r) C C (mk C C v.s)=some true:=by
 have hm:R * C<=48 * 48:=Nat.mul_le_mul hR hC
 unfold eN.p
 rw [is_true hR hC (by omega) hb,is_true hR hC (by omega) hv.1,inv_ok hR (by omega) hr.ml p1,inv_ok hC (by omega) hr.sr p2,p3]
 simp only [Option.bind_some,Bool.not_true,cond_false,bne_self_eq_false]
 rw [p4]
 simp only [Option.bind_some,beq_self_eq_true,cond_true]
 rw [dC hr.d.symm,same_self (by omega) (by rw [gP];omega),diag_true hR hC (by omega) hd]
 rfl
theorem diag_list (hR:R<=48) (hC:C<=48) {D:Mat} (hb:Bd R C D) (hd:Dia R C D) {n0:Int} (hn:n0=if (C:Int)<R then (C:Int) else R) {e l m r s y:List Int} {c3 c4 c5 c6 a1 a2 a3 a4 a9 a10 a11 a12:Int} {al:List Int}:∀ (k g:Nat) (x:List Int) (i:Int),n0 - i=k->k<g->0<=i->x.length<=i ->
  (∀ a:Nat,a<x.length->x[a]?=some (D a a)/\0<D a a/\D a a<=1000000000000)->((x.length:Int)<i->∀ a:Int,x.length<=a->a<R->a<C->D a a=0) ->
  ∃ y',FV R C D y'/\ap.pl8189 F g e c3 c4 R C al a1 a2 l a3 a4 m c5 c6 (mk R C D) a9 a10 r a11 a12 s y x i=ap.pj7 F e c3 c4 R C al a1 a2 l a3 a4 m c5 c6 (mk R C D) a9 a10 r a11 a12 s y y':=by
 have h48:n0<=C/\n0<=R/\((C:Int)<=n0\/(R:Int)<=n0):=by rw [hn];split <;> omega
 intro k
 induction k with
 | zero=>
  intro g x i hk hg hi hx h1 h2
  obtain ⟨g,rfl⟩:∃ g',g=g'+1:=⟨g - 1,by omega⟩
  rw [ap.pl8189,<-hn,decide_eq_false (by omega),cond_false]
  exact ⟨x,⟨by omega,by omega,h1,λa ha hR hC=>by
   by_cases q:(x.length:Int)<i
   ·exact h2 q a ha hR hC
   ·omega⟩,rfl⟩
 | succ k ih=>
  intro g x i hk hg hi hx h1 h2
  obtain ⟨g,rfl⟩:∃ g',g=g'+1:=⟨g - 1,by omega⟩
  rw [ap.pl8189,<-hn,decide_eq_true (by omega),cond_true]
  simp (disch:=omega) only [gD,hJ,Option.bind_some]
  unfold ap.pj8
  rw [aN (x:=i+1) (by omega) (by omega)]
  by_cases h0:D i i=0
  ·rw [h0,show ((0:Int) != 0)=false from rfl,cond_false]
   refine ih g x (i+1) (by omega) (by omega) (by omega) (by omega) h1 λ_ a ha haR haC=>?_
   by_cases q:(x.length:Int)<i
   ·exact h2 q a ha haR haC
   ·have:=hd.c i a hi (by omega) haR haC
    rw [h0] at this;exact Int.zero_dvd.1 this
  ·have hxl:(x.length:Int)=i:=by
    refine Classical.byContradiction λq=>h0 ?_
    exact h2 (by omega) i (by omega) (by omega) (by omega)
   have hap:apn x [D i i]=some (x++[D i i]):=by unfold apn;rw [if_pos (by simp;omega)]
   rw [show (D i i != 0)=true from bne_iff_ne.2 h0,cond_true,hap,Option.bind_some]
   refine ih g (x++[D i i]) (i+1) (by omega) (by omega) (by omega) (by simp;omega) (λa ha=>?_) λq=>by simp at q;omega
   rw [List.length_append,List.length_singleton] at ha
   by_cases e:a=x.length
   ·subst e
    have q1:=hd.n i hi (by omega) (by omega)
    have q2:=hb i i hi (by omega) hi (by omega)
    refine ⟨?_,by rw [hxl];omega,by rw [hxl];exact q2.2⟩
    rw [List.getElem?_append_right (Nat.le_refl _),Nat.sub_self,hxl];rfl
   ·rw [List.getElem?_append_left (by omega)]
    exact h1 a (by omega)
theorem smith_0 (hC:C<=48) (hF:1000000000000000<=F):∃ t,eW.p F ((0:Nat):Int) C (mk 0 C A)=some t/\t.2.2.2.2.2.2.2.2.2.2.2.2.2.2.2=0:=by
 unfold eW.p gE.p iN.p apn aV.p
 rw [if_pos (by rw [gP];simp),List.nil_append,su (n:=0) (by omega) (by omega),su (n:=C) (by omega) (by omega)]
 obtain ⟨f,hf⟩:∃ f,F=f+1:=⟨F - 1,by omega⟩
 have e:(if (C:Int)<((0:Nat):Int) then (C:Int) else ((0:Nat):Int))=0:=by split <;> omega
 have hrun:∀ (G g:Nat) (l m d r s:List Int),aV.pl3 G (g+1) ((0:Nat):Int) l (0:Nat) (0:Nat) m (0:Nat) C d C C r C s false 0=some (l,m,d,r,s,false):=λG g l m d r s=>by
  rw [aV.pl3,e];rfl
 simp only [Option.bind_some]
 have h1:=hrun F f (mk 0 0 idM) (mk 0 0 idM) (mk 0 C A) (mk C C idM) (mk C C idM)
 rw [<- hf] at h1
 rw [h1]
 exact ⟨_,rfl,rfl⟩
theorem no_red (hR:R<=48) (hC:C<=48) (hF:5000000<F) (hb:Bd R C A) (h0:R≠0):eN.p F R C (mk R C A) 0 0 [] 0 0 [] 0 0 [] 0 0 [] 0 0 []=some false:=by
 have hz:Bd 0 0 (λ_ _=>0):=λi j h1 h2 _ _=>by omega
 have e0:cn.p F 0 0 []=some true:=is_true (R:=0) (C:=0) (A:=λ_ _=>0) (by omega) (by omega) hF hz
 have em:aL.p F 0 0 [] 0 0 []=some (0,0,[],0):=by
  unfold aL.p
  rw [e0]
  simp only [Option.bind_some,Bool.not_true,cond_false,bne_self_eq_false]
  have hz:eG.p F 0 0=some (0,0,[]):=by unfold eG.p mkn;rfl
  rw [hz]
  simp only [Option.bind_some]
  exact mul_nil (F:=F) (R:=0) (n:=0) (m:=[]) (X:=[]) (by omega) (by omega) 0 F 0 (by omega) (by omega) (by omega)
 unfold eN.p fJ.p
 rw [is_true hR hC hF hb,e0,em]
 simp only [Option.bind_some,Bool.not_true,cond_false,beq_self_eq_true,cond_true]
 rw [show ((0:Int)==(R:Int))=false from beq_eq_false_iff_ne.2 (by omega)]
 rfl
theorem FnSmith_pure:∀ (bg:List Int),bg.length<=maxLen->(∀ x∈bg,(Lit.int .u8 x).wf=true)->∃ F,ap.p F bg=some true:=by
 intro c _ hx
 obtain ⟨F,hF⟩:∃ F:Nat,F=1000000000000000:=⟨_,rfl⟩
 refine ⟨F,?_⟩
 unfold ap.p gB.p
 rw [Option.bind_some]
 by_cases hb:(c.length:Int)>4096
 ·rw [decide_eq_true hb,cond_true]
 rw [decide_eq_false hb,cond_false]
 have hby:∀ m:Nat,0<=gt c m/\gt c m<=255:=λm=>by
  by_cases hm:m<c.length
  ·have h1:gt c m=c[m]:=by unfold gt;simp [hm]
   have:=hx _ (List.getElem_mem hm)
   rw [h1]
   have h2:IntKind.u8.min<=c[m]/\c[m]<=IntKind.u8.max:=by simpa [Lit.wf] using this
   have h3:IntKind.u8.min=0:=by decide
   have h4:IntKind.u8.max=255:=by decide
   omega
  ·have h1:gt c m=0:=by unfold gt;rw [List.getD_eq_getElem?_getD,List.getElem?_eq_none (by omega)];rfl
   rw [h1];omega
 have hcl:c.length<=1000000:=by omega
 unfold ct.p
 obtain ⟨h0,e0⟩:=roll_l (F:=F) (c:=c) (i:=0) hcl c.length F (IntKind.u64.wrap ((IntKind.u64.wrap ((7002:Int) * 7919))+(IntKind.u64.wrap (c.length:Int)))) 0 (by omega) (by omega) (by omega)
 rw [e0,Option.bind_some]
 simp only []
 unfold fC.p
 obtain ⟨t,e1,h1⟩:=SS.from_ (F:=F) (by omega) hcl hby
 obtain ⟨a,b,l,a',s',e2,hl,_⟩:=draw_matrix (F:=F) (by omega) h1
 rw [e1,Option.bind_some]
 simp only []
 rw [e2,Option.bind_some,Option.bind_some]
 simp only []
 unfold fE.p
 rcases inv_v (F:=F) (a:=a) (b:=b) (l:=l) (by omega) (by omega) with ⟨m1,m2⟩ | ⟨R,C,A,rfl,rfl,hR,hC,rfl,hbd,m1,m2⟩
 ·rw [m2,m1]
  simp only [Option.bind_some,Bool.not_false,cond_true,bne_self_eq_false,cond_false]
  unfold eN.p
  rw [m1];rfl
 ·rw [m2,m1]
  simp only [Option.bind_some,Bool.not_true,cond_false]
  have hmm:R * C<=48 * 48:=Nat.mul_le_mul hR hC
  rcases smith_both (F:=F) hR hC (by omega) hbd with ⟨f1,_⟩ | ⟨v,hv,hr,hd,_,f1,_⟩
  ·have hR0:R≠0:=λq=>by
    subst q
    obtain ⟨t,f2,f3⟩:=smith_0 (F:=F) (A:=A) hC (by omega)
    rw [f1] at f2
    rw [<- Option.some.inj f2] at f3
    cases f3
   unfold bu.p
   rw [f1]
   simp only [Option.bind_some]
   rw [show ((3:Int) != 0)=true from rfl]
   simp only [cond_true,bne_self_eq_false,cond_false,Option.bind_some,List.length_nil]
   rw [no_red hR hC (by omega) hbd hR0];rfl
  ·obtain ⟨y,hfac,fy⟩:∃ y,bu.p F R C (mk R C A)=some (y,0)/\FV R C v.d y:=by
    unfold bu.p
    rw [f1]
    simp only [Option.bind_some]
    rw [show ((0:Int) != 0)=false from rfl,cond_false]
    obtain ⟨y,q1,q2⟩:=facs_l (F:=F) hR hC hd hv.1 rfl (if (C:Int)<R then (C:Int) else R).toNat F [] (by simp;split <;> omega) (by split <;> omega) λa ha=>by simp at ha
    exact ⟨y,q1,q2⟩
   rw [f1,hfac]
   simp only [Option.bind_some,bne_self_eq_false,cond_false]
   rw [y_ hR hC (by omega) hv.1]
   simp only [Option.bind_some,Bool.not_true,cond_false,bne_self_eq_false]
   obtain ⟨y',fy',e3⟩:=diag_list (F:=F) (R:=R) (C:=C) (D:=v.d) (e:=c) (l:=mk R R v.l) (m:=mk R R v.m) (r:=mk C C v.r) (s:=mk C C v.s) (y:=y) (c3:=0) (c4:=h0) (c5:=R) (c6:=C) (a1:=R) (a2:=R) (a3:=R) (a4:=R) (a9:=C) (a10:=C) (a11:=C) (a12:=C) (al:=mk R C A) hR hC hv.1 hd rfl (if (C:Int)<R then (C:Int) else R).toNat F [] 0 (by split <;> omega) (by split <;> omega) (by omega) (by simp) (λa ha=>by simp at ha) (λh=>by simp at h)
   rw [e3]
   obtain rfl:y'=y:=fy'.uniq fy λ_ _ _ _=>rfl
   have hyr:=fy.r
   obtain ⟨p,i',h',g1,q,i2,h2,g2,g3⟩:=tail_ok (F:=F) (c:=c) (h:=h0) hR hC (by omega) hbd hr hd fy hcl hby
   unfold ap.pj7
   rw [like_self (by omega) (by omega)]
   simp only [Option.bind_some,Bool.not_true,cond_false]
   obtain ⟨t1,k1⟩:=mul_some (F:=F) hR hR hR hR (by omega) hv.2.2.1 hv.2.1
   obtain ⟨t2,k2⟩:=mul_some (F:=F) hC hC hC hC (by omega) hv.2.2.2.2 hv.2.2.2.1
   rcases mulS (F:=F) hR hR hC (by omega) hv.2.1 hbd with k3 | ⟨b3,k3,j3⟩
   ·have hz:Bd 0 0 (λ_ _=>0):=λi j h1 h2 _ _=>by omega
    obtain ⟨t4,k4⟩:=mul_some (F:=F) (R1:=0) (K1:=0) (K2:=C) (C1:=C) (A:=λ_ _=>0) (by omega) (by omega) hC hC (by omega) hz hv.2.2.2.1
    have k4:dU.p F 0 0 [] C C (mk C C v.r)=some t4:=k4
    simp only [k1,k2,k3,k4,g1,g2,g3,Option.bind_some]
    rw [show ((3:Int)==0)=false from rfl]
    simp only [cond_false]
    cases (t1.2.2.2==0) <;> cases (t2.2.2.2==0) <;> rfl
   ·rcases mulS (F:=F) hR hC hC (by omega) b3 hv.2.2.2.1 with k4 | ⟨b4,k4,j4⟩
    ·simp only [k1,k2,k3,k4,g1,g2,g3,Option.bind_some]
     rw [show ((3:Int)==0)=false from rfl]
     simp only [cond_false]
     cases (t1.2.2.2==0) <;> cases (t2.2.2.2==0) <;> rfl
    ·rcases mulS (F:=F) hR hR hR (by omega) hv.2.2.1 hv.2.1 with k1' | ⟨_,k1',j1⟩
     ·simp only [k1',k2,k3,k4,g1,g2,g3,Option.bind_some]
      rfl
     ·rcases mulS (F:=F) hC hC hC (by omega) hv.2.2.2.2 hv.2.2.2.1 with k2' | ⟨_,k2',j2⟩
      ·simp only [k1',k2',k3,k4,g1,g2,g3,Option.bind_some]
       rfl
      ·have:=good_red hR hC (by omega) hbd hv hr hd j1 j2 j3 j4
       simp only [k1',k2',k3,k4,g1,g2,g3,this,Option.bind_some,beq_self_eq_true,cond_true,Bool.not_true,cond_false]
end Go.Proofs.Ytokekkacliomkaa.AE
end
