import Derived.Test.YtokekkacliomkaaP1
import Derived.Test.YtokekkacliomkaaE2
set_option linter.unusedVariables false
set_option linter.unusedSimpArgs false
section
set_option linter.unusedVariables false
set_option maxRecDepth 4000
namespace Go.Proofs.Ytokekkacliomkaa.AE
open Go Go.AE Go.Proofs
def Cy.p (F:Nat) (aa:Int) (aF:Int) (eS:Int):Option (Int×Bool):=(bif (aa != 0) then ((eT.p F aF).bind λr1=>(eT.p F aa).bind λr3=>(if r3=0 then none else ((bif (decide (r1>(IntKind.i64.wrap (Int.tdiv eS r3)))) then (some (0,false)) else (some ((IntKind.i64.wrap (aa * aF)),true)))))) else (some ((IntKind.i64.wrap (aa * aF)),true)))
def lx.pl29 (F:Nat) :Nat->Int->Int->Int->List Int->Int->Option (Int×Int×List Int)
 | 0,_,_,_,_,_=>none
 | k+1,Cz,oa,nA,lr,yO=>(bif (decide (yO<Cz)) then ((ix lr (IntKind.i64.wrap ((IntKind.i64.wrap (yO * Cz))+yO))).bind λn1=>(some (lr.set n1 1)).bind λl2=>lx.pl29 F k Cz oa nA l2 (IntKind.i64.wrap (yO+1))) else (some (oa,nA,lr)))
def lx.p (F:Nat) (aa:Int):Option (Int×Int×List Int):=(fZ.p F aa aa).bind λr2=>lx.pl29 F F aa r2.1 r2.2.1 r2.2.2 0
def mX.pl7 (F:Nat) :Nat->Int->Int->Int->Int->List Int->Int->Option (List Int)
 | 0,_,_,_,_,_,_=>none
 | k+1,fG,iV,vm,jp,jq,fU=>(bif (decide (fU<vm)) then ((bJ.p F jp jq fU fG).bind λr2=>(bJ.p F jp jq fU iV).bind λr6=>(ix jq (IntKind.i64.wrap ((IntKind.i64.wrap (fU * jp))+fG))).bind λn10=>(some (jq.set n10 r6)).bind λl11=>(ix l11 (IntKind.i64.wrap ((IntKind.i64.wrap (fU * jp))+iV))).bind λn13=>(some (l11.set n13 r2)).bind λl14=>mX.pl7 F k fG iV vm jp l14 (IntKind.i64.wrap (fU+1))) else (some jq))
def mX.p (F:Nat) (aa:Int) (ac:Int) (aS:List Int) (az:Int) (bR:Int):Option (List Int):=mX.pl7 F F az bR aa ac aS 0
def cL.pj10 (F:Nat) (uv:Int->Int->List Int->Int->List Int->Int->Int->List Int->Int->Int->List Int->Int->List Int->Int->Int->Int->Int->Int->Option (Bool×List Int×List Int×List Int×List Int×List Int)) (aE:Int) (ak:Int) (aJ:List Int) (au:Int) (aO:List Int) (av:Int) (ar:Int) (aK:List Int) (aw:Int) (ax:Int) (aT:List Int) (ay:Int) (aU:List Int) (Mo:Int) (Mp:Int) (Mq:Int) (Mr:Int) (Ms:Int):Option (Bool×List Int×List Int×List Int×List Int×List Int):=uv aE ak aJ au aO av ar aK aw ax aT ay aU Mo Mp Mq Mr (IntKind.i64.wrap (Ms+1))
def cL.pj8 (F:Nat) (aN:Int->Int->List Int->Int->List Int->Int->Int->List Int->Int->Int->List Int->Int->List Int->Int->Int->Int->Int->Option (Bool×List Int×List Int×List Int×List Int×List Int)) (aE:Int) (ak:Int) (aJ:List Int) (au:Int) (aO:List Int) (av:Int) (ar:Int) (aK:List Int) (aw:Int) (ax:Int) (aT:List Int) (ay:Int) (aU:List Int) (Mt:Int) (Mu:Int) (Mv:Int) (Mw:Int):Option (Bool×List Int×List Int×List Int×List Int×List Int):=aN aE ak aJ au aO av ar aK aw ax aT ay aU Mt Mu Mv (IntKind.i64.wrap (Mw+1))
def cL.pj9 (F:Nat) (aN:Int->Int->List Int->Int->List Int->Int->Int->List Int->Int->Int->List Int->Int->List Int->Int->Int->Int->Int->Option (Bool×List Int×List Int×List Int×List Int×List Int)) (aE:Int) (ak:Int) (aJ:List Int) (au:Int) (aO:List Int) (av:Int) (ar:Int) (aK:List Int) (aw:Int) (ax:Int) (aT:List Int) (ay:Int) (aU:List Int) (Mx:Int) (My:Int) (Mz:Int) (MA:Int):Option (Bool×List Int×List Int×List Int×List Int×List Int):=cL.pj8 F aN aE ak aJ au aO av ar aK aw ax aT ay aU Mx My Mz MA
def cL.pl469 (F:Nat) (aN:Int->Int->List Int->Int->List Int->Int->Int->List Int->Int->Int->List Int->Int->List Int->Int->Int->Int->Int->Option (Bool×List Int×List Int×List Int×List Int×List Int)):Nat->Int->Int->List Int->Int->List Int->Int->Int->List Int->Int->Int->List Int->Int->List Int->Int->Int->Int->Int->Int->Option (Bool×List Int×List Int×List Int×List Int×List Int)
 | 0,_,_,_,_,_,_,_,_,_,_,_,_,_,_,_,_,_,_=>none
 | k+1,aE,ak,aJ,au,aO,av,ar,aK,aw,ax,aT,ay,aU,vM,vN,yP,pH,pI=>(bif (decide (pI<ak)) then ((bJ.p F ak aJ pH pI).bind λr2=>(eT.p F r2).bind λr5=>(bif (decide (r5>0)) then ((bif (decide (vN<0)) then (cL.pl469 F aN k aE ak aJ au aO av ar aK aw ax aT ay aU vM pH pI pH (IntKind.i64.wrap (pI+1))) else ((bJ.p F ak aJ vN yP).bind λr8=>(eT.p F r8).bind λr11=>(bif (decide (r5<r11)) then (cL.pj10 F (cL.pl469 F aN k) aE ak aJ au aO av ar aK aw ax aT ay aU vM pH pI pH pI) else (cL.pj10 F (cL.pl469 F aN k) aE ak aJ au aO av ar aK aw ax aT ay aU vM vN yP pH pI))))) else (cL.pl469 F aN k aE ak aJ au aO av ar aK aw ax aT ay aU vM vN yP pH (IntKind.i64.wrap (pI+1))))) else (cL.pj9 F aN aE ak aJ au aO av ar aK aw ax aT ay aU vM vN yP pH))
def cL.pl65515 (F:Nat) :Nat->List Int->Int->List Int->Int->List Int->List Int->List Int->Int->Int->Option (Bool×List Int×List Int×List Int×List Int×List Int)
 | 0,_,_,_,_,_,_,_,_,_=>none
 | k+1,aJ,au,aO,ar,aK,aT,aU,vO,uB=>(bif (decide (uB<au)) then ((bJ.p F au aO vO uB).bind λr3=>(ix aO (IntKind.i64.wrap ((IntKind.i64.wrap (vO * au))+uB))).bind λn7=>(some (aO.set n7 (IntKind.i64.wrap (0 - r3)))).bind λl8=>(bJ.p F ar aK uB vO).bind λr12=>(ix aK (IntKind.i64.wrap ((IntKind.i64.wrap (uB * ar))+vO))).bind λn16=>(some (aK.set n16 (IntKind.i64.wrap (0 - r12)))).bind λl17=>cL.pl65515 F k aJ au l8 ar l17 aT aU vO (IntKind.i64.wrap (uB+1))) else (some (true,aJ,aO,aK,aT,aU)))
def cL.pj5 (F:Nat)  (aJ:List Int) (au:Int) (aO:List Int) (ar:Int) (aK:List Int) (aT:List Int) (aU:List Int) (MB:Int):Option (Bool×List Int×List Int×List Int×List Int×List Int):=cL.pl65515 F F aJ au aO ar aK aT aU MB 0
def cL.pl65513 (F:Nat) :Nat->Int->List Int->Int->List Int->Int->List Int->List Int->List Int->Int->Int->Option (Bool×List Int×List Int×List Int×List Int×List Int)
 | 0,_,_,_,_,_,_,_,_,_,_=>none
 | k+1,ak,aJ,au,aO,ar,aK,aT,aU,yQ,yR=>(bif (decide (yR<ak)) then ((bJ.p F ak aJ yQ yR).bind λr2=>(ix aJ (IntKind.i64.wrap ((IntKind.i64.wrap (yQ * ak))+yR))).bind λn6=>(some (aJ.set n6 (IntKind.i64.wrap (0 - r2)))).bind λl7=>cL.pl65513 F k ak l7 au aO ar aK aT aU yQ (IntKind.i64.wrap (yR+1))) else (cL.pj5 F aJ au aO ar aK aT aU yQ))
def cL.pj6 (F:Nat)  (aE:Int) (ak:Int) (aJ:List Int) (au:Int) (aO:List Int) (av:Int) (ar:Int) (aK:List Int) (aw:Int) (ax:Int) (aT:List Int) (ay:Int) (aU:List Int) (oq:Int) (yS:Int) (CA:Int):Option (Bool×List Int×List Int×List Int×List Int×List Int):=(bif (decide (yS<0)) then (some (false,aJ,aO,aK,aT,aU)) else ((bT.p F ak aJ yS oq).bind λr1=>(bT.p F au aO yS oq).bind λr4=>(mX.p F av ar aK yS oq).bind λr7=>(mX.p F aE ak r1 CA oq).bind λr10=>(mX.p F aw ax aT CA oq).bind λr13=>(bT.p F ay aU CA oq).bind λr16=>(bJ.p F ak r10 oq oq).bind λr20=>(bif (decide (r20<0)) then (cL.pl65513 F F ak r10 au r4 ar r7 r13 r16 oq 0) else (some (true,r10,r4,r7,r13,r16)))))
def cL.pl29 (F:Nat) :Nat->Int->Int->List Int->Int->List Int->Int->Int->List Int->Int->Int->List Int->Int->List Int->Int->Int->Int->Int->Option (Bool×List Int×List Int×List Int×List Int×List Int)
 | 0,_,_,_,_,_,_,_,_,_,_,_,_,_,_,_,_,_=>none
 | k+1,aE,ak,aJ,au,aO,av,ar,aK,aw,ax,aT,ay,aU,nD,ou,GE,GF=>(bif (decide (GF<aE)) then (cL.pl469 F (cL.pl29 F k) F aE ak aJ au aO av ar aK aw ax aT ay aU nD ou GE GF nD) else (cL.pj6 F aE ak aJ au aO av ar aK aw ax aT ay aU nD ou GE))
def cL.p (F:Nat) (bS:Int) (aD:Int) (dU:List Int) (bE:Int) (fe:List Int) (bv:Int) (bk:Int) (ct:List Int) (bF:Int) (bG:Int) (ff:List Int) (bH:Int) (fg:List Int) (ai:Int):Option (Bool×List Int×List Int×List Int×List Int×List Int):=cL.pl29 F F bS aD dU bE fe bv bk ct bF bG ff bH fg ai (-1) (-1) ai
def yT.p (F:Nat) (aa:Int) (aF:Int):Option (Int):=(if aF=0 then none else ((if aF=0 then none else ((bif (decide ((Int.tmod aa aF)<0)) then (some (IntKind.i64.wrap ((IntKind.i64.wrap (Int.tdiv aa aF)) - 1))) else (some (IntKind.i64.wrap (Int.tdiv aa aF))))))))
def yU.p (F:Nat) (aa:Int) (aF:Int) (eS:Int):Option (Int):=(Cy.p F aF eS 2000000000000).bind λr1=>(bif (!r1.2) then (some 3000000000000) else (some (IntKind.i64.wrap (aa - r1.1))))
def yV.p (F:Nat) (ap:Bool) (az:Int) (iF:List Int) (fk:Int) (fl:Int) (fb:Int):Option (Bool×List Int):=(eT.p F fb).bind λr2=>(bif (decide (r2>1000000000000)) then (some (true,iF)) else ((ix iF (IntKind.i64.wrap ((IntKind.i64.wrap (fk * az))+fl))).bind λn6=>(some (iF.set n6 fb)).bind λl7=>some (ap,l7)))
def ko.pl7 (F:Nat) :Nat->Bool->Int->Int->Int->Int->List Int->Int->Option (Bool×List Int)
 | 0,_,_,_,_,_,_,_=>none
 | k+1,ap,qE,jO,vP,nE,mY,mZ=>(bif (decide (mZ<nE)) then ((bif (!ap) then ((bJ.p F nE mY qE mZ).bind λr3=>(bJ.p F nE mY jO mZ).bind λr8=>(yU.p F r3 vP r8).bind λr12=>(yV.p F ap nE mY qE mZ r12).bind λr16=>ko.pl7 F k r16.1 qE jO vP nE r16.2 (IntKind.i64.wrap (mZ+1))) else (some (ap,mY)))) else (some (ap,mY)))
def ko.p (F:Nat) (ap:Bool) (az:Int) (iF:List Int) (fk:Int) (fl:Int) (fb:Int):Option (Bool×List Int):=ko.pl7 F F ap fk fl fb az iF 0
def kp.pl7 (F:Nat) :Nat->Bool->Int->Int->Int->Int->Int->List Int->Int->Option (Bool×List Int)
 | 0,_,_,_,_,_,_,_,_=>none
 | k+1,ap,qE,jO,vP,GG,nE,mY,mZ=>(bif (decide (mZ<GG)) then ((bif (!ap) then ((bJ.p F nE mY mZ qE).bind λr3=>(bJ.p F nE mY mZ jO).bind λr8=>(yU.p F r3 vP r8).bind λr12=>(yV.p F ap nE mY mZ qE r12).bind λr16=>kp.pl7 F k r16.1 qE jO vP GG nE r16.2 (IntKind.i64.wrap (mZ+1))) else (some (ap,mY)))) else (some (ap,mY)))
def kp.p (F:Nat) (ap:Bool) (ai:Int) (az:Int) (iF:List Int) (fk:Int) (fl:Int) (fb:Int):Option (Bool×List Int):=kp.pl7 F F ap fk fl fb ai az iF 0
def vQ.p (F:Nat) (aD:Int) (dU:List Int) (bE:Int) (fe:List Int) (bv:Int) (bk:Int) (ct:List Int) (ap:Bool) (ai:Int) (bV:Int) (dH:Int):Option (List Int×List Int×List Int×Bool):=(bif (dH != 0) then ((ko.p F ap aD dU ai bV dH).bind λr2=>(ko.p F r2.1 bE fe ai bV dH).bind λr5=>(kp.p F r5.1 bv bk ct bV ai (IntKind.i64.wrap (0 - dH))).bind λr8=>some (r2.2,r5.2,r8.2,r8.1)) else (some (dU,fe,ct,ap)))
def yW.p (F:Nat) (bS:Int) (aD:Int) (dU:List Int) (bF:Int) (bG:Int) (ff:List Int) (bH:Int) (fg:List Int) (ap:Bool) (ai:Int) (bV:Int) (dH:Int):Option (List Int×List Int×List Int×Bool):=(bif (dH != 0) then ((kp.p F ap bS aD dU ai bV dH).bind λr2=>(kp.p F r2.1 bF bG ff ai bV dH).bind λr5=>(ko.p F r5.1 bH fg bV ai (IntKind.i64.wrap (0 - dH))).bind λr8=>some (r2.2,r5.2,r8.2,r8.1)) else (some (dU,ff,fg,ap)))
def iO.pl29 (F:Nat) :Nat->Int->List Int->Int->Int->Option (Bool)
 | 0,_,_,_,_=>none
 | k+1,ak,iG,GH,CB=>(bif (decide (CB<ak)) then ((bJ.p F ak iG GH CB).bind λr1=>(bif (r1 != 0) then (some false) else (iO.pl29 F k ak iG GH (IntKind.i64.wrap (CB+1))))) else (some true))
def iO.pj1 (F:Nat)  (ak:Int) (iG:List Int) (GI:Int):Option (Bool):=iO.pl29 F F ak iG GI (IntKind.i64.wrap (GI+1))
def iO.pl13 (F:Nat) :Nat->Int->Int->List Int->Int->Int->Option (Bool)
 | 0,_,_,_,_,_=>none
 | k+1,aE,ak,iG,nD,ou=>(bif (decide (ou<aE)) then ((bJ.p F ak iG ou nD).bind λr1=>(bif (r1 != 0) then (some false) else (iO.pl13 F k aE ak iG nD (IntKind.i64.wrap (ou+1))))) else (iO.pj1 F ak iG nD))
def iO.p (F:Nat) (bS:Int) (aD:Int) (dU:List Int) (ai:Int):Option (Bool):=iO.pl13 F F bS aD dU ai (IntKind.i64.wrap (ai+1))
def gU.pj3 (F:Nat) (mW:Int->Int->List Int->Int->Int->Option (Int)) (aE:Int) (ak:Int) (iG:List Int) (MC:Int) (MD:Int):Option (Int):=mW aE ak iG MC (IntKind.i64.wrap (MD+1))
def gU.pj4 (F:Nat) (mW:Int->Int->List Int->Int->Int->Option (Int)) (aE:Int) (ak:Int) (iG:List Int) (ME:Int) (MF:Int):Option (Int):=gU.pj3 F mW aE ak iG ME MF
def gU.pl213 (F:Nat) (mW:Int->Int->List Int->Int->Int->Option (Int)):Nat->Int->Int->List Int->Int->Int->Int->Option (Int)
 | 0,_,_,_,_,_,_=>none
 | k+1,aE,ak,iG,yX,yY,CC=>(bif (decide (CC<ak)) then ((bJ.p F ak iG yY CC).bind λr1=>(bJ.p F ak iG yX yX).bind λr4=>(if r4=0 then none else ((bif ((Int.tmod r1 r4) != 0) then (some yY) else (gU.pl213 F mW k aE ak iG yX yY (IntKind.i64.wrap (CC+1))))))) else (gU.pj4 F mW aE ak iG yX yY))
def gU.pl13 (F:Nat) :Nat->Int->Int->List Int->Int->Int->Option (Int)
 | 0,_,_,_,_,_=>none
 | k+1,aE,ak,iG,nD,ou=>(bif (decide (ou<aE)) then (gU.pl213 F (gU.pl13 F k) F aE ak iG nD ou (IntKind.i64.wrap (nD+1))) else (some (-1)))
def gU.p (F:Nat) (bS:Int) (aD:Int) (dU:List Int) (ai:Int):Option (Int):=gU.pl13 F F bS aD dU ai (IntKind.i64.wrap (ai+1))
def eN.pj1 (F:Nat)  (aE:Int) (ak:Int) (aJ:List Int) (au:Int) (aO:List Int) (av:Int) (ar:Int) (aK:List Int) (aT:List Int) (aU:List Int) (ap:Bool) (CD:Int):Option (Bool×Bool×List Int×List Int×List Int×List Int×List Int×Bool):=(bif ap then (some (false,false,aJ,aO,aK,aT,aU,ap)) else ((iO.p F aE ak aJ CD).bind λr3=>(bif (!r3) then (some (false,false,aJ,aO,aK,aT,aU,ap)) else ((gU.p F aE ak aJ CD).bind λr8=>(bif (decide (r8<0)) then (some (true,false,aJ,aO,aK,aT,aU,ap)) else ((vQ.p F ak aJ au aO av ar aK ap CD r8 (-1)).bind λr13=>some (false,false,r13.1,r13.2.1,r13.2.2.1,aT,aU,r13.2.2.2)))))))
def eN.pl61 (F:Nat) :Nat->Int->Int->List Int->Int->List Int->Int->Int->List Int->Int->Int->List Int->Int->List Int->Bool->Int->Int->Option (Bool×Bool×List Int×List Int×List Int×List Int×List Int×Bool)
 | 0,_,_,_,_,_,_,_,_,_,_,_,_,_,_,_,_=>none
 | k+1,aE,ak,aJ,au,aO,av,ar,aK,aw,ax,aT,ay,aU,ap,qF,yZ=>(bif (decide (yZ<ak)) then ((bif (!ap) then ((bJ.p F ak aJ qF yZ).bind λr2=>(bJ.p F ak aJ qF qF).bind λr7=>(yT.p F r2 r7).bind λr10=>(yW.p F aE ak aJ aw ax aT ay aU ap yZ qF r10).bind λr13=>eN.pl61 F k aE ak r13.1 au aO av ar aK aw ax r13.2.1 ay r13.2.2.1 r13.2.2.2 qF (IntKind.i64.wrap (yZ+1))) else (eN.pj1 F aE ak aJ au aO av ar aK aT aU ap qF))) else (eN.pj1 F aE ak aJ au aO av ar aK aT aU ap qF))
def eN.pj2 (F:Nat)  (aE:Int) (ak:Int) (aJ:List Int) (au:Int) (aO:List Int) (av:Int) (ar:Int) (aK:List Int) (aw:Int) (ax:Int) (aT:List Int) (ay:Int) (aU:List Int) (ap:Bool) (lC:Int):Option (Bool×Bool×List Int×List Int×List Int×List Int×List Int×Bool):=eN.pl61 F F aE ak aJ au aO av ar aK aw ax aT ay aU ap lC (IntKind.i64.wrap (lC+1))
def eN.pl29 (F:Nat) :Nat->Int->Int->List Int->Int->List Int->Int->Int->List Int->Int->Int->List Int->Int->List Int->Bool->Int->Int->Option (Bool×Bool×List Int×List Int×List Int×List Int×List Int×Bool)
 | 0,_,_,_,_,_,_,_,_,_,_,_,_,_,_,_,_=>none
 | k+1,aE,ak,aJ,au,aO,av,ar,aK,aw,ax,aT,ay,aU,ap,jn,y_=>(bif (decide (y_<aE)) then ((bif (!ap) then ((bJ.p F ak aJ y_ jn).bind λr2=>(bJ.p F ak aJ jn jn).bind λr7=>(yT.p F r2 r7).bind λr10=>(vQ.p F ak aJ au aO av ar aK ap y_ jn r10).bind λr13=>eN.pl29 F k aE ak r13.1 au r13.2.1 av ar r13.2.2.1 aw ax aT ay aU r13.2.2.2 jn (IntKind.i64.wrap (y_+1))) else (eN.pj2 F aE ak aJ au aO av ar aK aw ax aT ay aU ap jn))) else (eN.pj2 F aE ak aJ au aO av ar aK aw ax aT ay aU ap jn))
def eN.p (F:Nat) (bS:Int) (aD:Int) (dU:List Int) (bE:Int) (fe:List Int) (bv:Int) (bk:Int) (ct:List Int) (bF:Int) (bG:Int) (ff:List Int) (bH:Int) (fg:List Int) (ap:Bool) (ai:Int):Option (Bool×Bool×List Int×List Int×List Int×List Int×List Int×Bool):=(cL.p F bS aD dU bE fe bv bk ct bF bG ff bH fg ai).bind λr1=>(bif (!r1.1) then (some (true,true,r1.2.1,r1.2.2.1,r1.2.2.2.1,r1.2.2.2.2.1,r1.2.2.2.2.2,ap)) else (eN.pl29 F F bS aD r1.2.1 bE r1.2.2.1 bv bk r1.2.2.2.1 bF bG r1.2.2.2.2.1 bH r1.2.2.2.2.2 ap ai (IntKind.i64.wrap (ai+1))))
def fq.pj3 (F:Nat) (aN:Int->Int->Int->Int->List Int->Int->Int->List Int->Int->Int->List Int->Int->Int->List Int->Int->Int->List Int->Bool->Int->Option (Int×Int×List Int×Int×Int×List Int×Int×Int×List Int×Int×Int×List Int×Int×Int×List Int×Bool)) (MG:Int) (MH:Int) (MI:Int) (MJ:Int) (MK:List Int) (MM:Int) (MN:Int) (MO:List Int) (MP:Int) (MQ:Int) (MR:List Int) (MS:Int) (MT:Int) (MU:List Int) (MV:Int) (MW:Int) (MX:List Int) (MY:Bool) (MZ:Int):Option (Int×Int×List Int×Int×Int×List Int×Int×Int×List Int×Int×Int×List Int×Int×Int×List Int×Bool):=aN MG MH MI MJ MK MM MN MO MP MQ MR MS MT MU MV MW MX MY (IntKind.i64.wrap (MZ+1))
def fq.pj4 (F:Nat) (aN:Int->Int->Int->Int->List Int->Int->Int->List Int->Int->Int->List Int->Int->Int->List Int->Int->Int->List Int->Bool->Int->Option (Int×Int×List Int×Int×Int×List Int×Int×Int×List Int×Int×Int×List Int×Int×Int×List Int×Bool)) (M_:Int) (Na:Int) (CE:Int) (CF:Int) (CG:List Int) (CH:Int) (CI:Int) (CJ:List Int) (CK:Int) (CL:Int) (CM:List Int) (CN:Int) (CO:Int) (CP:List Int) (CQ:Int) (CS:Int) (CT:List Int) (za:Bool) (zR:Int) (Nb:Bool):Option (Int×Int×List Int×Int×Int×List Int×Int×Int×List Int×Int×Int×List Int×Int×Int×List Int×Bool):=(bif Nb then (some (CE,CF,CG,CH,CI,CJ,CK,CL,CM,CN,CO,CP,CQ,CS,CT,za)) else ((bif za then (some (CE,CF,CG,CH,CI,CJ,CK,CL,CM,CN,CO,CP,CQ,CS,CT,za)) else (fq.pj3 F aN M_ Na CE CF CG CH CI CJ CK CL CM CN CO CP CQ CS CT za zR))))
def fq.pl938 (F:Nat) (aN:Int->Int->Int->Int->List Int->Int->Int->List Int->Int->Int->List Int->Int->Int->List Int->Int->Int->List Int->Bool->Int->Option (Int×Int×List Int×Int×Int×List Int×Int×Int×List Int×Int×Int×List Int×Int×Int×List Int×Bool)):Nat->Int->Int->Int->Int->List Int->Int->Int->List Int->Int->Int->List Int->Int->Int->List Int->Int->Int->List Int->Bool->Int->Bool->Bool->Option (Int×Int×List Int×Int×Int×List Int×Int×Int×List Int×Int×Int×List Int×Int×Int×List Int×Bool)
 | 0,_,_,_,_,_,_,_,_,_,_,_,_,_,_,_,_,_,_,_,_,_=>none
 | k+1,CU,CV,zb,zd,CW,CX,ze,CY,zf,zg,CZ,zh,zi,C_,Da,zj,Db,zm,zn,Nc,GJ=>(bif (!Nc) then ((bif (!zm) then ((eN.p F zb zd CW ze CY zf zg CZ zh zi C_ zj Db zm zn).bind λr2=>fq.pl938 F aN k CU CV zb zd r2.2.2.1 CX ze r2.2.2.2.1 zf zg r2.2.2.2.2.1 zh zi r2.2.2.2.2.2.1 Da zj r2.2.2.2.2.2.2.1 r2.2.2.2.2.2.2.2 zn r2.1 r2.2.1) else (fq.pj4 F aN CU CV zb zd CW CX ze CY zf zg CZ zh zi C_ Da zj Db zm zn GJ))) else (fq.pj4 F aN CU CV zb zd CW CX ze CY zf zg CZ zh zi C_ Da zj Db zm zn GJ))
def fq.pl29 (F:Nat) :Nat->Int->Int->Int->Int->List Int->Int->Int->List Int->Int->Int->List Int->Int->Int->List Int->Int->Int->List Int->Bool->Int->Option (Int×Int×List Int×Int×Int×List Int×Int×Int×List Int×Int×Int×List Int×Int×Int×List Int×Bool)
 | 0,_,_,_,_,_,_,_,_,_,_,_,_,_,_,_,_,_,_,_=>none
 | k+1,Dc,Dd,GK,GL,GM,GN,GO,GP,GQ,GR,GS,GT,GU,GV,GW,GX,GY,GZ,G_=>(bif (decide (G_<(if Dd<Dc then Dd else Dc))) then (fq.pl938 F (fq.pl29 F k) F Dc Dd GK GL GM GN GO GP GQ GR GS GT GU GV GW GX GY GZ G_ false false) else (some (GK,GL,GM,GN,GO,GP,GQ,GR,GS,GT,GU,GV,GW,GX,GY,GZ)))
def fq.p (F:Nat) (aa:Int) (ac:Int) (aS:List Int):Option (Int×Int×List Int×Int×Int×List Int×Int×Int×List Int×Int×Int×List Int×Int×Int×List Int×Bool):=(apn ([]:List Int) aS).bind λl4=>(lx.p F aa).bind λr7=>(lx.p F aa).bind λr10=>(lx.p F ac).bind λr13=>(lx.p F ac).bind λr16=>fq.pl29 F F aa ac aa ac l4 r7.1 r7.2.1 r7.2.2 r10.1 r10.2.1 r10.2.2 r13.1 r13.2.1 r13.2.2 r16.1 r16.2.1 r16.2.2 false 0
end Go.Proofs.Ytokekkacliomkaa.AE
end
section
namespace Go.AE
abbrev Mat:=Int->Int->Int
def mk (R C:Nat) (A:Mat):List Int:=(List.range (R * C)).map λn=>A ((n / C:Nat):Int) ((n % C:Nat):Int)
def upd (A:Mat) (i j x:Int):Mat:=λa b=>if a=i/\b=j then x else A a b
theorem DR (A:Mat) (i j x:Int):upd A i j x i j=x:=by simp [upd]
theorem jm (A:Mat) {i j a b:Int} (x:Int) (h:¬ (a=i/\b=j)):upd A i j x a b=A a b:=by simp only [upd,if_neg h]
variable {R C:Nat} {A B:Mat}
theorem ig (R C:Nat) (A:Mat):(mk R C A).length=R * C:=by simp [mk]
theorem zK {i j:Int} (hi0:0<=i) (hi:i<R) (hj0:0<=j) (hj:j<C):∃ a b:Nat,i=a/\j=b/\a<R/\b<C/\(i * C+j).toNat=a * C+b/\a * C+b<R * C/\(i * C+j)=((a * C+b:Nat):Int):=by
 refine ⟨i.toNat,j.toNat,by omega,by omega,by omega,by omega,?_,?_,?_⟩
 ·obtain ⟨a,rfl⟩:=Int.eq_ofNat_of_zero_le hi0
  obtain ⟨b,rfl⟩:=Int.eq_ofNat_of_zero_le hj0
  simp only [Int.toNat_natCast]
  rw [<- Int.natCast_mul,<-Int.natCast_add,Int.toNat_natCast]
 ·have h1:i.toNat+1<=R:=by omega
  have:=Nat.mul_le_mul_right C h1
  rw [Nat.add_mul] at this
  omega
 ·obtain ⟨a,rfl⟩:=Int.eq_ofNat_of_zero_le hi0
  obtain ⟨b,rfl⟩:=Int.eq_ofNat_of_zero_le hj0
  simp
theorem zL {a b:Nat} (hb:b<C) (h:a * C+b<R * C):(mk R C A)[a * C+b]?=some (A a b):=by
 have hC:0<C:=by omega
 have e1:(a * C+b) / C=a:=by rw [Nat.add_comm,Nat.add_mul_div_right _ _ hC,Nat.div_eq_of_lt hb,Nat.zero_add]
 have e2:(a * C+b) % C=b:=by rw [Nat.add_comm,Nat.add_mul_mod_self_right,Nat.mod_eq_of_lt hb]
 unfold mk
 rw [List.getElem?_map,List.getElem?_range h]
 simp only [Option.map_some,e1,e2]
theorem fJ {i j:Int} (hi0:0<=i) (hi:i<R) (hj0:0<=j) (hj:j<C):gt (mk R C A) (i * C+j).toNat=A i j:=by
 obtain ⟨a,b,rfl,rfl,ha,hb,e,hlt,_⟩:=zK hi0 hi hj0 hj
 rw [e]
 unfold gt
 rw [List.getD_eq_getElem?_getD,zL hb hlt];rfl
theorem eY {i j:Int} (hR:R<=1000) (hC:C<=1000) (hi0:0<=i) (hi:i<R) (hj0:0<=j) (hj:j<C):ix (mk R C A) (IntKind.i64.wrap (IntKind.i64.wrap (i * C)+j))=some (i * C+j).toNat:=by
 obtain ⟨a,b,e1,e2,ha,hb,e,hlt,e3⟩:=zK hi0 hi hj0 hj
 have hm:R * C<=1000 * 1000:=Nat.mul_le_mul hR hC
 have h1:0<=i * C:=Int.mul_nonneg hi0 (Int.natCast_nonneg _)
 rw [aM (x:=i * C) (by omega) (by omega),aM (x:=i * C+j) (by omega) (by omega)]
 unfold ix
 rw [ig,if_pos (by omega)]
theorem cX (h:∀ i j:Int,0<=i->i<R->0<=j->j<C->A i j=B i j):mk R C A=mk R C B:=by
 unfold mk
 apply List.map_congr_left
 intro n hn
 have hn:=List.mem_range.1 hn
 have hC:0<C:=by
  rcases Nat.eq_zero_or_pos C with h | h
  ·subst h;simp at hn
  ·exact h
 exact h _ _ (Int.natCast_nonneg _) (Int.ofNat_lt.2 ((Nat.div_lt_iff_lt_mul hC).2 hn)) (Int.natCast_nonneg _) (Int.ofNat_lt.2 (Nat.mod_lt n hC))
theorem OL {l:List Int} (h:l.length=R * C):l=mk R C λi j=>gt l (i * C+j).toNat:=by
 apply List.ext_getElem?
 intro n
 by_cases hn:n<R * C
 ·unfold mk
  rw [List.getElem?_map,List.getElem?_range hn]
  simp only [Option.map_some]
  have e:(((n / C:Nat):Int) * C+((n % C:Nat):Int)).toNat=n:=by
   rw [<- Int.natCast_mul,<-Int.natCast_add,Int.toNat_natCast,Nat.mul_comm,Nat.div_add_mod]
  rw [e]
  exact qR (by omega)
 ·rw [List.getElem?_eq_none (by omega),List.getElem?_eq_none (by rw [ig];omega)]
theorem jt {i j x:Int} (hi0:0<=i) (hi:i<R) (hj0:0<=j) (hj:j<C):(mk R C A).set (i * C+j).toNat x=mk R C (upd A i j x):=by
 obtain ⟨a,b,rfl,rfl,ha,hb,e,hlt,_⟩:=zK hi0 hi hj0 hj
 rw [e]
 apply List.ext_getElem?
 intro n
 by_cases hn:n<R * C
 ·have hC:0<C:=by omega
  have hd:n=n / C * C+n % C:=by rw [Nat.mul_comm,Nat.div_add_mod]
  have hr:=Nat.mod_lt n hC
  rw [hd,zL hr (by omega)]
  by_cases e:n / C=a/\n % C=b
  ·rw [e.1,e.2,List.getElem?_set_self (by rw [ig];exact hlt),DR]
  ·have:a * C+b≠n / C * C+n % C:=by
    intro h
    rw [<- hd] at h
    apply e
    constructor
    ·rw [<- h,Nat.add_comm,Nat.add_mul_div_right _ _ hC,Nat.div_eq_of_lt hb,Nat.zero_add]
    ·rw [<- h,Nat.add_comm,Nat.add_mul_mod_self_right,Nat.mod_eq_of_lt hb]
   rw [List.getElem?_set_ne this,zL hr (by omega),jm _ _ (by omega)]
 ·rw [List.getElem?_eq_none (by rw [List.length_set,ig];omega),List.getElem?_eq_none (by rw [ig];omega)]
end Go.AE
end
section
namespace Go.Proofs.Ytokekkacliomkaa.AE
open Go Go.AE Go.Proofs
def Sg:Nat->(Int->Int)->Int
 | 0,_=>0
 | n+1,f=>Sg n f+f (n:Int)
theorem Sg_congr {f g:Int->Int}:∀ {n:Nat},(∀ i:Int,0<=i->i<n->f i=g i)->Sg n f=Sg n g
 | 0,_=>rfl
 | n+1,h=>by
  show Sg n f+f n=Sg n g+g n
  rw [Sg_congr (n:=n) λi h0 h1=>h i h0 (by omega),h n (by omega) (by omega)]
theorem Sg_nul:∀ n:Nat,Sg n (λ_=>0)=0
 | 0=>rfl
 | n+1=>by show Sg n _+0=0;rw [Sg_nul n];rfl
theorem Sg_zero {n:Nat} {f:Int->Int} (h:∀ i:Int,0<=i->i<n->f i=0):Sg n f=0:=by
 rw [Sg_congr (g:=λ_=>0) h];exact Sg_nul n
theorem Sg_add {f g:Int->Int}:∀ n:Nat,Sg n (λi=>f i+g i)=Sg n f+Sg n g
 | 0=>rfl
 | n+1=>by
  show Sg n (λi=>f i+g i)+(f n+g n)=Sg n f+f n+(Sg n g+g n)
  rw [Sg_add n];omega
theorem Sg_mul {c:Int} {f:Int->Int}:∀ n:Nat,Sg n (λi=>c * f i)=c * Sg n f
 | 0=>by show 0=c * 0;rw [Int.mul_zero]
 | n+1=>by
  show Sg n (λi=>c * f i)+c * f n=c * (Sg n f+f n)
  rw [Sg_mul n,Int.mul_add]
theorem Sg_mulr {c:Int} {f:Int->Int} {n:Nat}:Sg n (λi=>f i * c)=Sg n f * c:=by
 rw [Int.mul_comm,<-Sg_mul];exact Sg_congr λ_ _ _=>Int.mul_comm _ _
theorem Sg_comm {m:Nat} {f:Int->Int->Int}:∀ n:Nat,Sg n (λi=>Sg m λj=>f i j)=Sg m λj=>Sg n λi=>f i j
 | 0=>(Sg_nul m).symm
 | n+1=>by
  show Sg n (λi=>Sg m λj=>f i j)+Sg m (λj=>f n j)=Sg m λj=>Sg n (λi=>f i j)+f n j
  rw [Sg_comm n,Sg_add]
theorem Sg_one {f:Int->Int} {k:Int} (h0:0<=k):∀ {n:Nat},Sg n (λi=>if i=k then f i else 0)=if k<n then f k else 0
 | 0=>by rw [if_neg (by omega)];rfl
 | n+1=>by
  show Sg n (λi=>if i=k then f i else 0)+(if (n:Int)=k then f n else 0)=_
  rw [Sg_one h0 (n:=n)]
  by_cases e:(n:Int)=k
  ·subst e;rw [if_neg (by omega),if_pos rfl,if_pos (by omega),Int.zero_add]
  ·rw [if_neg e,Int.add_zero]
   by_cases c:k<n
   ·rw [if_pos c,if_pos (by omega)]
   ·rw [if_neg c,if_neg (by omega)]
theorem Sg_le {f g:Int->Int}:∀ {n:Nat},(∀ i:Int,0<=i->i<n->f i<=g i)->Sg n f<=Sg n g
 | 0,_=>Int.le_refl _
 | n+1,h=>Int.add_le_add (Sg_le (n:=n) λi h0 h1=>h i h0 (by omega)) (h n (by omega) (by omega))
def mm (n:Nat) (A B:Mat):Mat:=λi j=>Sg n λl=>A i l * B l j
theorem mm_assoc {n m:Nat} {A B C:Mat}:mm n (mm m A B) C=mm m A (mm n B C):=by
 funext i j
 show Sg n (λl=>Sg m (λk=>A i k * B k l) * C l j)=Sg m λk=>A i k * Sg n λl=>B k l * C l j
 rw [Sg_congr (g:=λl=>Sg m λk=>A i k * B k l * C l j) λl _ _=>(Sg_mulr).symm,Sg_comm]
 refine Sg_congr λk _ _=>?_
 rw [<- Sg_mul]
 exact Sg_congr λl _ _=>Int.mul_assoc _ _ _
theorem mm_congr {n:Nat} {A B A' B':Mat} {i j:Int} (h:∀ l:Int,0<=l->l<n->A i l=A' i l) (h':∀ l:Int,0<=l->l<n->B l j=B' l j):mm n A B i j=mm n A' B' i j:=
 Sg_congr λl h0 h1=>by rw [h l h0 h1,h' l h0 h1]
def idM:Mat:=λa b=>if a=b then 1 else 0
theorem mm_idl {n:Nat} {A:Mat} {i j:Int} (h0:0<=i) (h:i<n):mm n idM A i j=A i j:=by
 show Sg n (λl=>(if i=l then 1 else 0) * A l j)=_
 rw [Sg_congr (g:=λl=>if l=i then A l j else 0) λl _ _=>by
  by_cases e:l=i
  ·subst e;simp
  ·rw [if_neg e,if_neg (Ne.symm e),Int.zero_mul],Sg_one h0,if_pos h]
theorem mm_idr {n:Nat} {A:Mat} {i j:Int} (h0:0<=j) (h:j<n):mm n A idM i j=A i j:=by
 show Sg n (λl=>A i l * (if l=j then 1 else 0))=_
 rw [Sg_congr (g:=λl=>if l=j then A i l else 0) λl _ _=>by by_cases e:l=j <;> simp [e],Sg_one h0,if_pos h]
def cnt:Nat->(Int->Bool)->Nat
 | 0,_=>0
 | n+1,P=>cnt n P+(if P n then 1 else 0)
theorem cnt_pos {P:Int->Bool}:∀ {n:Nat},0<cnt n P->∃ j:Int,0<=j/\j<n/\P j=true
 | 0,h=>absurd h (Nat.lt_irrefl _)
 | n+1,h=>by
  by_cases c:P n=true
  ·exact ⟨n,by omega,by omega,c⟩
  ·have h:0<cnt n P+(if P n then 1 else 0):=h
   rw [if_neg c] at h
   obtain ⟨j,h1,h2,h3⟩:=cnt_pos (n:=n) h
   exact ⟨j,h1,by omega,h3⟩
theorem cnt_out {P Q:Int->Bool}:∀ {n:Nat},(∀ i:Int,0<=i->i<n->P i=Q i)->cnt n P=cnt n Q
 | 0,_=>rfl
 | n+1,h=>by
  show cnt n P+_=cnt n Q+_
  rw [cnt_out (n:=n) λi h0 h1=>h i h0 (by omega),h n (by omega) (by omega)]
theorem cnt_rem {P:Int->Bool} {c:Int} (h0:0<=c) (hp:P c=true):∀ {n:Nat},c<n->cnt n (λj=>P j&&decide (j≠c))+1=cnt n P
 | 0,h=>by omega
 | n+1,h=>by
  show cnt n (λj=>P j&&decide (j≠c))+(if (P n&&decide ((n:Int)≠c)) then 1 else 0)+1=cnt n P+(if P n then 1 else 0)
  by_cases e:(n:Int)=c
  ·subst e
   rw [cnt_out (n:=n) (Q:=P) λi _ h1=>by rw [decide_eq_true (by omega),Bool.and_true]]
   simp [hp]
  ·have:=cnt_rem h0 hp (n:=n) (by omega)
   rw [decide_eq_true e,Bool.and_true];omega
theorem cnt_all:∀ n:Nat,cnt n (λ_=>true)=n
 | 0=>rfl
 | n+1=>by show cnt n _+1=_;rw [cnt_all n]
def Fac (R C k:Nat) (d:Int) (A:Mat):Prop:=∃ X Y:Mat,∀ i j:Int,0<=i->i<R->0<=j->j<C->d∣A i j - mm k X Y i j
theorem up {R C s:Nat} {d:Int} {D:Mat} (hD:∀ i j:Int,0<=i->i<R->0<=j->j<C->i≠j->D i j=0) (h:∀ i:Int,s<=i->i<R->i<C->d∣D i i):Fac R C s d D:=by
 refine ⟨D,idM,λi j h1 h2 h3 h4=>?_⟩
 have e:mm s D idM i j=if j<s then D i j else 0:=by
  show Sg s (λl=>D i l * (if l=j then 1 else 0))=_
  rw [Sg_congr (g:=λl=>if l=j then D i l else 0) λl _ _=>by by_cases e:l=j <;> simp [e],Sg_one h3]
 rw [e]
 by_cases c:j<s
 ·rw [if_pos c,Int.sub_self];exact ⟨0,(Int.mul_zero _).symm⟩
 ·rw [if_neg c,Int.sub_zero]
  by_cases q:i=j
  ·subst q;exact h i (by omega) h2 h4
  ·rw [hD i j h1 h2 h3 h4 q];exact ⟨0,(Int.mul_zero _).symm⟩
structure Dia (R C:Nat) (D:Mat):Prop where
 o:∀ i j:Int,0<=i->i<R->0<=j->j<C->i≠j->D i j=0
 n:∀ i:Int,0<=i->i<R->i<C->0<=D i i
 c:∀ i j:Int,0<=i->i<=j->j<R->j<C->D i i∣D j j
end Go.Proofs.Ytokekkacliomkaa.AE
end
section
namespace Go.Proofs.Ytokekkacliomkaa.AE
open Go Go.AE Go.Proofs
variable {n:Nat}
def rm (S:Int->Bool) (c:Int):Int->Bool:=λx=>S x&&decide (x≠c)
def ad1 (S:Int->Bool) (c:Int):Int->Bool:=λx=>S x || decide (x=c)
theorem rm_self {S:Int->Bool} {c:Int}:rm S c c=false:=by simp [rm]
theorem rm_ne {S:Int->Bool} {c x:Int} (h:x≠c):rm S c x=S x:=by simp [rm,h]
theorem rm_rm {S:Int->Bool} {c d:Int}:rm (rm S c) d=rm (rm S d) c:=by
 funext x;simp only [rm];cases S x <;> simp [Bool.and_comm]
def sgn:Nat->(Int->Bool)->Int->Int
 | 0,_,_=>1
 | n+1,S,c=>sgn n S c * if S n&&decide (c<n) then -1 else 1
def sg (b:Prop) [Decidable b]:Int:=if b then -1 else 1
theorem sg_sq (b:Prop) [Decidable b]:sg b * sg b=1:=by unfold sg;split <;> rfl
theorem sgn_sq {S:Int->Bool} {c:Int}:∀ n:Nat,sgn n S c * sgn n S c=1
 | 0=>rfl
 | n+1=>by
  have:=sgn_sq (S:=S) (c:=c) n
  show (sgn n S c * if S n&&decide (c<n) then -1 else 1) * (sgn n S c * if S n&&decide (c<n) then -1 else 1)=1
  split
  ·rw [Int.mul_neg,Int.mul_one,Int.neg_mul_neg];exact this
  ·rw [Int.mul_one];exact this
theorem sgn_congr {S T:Int->Bool} {c:Int}:∀ {n:Nat},(∀ x:Int,0<=x->x<n->S x=T x)->sgn n S c=sgn n T c
 | 0,_=>rfl
 | n+1,h=>by
  show sgn n S c * _=sgn n T c * _
  rw [sgn_congr (n:=n) λx h0 h1=>h x h0 (by omega),h n (by omega) (by omega)]
theorem sgn_rm {S:Int->Bool} {c d:Int} (h0:0<=c) (hS:S c=true):∀ {n:Nat},c<n->sgn n (rm S c) d=sgn n S d * sg (d<c)
 | 0,h=>by omega
 | n+1,h=>by
  show sgn n (rm S c) d * (if rm S c n&&decide (d<n) then -1 else 1)=sgn n S d * (if S n&&decide (d<n) then -1 else 1) * sg (d<c)
  by_cases e:(n:Int)=c
  ·subst e
   rw [rm_self,sgn_congr (T:=S) λx _ hx=>rm_ne (by omega),hS]
   unfold sg
   by_cases q:d<n
   ·simp [q]
   ·simp [q]
  ·rw [sgn_rm h0 hS (n:=n) (by omega),rm_ne e,Int.mul_assoc,Int.mul_assoc,Int.mul_comm (sg _)]
theorem sgn_ad {S:Int->Bool} {c d:Int} (h0:0<=c) (hS:S c=false) {n:Nat} (h:c<n):sgn n (ad1 S c) d=sgn n S d * sg (d<c):=by
 have h1:rm (ad1 S c) c=S:=by
  funext x
  by_cases e:x=c
  ·subst e;rw [rm_self,hS]
  ·rw [rm_ne e];simp [ad1,e]
 have h2:=sgn_rm (S:=ad1 S c) (d:=d) h0 (by simp [ad1]) h
 rw [h1] at h2
 rw [h2,Int.mul_assoc,sg_sq,Int.mul_one]
def dt (n:Nat) (A:Mat):Nat->(Int->Bool)->Int
 | 0,_=>1
 | r+1,S=>Sg n λc=>if S c=true then sgn n S c * (A r c * dt n A r (rm S c)) else 0
theorem dt_congr {A B:Mat}:∀ (r:Nat) (S:Int->Bool),(∀ i j:Int,0<=i->i<r->0<=j->j<n->A i j=B i j)->dt n A r S=dt n B r S
 | 0,_,_=>rfl
 | r+1,S,h=>Sg_congr λc h0 h1=>by rw [h r c (by omega) (by omega) h0 h1,dt_congr r _ λi j a b=>h i j a (by omega)]
theorem dt_set {A:Mat}:∀ (r:Nat) {S T:Int->Bool},(∀ x:Int,0<=x->x<n->S x=T x)->dt n A r S=dt n A r T
 | 0,_,_,_=>rfl
 | r+1,S,T,h=>Sg_congr λc h0 h1=>by
  rw [h c h0 h1,sgn_congr h,dt_set r (S:=rm S c) (T:=rm T c) λx a b=>by unfold rm;rw [h x a b]]
def rset (A:Mat) (t:Int) (u:Int->Int):Mat:=λi j=>if i=t then u j else A i j
theorem dt_lin {A:Mat} {t q:Int} {u v:Int->Int} (h0:0<=t):∀ (r:Nat) (S:Int->Bool),t<r->dt n (rset A t λj=>u j+q * v j) r S=dt n (rset A t u) r S+q * dt n (rset A t v) r S
 | 0,_,h=>by omega
 | r+1,S,h=>by
  show Sg n _=Sg n _+q * Sg n _
  rw [<- Sg_mul,<-Sg_add]
  refine Sg_congr λc _ _=>?_
  by_cases hc:S c=true
  ·rw [if_pos hc,if_pos hc,if_pos hc]
   by_cases e:(r:Int)=t
   ·have hz:∀ w,dt n (rset A t w) r (rm S c)=dt n A r (rm S c):=λw=>dt_congr r _ λi j _ hi _ _=>if_neg (by omega)
    rw [hz,hz,hz]
    show sgn n S c * ((if (r:Int)=t then u c+q * v c else _) * _)=sgn n S c * ((if (r:Int)=t then u c else _) * _)+q * (sgn n S c * ((if (r:Int)=t then v c else _) * _))
    rw [if_pos e,if_pos e,if_pos e,Int.add_mul,Int.mul_add,Int.mul_assoc q]
    congr 1
    exact Int.mul_left_comm _ _ _
   ·rw [dt_lin h0 r (rm S c) (by omega)]
    show sgn n S c * ((if (r:Int)=t then _ else A r c) * _)=sgn n S c * ((if (r:Int)=t then _ else A r c) * _)+q * (sgn n S c * ((if (r:Int)=t then _ else A r c) * _))
    rw [if_neg e,if_neg e,if_neg e,Int.mul_add,Int.mul_add,Int.mul_left_comm q,Int.mul_left_comm q]
  ·rw [if_neg hc,if_neg hc,if_neg hc,Int.mul_zero];rfl
theorem anti_sum {g:Int->Int->Int} (h:∀ c d:Int,0<=c->c<n->0<=d->d<n->g c d=- g d c):Sg n (λc=>Sg n λd=>g c d)=0:=by
 have e:Sg n (λc=>Sg n λd=>g c d)=- Sg n (λc=>Sg n λd=>g c d):=by
  have e1:=Sg_comm (m:=n) (f:=g) n
  have e2:Sg n (λj=>Sg n λi=>g i j)=- Sg n (λc=>Sg n λd=>g c d):=by
   rw [show - Sg n (λc=>Sg n λd=>g c d)=-1 * Sg n (λc=>Sg n λd=>g c d) by omega,<-Sg_mul]
   refine Sg_congr λc h0 h1=>?_
   rw [<- Sg_mul]
   exact Sg_congr λd h2 h3=>by rw [h d c h2 h3 h0 h1];omega
  rw [e2] at e1;exact e1
 omega
theorem dt_adj {A:Mat}:∀ (r:Nat) (t:Nat) (S:Int->Bool),t+1<r->(∀ j:Int,0<=j->j<n->A t j=A ((t:Int)+1) j)->dt n A r S=0
 | 0,_,_,h,_=>by omega
 | r+1,t,S,h,hA=>by
  by_cases e:t+1=r
  ·subst e
   have key:dt n A (t+1+1) S=Sg n λc=>Sg n λd=>if S c=true/\S d=true/\c≠d then sgn n S c * sgn n S d * sg (d<c) * (A t c * A t d) * dt n A t (rm (rm S c) d) else 0:=by
    refine Sg_congr λc h0 h1=>?_
    by_cases hc:S c=true
    ·rw [if_pos hc]
     show sgn n S c * (A ((t+1:Nat):Int) c * Sg n λd=>if rm S c d=true then sgn n (rm S c) d * (A t d * dt n A t (rm (rm S c) d)) else 0)=_
     rw [<- Sg_mul,<-Sg_mul]
     refine Sg_congr λd h2 h3=>?_
     by_cases hcd:d=c
     ·subst hcd
      rw [rm_self,if_neg (by simp),if_neg (by simp),Int.mul_zero,Int.mul_zero]
     ·rw [rm_ne hcd]
      by_cases hd:S d=true
      ·rw [if_pos hd,if_pos ⟨hc,hd,Ne.symm hcd⟩,sgn_rm h0 hc h1,show ((t+1:Nat):Int)=(t:Int)+1 by omega,<-hA c h0 h1]
       simp only [Int.mul_assoc]
       congr 1
       rw [Int.mul_left_comm]
       congr 1
       rw [Int.mul_left_comm]
      ·rw [if_neg hd,if_neg λq=>hd q.2.1,Int.mul_zero,Int.mul_zero]
    ·rw [if_neg hc]
     exact (Sg_zero λd _ _=>if_neg λq=>hc q.1).symm
   rw [key]
   refine anti_sum λc d h0 h1 h2 h3=>?_
   by_cases hh:S c=true/\S d=true/\c≠d
   ·rw [if_pos hh,if_pos ⟨hh.2.1,hh.1,Ne.symm hh.2.2⟩,rm_rm (c:=d),Int.mul_comm (sgn n S d),Int.mul_comm (A t d)]
    have:sg (c<d)=- sg (d<c):=by
     unfold sg
     by_cases q:c<d
     ·rw [if_pos q,if_neg (by omega)]
     ·rw [if_neg q,if_pos (by omega)];rfl
    rw [this]
    simp only [Int.mul_neg,Int.neg_mul,Int.neg_neg]
   ·rw [if_neg hh,if_neg λq=>hh ⟨q.2.1,q.1,Ne.symm q.2.2⟩];rfl
  ·refine Sg_zero λc _ _=>?_
   split
   ·rw [dt_adj r t (rm S c) (by omega) hA,Int.mul_zero,Int.mul_zero]
   ·rfl
def tr (A:Mat):Mat:=λi j=>A j i
def cset (A:Mat) (t:Int) (u:Int->Int):Mat:=λi j=>if j=t then u i else A i j
theorem dt_out {A:Mat} {t:Int} {u:Int->Int}:∀ (r:Nat) (S:Int->Bool),S t=false->dt n (cset A t u) r S=dt n A r S
 | 0,_,_=>rfl
 | r+1,S,h=>Sg_congr λc _ _=>by
  by_cases hc:S c=true
  ·have e:c≠t:=λq=>by rw [q,h] at hc;cases hc
   rw [if_pos hc,if_pos hc,dt_out r (rm S c) (by unfold rm;rw [h];rfl)]
   show sgn n S c * ((if c=t then _ else A r c) * _)=_
   rw [if_neg e]
  ·rw [if_neg hc,if_neg hc]
theorem rm_cnt {S:Int->Bool} {c:Int} (h0:0<=c) (h1:c<n) (h:S c=true):cnt n (rm S c)+1=cnt n S:=cnt_rem h0 h h1
theorem cnt_zero {S:Int->Bool} {c:Int} (h0:0<=c) (h1:c<n) (h:S c=true):cnt n S≠0:=λq=>by have:=rm_cnt h0 h1 h;omega
theorem dt_clin {A:Mat} {t q:Int} {u v:Int->Int} (h0:0<=t) (h1:t<n):∀ (r:Nat) (S:Int->Bool),S t=true->cnt n S=r->dt n (cset A t λj=>u j+q * v j) r S=dt n (cset A t u) r S+q * dt n (cset A t v) r S
 | 0,S,hS,hc=>absurd hc (cnt_zero h0 h1 hS)
 | r+1,S,hS,hcn=>by
  show Sg n _=Sg n _+q * Sg n _
  rw [<- Sg_mul,<-Sg_add]
  refine Sg_congr λc c0 c1=>?_
  by_cases hc:S c=true
  ·rw [if_pos hc,if_pos hc,if_pos hc]
   have hn:=rm_cnt c0 c1 hc
   by_cases e:c=t
   ·subst e
    rw [dt_out r _ rm_self,dt_out r _ rm_self,dt_out r _ rm_self]
    show sgn n S c * ((if c=c then u r+q * v r else _) * _)=sgn n S c * ((if c=c then u r else _) * _)+q * (sgn n S c * ((if c=c then v r else _) * _))
    rw [if_pos rfl,if_pos rfl,if_pos rfl,Int.add_mul,Int.mul_add,Int.mul_assoc q]
    congr 1
    exact Int.mul_left_comm _ _ _
   ·rw [dt_clin h0 h1 r (rm S c) (by rw [rm_ne (Ne.symm e)];exact hS) (by omega)]
    show sgn n S c * ((if c=t then _ else A r c) * _)=sgn n S c * ((if c=t then _ else A r c) * _)+q * (sgn n S c * ((if c=t then _ else A r c) * _))
    rw [if_neg e,if_neg e,if_neg e,Int.mul_add,Int.mul_add,Int.mul_left_comm q,Int.mul_left_comm q]
  ·rw [if_neg hc,if_neg hc,if_neg hc,Int.mul_zero];rfl
theorem dt_move {A:Mat} {t f:Int} (t0:0<=t) (tf:t<f) (fn:f<n):∀ (r:Nat) (U:Int->Bool),U t=false->U f=false->cnt n U+1=r->(∀ i:Int,0<=i->i<r->A i t=A i f) ->
  dt n A r (ad1 U f)=sgn n U t * sgn n U f * dt n A r (ad1 U t)
 | 0,U,_,_,h,_=>by omega
 | r+1,U,ht,hf,hcn,hA=>by
  -- the sum over U and one more place
  have split:∀ x:Int,0<=x->x<n->U x=false->dt n A (r+1) (ad1 U x)=sgn n U x * (A r x * dt n A r U)+Sg n λc=>if U c=true then sgn n U c * sg (c<x) * (A r c * dt n A r (ad1 (rm U c) x)) else 0:=λx x0 x1 hx=>by
   have e1:Sg n (λc=>if c=x then sgn n U x * (A r x * dt n A r U) else 0)=sgn n U x * (A r x * dt n A r U):=by
    have:=Sg_one (f:=λ_=>sgn n U x * (A r x * dt n A r U)) x0 (n:=n)
    rw [this,if_pos x1]
   rw [<- e1,<-Sg_add]
   refine Sg_congr λc c0 c1=>?_
   by_cases e:c=x
   ·subst e
    have e2:rm (ad1 U c) c=U:=by
     funext y
     by_cases q:y=c
     ·subst q;rw [rm_self,hx]
     ·rw [rm_ne q];simp [ad1,q]
    rw [if_pos (by simp [ad1]),if_pos rfl,if_neg (by rw [hx];simp),e2,sgn_ad c0 hx c1]
    unfold sg
    rw [if_neg (Int.lt_irrefl _),Int.mul_one,Int.add_zero]
   ·have e3:ad1 U x c=U c:=by simp [ad1,e]
    have e4:rm (ad1 U x) c=ad1 (rm U c) x:=by
     funext y
     simp only [rm,ad1]
     by_cases q:y=x
     ·subst q;simp [Ne.symm e]
     ·simp [q]
    rw [e3,e4,if_neg e,Int.zero_add,sgn_ad x0 hx x1]
  rw [split f (by omega) fn hf,split t t0 (by omega) ht,Int.mul_add]
  have h1:sgn n U t * sgn n U f * (sgn n U t * (A r t * dt n A r U))=sgn n U f * (A r f * dt n A r U):=by
   rw [hA r (by omega) (by omega),Int.mul_comm (sgn n U t) (sgn n U f),Int.mul_assoc,<-Int.mul_assoc (sgn n U t),sgn_sq,Int.one_mul]
  rw [h1,<-Sg_mul]
  congr 1
  refine Sg_congr λc c0 c1=>?_
  by_cases hc:U c=true
  ·have e1:c≠t:=λq=>by rw [q,ht] at hc;cases hc
   have e2:c≠f:=λq=>by rw [q,hf] at hc;cases hc
   have hn:=rm_cnt c0 c1 hc
   rw [if_pos hc,if_pos hc,dt_move t0 tf fn r (rm U c) (by rw [rm_ne (Ne.symm e1)];exact ht) (by rw [rm_ne (Ne.symm e2)];exact hf) (by omega) (λi i0 i1=>hA i i0 (by omega)),sgn_rm c0 hc c1,sgn_rm c0 hc c1]
   have e3:sg (c<f) * (sg (t<c) * sg (f<c))=sg (c<t):=by
    unfold sg
    by_cases q:c<t
    ·rw [if_pos q,if_pos (show c<f by omega),if_neg (show ¬ t<c by omega),if_neg (show ¬ f<c by omega)];rfl
    ·by_cases q2:c<f
     ·rw [if_neg q,if_pos q2,if_pos (show t<c by omega),if_neg (show ¬ f<c by omega)];rfl
     ·rw [if_neg q,if_neg q2,if_pos (show t<c by omega),if_pos (show f<c by omega)];rfl
   rw [<- e3]
   generalize sgn n U c=a
   generalize sgn n U t=b
   generalize sgn n U f=d
   generalize sg (c<f)=p
   generalize sg (t<c)=p2
   generalize sg (f<c)=p3
   generalize A r c=x
   generalize dt n A r (ad1 (rm U c) t)=y
   simp only [Int.mul_assoc,Int.mul_left_comm,Int.mul_comm]
  ·rw [if_neg hc,if_neg hc,Int.mul_zero]
theorem dt_calt {A:Mat} {t f:Int} (t0:0<=t) (tf:t<f) (fn:f<n):∀ (r:Nat) (S:Int->Bool),S t=true->S f=true->cnt n S=r->(∀ i:Int,0<=i->i<r->A i t=A i f)->dt n A r S=0
 | 0,S,ht,_,h,_=>absurd h (cnt_zero t0 (by omega) ht)
 | r+1,S,ht,hf,hcn,hA=>by
  have U0:rm (rm S t) f t=false:=by simp [rm]
  have U1:rm (rm S t) f f=false:=by simp [rm]
  have et:rm S t=ad1 (rm (rm S t) f) f:=by
   funext y
   by_cases q:y=f
   ·subst q;simp [ad1];rw [rm_ne (by omega)];exact hf
   ·simp only [ad1,q,decide_false,Bool.or_false];rw [rm_ne q]
  have ef:rm S f=ad1 (rm (rm S t) f) t:=by
   funext y
   by_cases q:y=t
   ·subst q;simp [ad1];rw [rm_ne (by omega)];exact ht
   ·simp only [ad1,q,decide_false,Bool.or_false];rw [rm_rm,rm_ne q]
  have c1:=rm_cnt t0 (show t<n by omega) ht
  have c2:=rm_cnt (S:=rm S t) (c:=f) (by omega) fn (by rw [rm_ne (by omega)];exact hf)
  have hmv:=dt_move (A:=A) t0 tf fn r (rm (rm S t) f) U0 U1 (by omega) (λi i0 i1=>hA i i0 (by omega))
  rw [<- et,<-ef] at hmv
  have e0:dt n A (r+1) S=Sg n λc=>(if c=t then sgn n S t * (A r t * dt n A r (rm S t)) else 0)+if c=f then sgn n S f * (A r f * dt n A r (rm S f)) else 0:=by
   refine Sg_congr λc c0 c1=>?_
   by_cases q:c=t
   ·subst q;rw [if_pos ht,if_pos rfl,if_neg (by omega),Int.add_zero]
   ·by_cases q2:c=f
    ·subst q2;rw [if_pos hf,if_neg q,if_pos rfl,Int.zero_add]
    ·rw [if_neg q,if_neg q2]
     by_cases hc:S c=true
     ·have hn:=rm_cnt c0 c1 hc
      rw [if_pos hc,dt_calt t0 tf fn r (rm S c) (by rw [rm_ne (Ne.symm q)];exact ht) (by rw [rm_ne (Ne.symm q2)];exact hf) (by omega) (λi i0 i1=>hA i i0 (by omega)),Int.mul_zero,Int.mul_zero];rfl
     ·rw [if_neg hc];rfl
  have s1:=Sg_one (f:=λ_=>sgn n S t * (A r t * dt n A r (rm S t))) t0 (n:=n)
  have s2:=Sg_one (f:=λ_=>sgn n S f * (A r f * dt n A r (rm S f))) (show 0<=f by omega) (n:=n)
  rw [e0,Sg_add,s1,s2,if_pos (by omega),if_pos fn,hmv,hA r (by omega) (by omega)]
  -- signs
  have g1:sgn n (rm (rm S t) f) t=- sgn n S t:=by
   rw [sgn_rm (by omega) (by rw [rm_ne (by omega)];exact hf) fn,sgn_rm t0 ht (by omega)]
   unfold sg
   rw [if_neg (Int.lt_irrefl _),if_pos tf];omega
  have g2:sgn n (rm (rm S t) f) f=sgn n S f:=by
   rw [sgn_rm (by omega) (by rw [rm_ne (by omega)];exact hf) fn,sgn_rm t0 ht (by omega)]
   unfold sg
   rw [if_neg (by omega),if_neg (Int.lt_irrefl _)];omega
  rw [g1,g2]
  have sq:=sgn_sq (S:=S) (c:=t) n
  generalize sgn n S t=a at *
  generalize sgn n S f=b at *
  generalize A r f=x
  generalize dt n A r (rm S f)=y
  have:a * (x * (-a * b * y))=- (a * a * (b * (x * y))):=by
   simp only [Int.neg_mul,Int.mul_neg,Int.mul_assoc,Int.mul_left_comm]
  rw [this,sq]
  omega
end Go.Proofs.Ytokekkacliomkaa.AE
end
section
namespace Go.Proofs.Ytokekkacliomkaa.AE
open Go Go.AE Go.Proofs
def sw (i k a:Int):Int:=if a=i then k else if a=k then i else a
def swR (A:Mat) (i k:Int):Mat:=λa b=>A (sw i k a) b
def swC (A:Mat) (j k:Int):Mat:=λa b=>A a (sw j k b)
def ngR (A:Mat) (k:Int):Mat:=λa b=>if a=k then - A a b else A a b
def ngC (A:Mat) (k:Int):Mat:=λa b=>if b=k then - A a b else A a b
def Bd (R C:Nat) (A:Mat):Prop:=∀ i j:Int,0<=i->i<R->0<=j->j<C->-1000000000000<=A i j/\A i j<=1000000000000
variable {R C F:Nat} {A:Mat} {i j k:Int}
theorem at_mk (hR:R<=1000) (hC:C<=1000) (hi0:0<=i) (hi:i<R) (hj0:0<=j) (hj:j<C):bJ.p F C (mk R C A) i j=some (A i j):=by
 unfold bJ.p
 simp (disch:=omega) only [eY,fJ,Option.bind_some]
theorem Nd (hR:R<=1000) (hC:C<=1000) (hi0:0<=i) (hi:i<R) (hk0:0<=k) (hk:k<R):∀ (n f:Nat) (A:Mat) (j:Int),C - j=n->n<f->0<=j ->
  bT.pl7 F f i k C (mk R C A) j=some (mk R C λa b=>if j<=b then A (sw i k a) b else A a b):=by
 intro n
 induction n with
 | zero=>
  intro f A j hn hf hj
  obtain ⟨f,rfl⟩:∃ f',f=f'+1:=⟨f - 1,by omega⟩
  rw [bT.pl7,show decide (j<(C:Int))=false from decide_eq_false (by omega),cond_false]
  congr 1
  apply cX
  intro a b _ _ _ _
  rw [if_neg (by omega)]
 | succ n ih=>
  intro f A j hn hf hj
  obtain ⟨f,rfl⟩:∃ f',f=f'+1:=⟨f - 1,by omega⟩
  rw [bT.pl7,show decide (j<(C:Int))=true from decide_eq_true (by omega),cond_true]
  simp (disch:=omega) only [at_mk,eY,fJ,jt,Option.bind_some,aM]
  rw [ih _ _ _ (by omega) (by omega) (by omega)]
  congr 1
  apply cX
  intro a b _ _ _ _
  unfold upd sw
  grind
theorem zo (hR:R<=1000) (hC:C<=1000) (hF:C<F) (hi0:0<=i) (hi:i<R) (hk0:0<=k) (hk:k<R):bT.p F C (mk R C A) i k=some (mk R C (swR A i k)):=by
 unfold bT.p
 rw [Nd hR hC hi0 hi hk0 hk C F A 0 (by omega) hF (by omega)]
 apply congrArg some
 apply cX
 intro a b _ _ _ _
 exact if_pos (by omega)
theorem Nf (hR:R<=1000) (hC:C<=1000) (hi0:0<=i) (hi:i<R) (hk0:0<=k) (hk:k<R):∀ (n f:Nat) (A:Mat) (j:Int),C - j=n->n<f->0<=j ->
  bZ.pl7 F f i k C (mk R C A) C j=some (mk R C λa b=>if j<=b then A (sw i k a) b else A a b):=by
 intro n
 induction n with
 | zero=>
  intro f A j hn hf hj
  obtain ⟨f,rfl⟩:∃ f',f=f'+1:=⟨f - 1,by omega⟩
  rw [bZ.pl7,show decide (j<(C:Int))=false from decide_eq_false (by omega),cond_false]
  congr 1
  apply cX
  intro a b _ _ _ _
  rw [if_neg (by omega)]
 | succ n ih=>
  intro f A j hn hf hj
  obtain ⟨f,rfl⟩:∃ f',f=f'+1:=⟨f - 1,by omega⟩
  rw [bZ.pl7,show decide (j<(C:Int))=true from decide_eq_true (by omega),cond_true]
  simp (disch:=omega) only [at_mk,eY,fJ,jt,Option.bind_some,aM]
  rw [ih _ _ _ (by omega) (by omega) (by omega)]
  congr 1
  apply cX
  intro a b _ _ _ _
  unfold upd sw
  grind
theorem De (hR:R<=1000) (hC:C<=1000) (hF:C<F) (hi0:0<=i) (hi:i<R) (hk0:0<=k) (hk:k<R):bZ.p F C (mk R C A) i k=some (mk R C (swR A i k)):=by
 unfold bZ.p
 rw [Nf hR hC hi0 hi hk0 hk C F A 0 (by omega) hF (by omega)]
 apply congrArg some
 apply cX
 intro a b _ _ _ _
 exact if_pos (by omega)
theorem Ng (hR:R<=1000) (hC:C<=1000) (hi0:0<=j) (hi:j<C) (hk0:0<=k) (hk:k<C):∀ (n f:Nat) (A:Mat) (i:Int),R - i=n->n<f->0<=i ->
  mX.pl7 F f j k R C (mk R C A) i=some (mk R C λa b=>if i<=a then A a (sw j k b) else A a b):=by
 intro n
 induction n with
 | zero=>
  intro f A j hn hf hj
  obtain ⟨f,rfl⟩:∃ f',f=f'+1:=⟨f - 1,by omega⟩
  rw [mX.pl7,show decide (j<(R:Int))=false from decide_eq_false (by omega),cond_false]
  congr 1
  apply cX
  intro a b _ _ _ _
  rw [if_neg (by omega)]
 | succ n ih=>
  intro f A j hn hf hj
  obtain ⟨f,rfl⟩:∃ f',f=f'+1:=⟨f - 1,by omega⟩
  rw [mX.pl7,show decide (j<(R:Int))=true from decide_eq_true (by omega),cond_true]
  simp (disch:=omega) only [at_mk,eY,fJ,jt,Option.bind_some,aM]
  rw [ih _ _ _ (by omega) (by omega) (by omega)]
  congr 1
  apply cX
  intro a b _ _ _ _
  unfold upd sw
  grind
theorem Df (hR:R<=1000) (hC:C<=1000) (hF:R<F) (hi0:0<=j) (hi:j<C) (hk0:0<=k) (hk:k<C):mX.p F R C (mk R C A) j k=some (mk R C (swC A j k)):=by
 unfold mX.p
 rw [Ng hR hC hi0 hi hk0 hk R F A 0 (by omega) hF (by omega)]
 apply congrArg some
 apply cX
 intro a b _ _ _ _
 exact if_pos (by omega)
theorem Nh (hR:R<=1000) (hC:C<=1000) (hi0:0<=j) (hi:j<C) (hk0:0<=k) (hk:k<C):∀ (n f:Nat) (A:Mat) (i:Int),R - i=n->n<f->0<=i ->
  b_.pl7 F f j k C (mk R C A) R i=some (mk R C λa b=>if i<=a then A a (sw j k b) else A a b):=by
 intro n
 induction n with
 | zero=>
  intro f A j hn hf hj
  obtain ⟨f,rfl⟩:∃ f',f=f'+1:=⟨f - 1,by omega⟩
  rw [b_.pl7,show decide (j<(R:Int))=false from decide_eq_false (by omega),cond_false]
  congr 1
  apply cX
  intro a b _ _ _ _
  rw [if_neg (by omega)]
 | succ n ih=>
  intro f A j hn hf hj
  obtain ⟨f,rfl⟩:∃ f',f=f'+1:=⟨f - 1,by omega⟩
  rw [b_.pl7,show decide (j<(R:Int))=true from decide_eq_true (by omega),cond_true]
  simp (disch:=omega) only [at_mk,eY,fJ,jt,Option.bind_some,aM]
  rw [ih _ _ _ (by omega) (by omega) (by omega)]
  congr 1
  apply cX
  intro a b _ _ _ _
  unfold upd sw
  grind
theorem Dg (hR:R<=1000) (hC:C<=1000) (hF:R<F) (hi0:0<=j) (hi:j<C) (hk0:0<=k) (hk:k<C):b_.p F R C (mk R C A) j k=some (mk R C (swC A j k)):=by
 unfold b_.p
 rw [Nh hR hC hi0 hi hk0 hk R F A 0 (by omega) hF (by omega)]
 apply congrArg some
 apply cX
 intro a b _ _ _ _
 exact if_pos (by omega)
theorem negr_l (hR:R<=1000) (hC:C<=1000) (hk0:0<=k) (hk:k<R):∀ (n:Nat) (A:Mat) (j:Int),Bd R C A->C - j=n->0<=j ->
  na (mk R C A) (k * C+j).toNat n=mk R C λa b=>if a=k/\j<=b then - A a b else A a b:=by
 intro n
 induction n with
 | zero=>
  intro A j hb hn hj
  unfold na
  apply cX
  intro a b _ _ _ _
  rw [if_neg (by omega)]
 | succ n ih=>
  intro A j hb hn hj
  unfold na
  have h1:0<=k * C:=Int.mul_nonneg hk0 (Int.natCast_nonneg _)
  have hbb:=hb k j hk0 hk hj (by omega)
  simp (disch:=omega) only [eY,fJ,jt]
  rw [aM (by omega) (by omega),show (k * C+j).toNat+1=(k * C+(j+1)).toNat by omega,ih _ (j+1) ?_ (by omega) (by omega)]
  ·apply cX
   intro a b _ _ _ _
   unfold upd
   grind
  ·intro a b h1 h2 h3 h4
   have:=hb a b h1 h2 h3 h4
   unfold upd
   split <;> omega
theorem negr_mk (hR:R<=1000) (hC:C<=1000) (hk0:0<=k) (hk:k<R) (hb:Bd R C A):na (mk R C A) (k * C).toNat C=mk R C (ngR A k):=by
 have:=negr_l hR hC hk0 hk C A 0 hb (by omega) (by omega)
 rw [Int.add_zero] at this
 rw [this]
 apply cX
 intro a b _ _ _ _
 unfold ngR
 grind
end Go.Proofs.Ytokekkacliomkaa.AE
end
section
namespace Go.Proofs.Ytokekkacliomkaa.AE
open Go Go.AE Go.Proofs
variable {R C F:Nat} {A:Mat} {i j k:Int}
def ab (x:Int):Int:=if x<0 then -x else x
theorem ab_nn (x:Int):0<=ab x:=by unfold ab;split <;> omega
theorem ab_mul (x y:Int):ab (x * y)=ab x * ab y:=by
 have e (z:Int):ab z=(z.natAbs:Int):=by unfold ab;split <;> omega
 rw [e,e,e,Int.natAbs_mul,Int.natCast_mul]
theorem vR {x:Int} (h0:-4000000000000000000<=x) (h1:x<=4000000000000000000):eT.p F x=some (ab x):=by
 unfold eT.p ab
 rw [aM (by omega) (by omega)]
 congr 1
 split <;> split <;> omega
theorem uC {x:Int} (h0:-4000000000000000000<=x) (h1:x<=4000000000000000000):cv.p F x=some (ab x):=by
 unfold cv.p ab
 by_cases h:x<0
 ·rw [decide_eq_true h,cond_true,aM (by omega) (by omega),if_pos h,Int.zero_sub]
 ·rw [decide_eq_false h,cond_false,if_neg h]
theorem gt_div {u v m:Int} (hu:0<u) (hm:0<=m):v>Int.tdiv m u↔u * v>m:=by
 rw [Int.tdiv_eq_ediv_of_nonneg hm]
 rw [gt_iff_lt,Int.ediv_lt_iff_lt_mul hu,Int.mul_comm]
def okm (x y:Int):Prop:=ab (x * y)<=2000000000000
instance (x y:Int):Decidable (okm x y):=by unfold okm;infer_instance
theorem ab_bd {x m:Int} (h:ab x<=m):-m<=x/\x<=m:=by unfold ab at h;split at h <;> omega
theorem tdiv_bd {m u:Int} (hm:0<=m) (hu:0<=u):0<=Int.tdiv m u/\Int.tdiv m u<=m:=by
 rw [Int.tdiv_eq_ediv_of_nonneg hm]
 exact ⟨Int.ediv_nonneg hm hu,Int.ediv_le_self _ hm⟩
theorem Ni {x y:Int} (hx:ab x<=4000000000000) (hy:ab y<=4000000000000):Cy.p F x y 2000000000000=some (if okm x y then (x * y,true) else (0,false)):=by
 have bx:=ab_bd hx
 have by_:=ab_bd hy
 have n1:=ab_nn x
 unfold Cy.p
 by_cases h:x=0
 ·subst h
  have:okm 0 y:=by unfold okm ab;rw [Int.zero_mul];decide
  rw [if_pos this,show ((0:Int) != 0)=false from rfl,cond_false,Int.zero_mul,aM (by omega) (by omega)]
 ·rw [show (x != 0)=true from bne_iff_ne.2 h,cond_true,vR (by omega) (by omega),Option.bind_some,vR (by omega) (by omega),Option.bind_some]
  have hp:0<ab x:=by unfold ab;split <;> omega
  have bd:=tdiv_bd (m:=2000000000000) (u:=ab x) (by omega) (by omega)
  rw [if_neg (by omega),aM (by omega) (by omega)]
  have key:ab y>Int.tdiv 2000000000000 (ab x)↔¬ okm x y:=by
   rw [gt_div hp (by omega),okm,ab_mul];omega
  by_cases ho:okm x y
  ·rw [decide_eq_false (λh=>(key.1 h) ho),cond_false,if_pos ho]
   have:=ab_bd ho
   rw [aM (by omega) (by omega)]
  ·rw [decide_eq_true (key.2 ho),cond_true,if_neg ho]
theorem Ha {x y:Int} (hx:ab x<=4000000000000) (hy:ab y<=4000000000000):fj.p F x y 2000000000000=some (if okm x y then (x * y,true) else (0,false)):=by
 have bx:=ab_bd hx
 have by_:=ab_bd hy
 have n1:=ab_nn x
 unfold fj.p
 by_cases h:x=0
 ·subst h
  have:okm 0 y:=by unfold okm ab;rw [Int.zero_mul];decide
  rw [if_pos this,show ((0:Int) != 0)=false from rfl,cond_false,Int.zero_mul,aM (by omega) (by omega)]
 ·rw [show (x != 0)=true from bne_iff_ne.2 h,cond_true,uC (by omega) (by omega),Option.bind_some,uC (by omega) (by omega),Option.bind_some]
  have hp:0<ab x:=by unfold ab;split <;> omega
  have bd:=tdiv_bd (m:=2000000000000) (u:=ab x) (by omega) (by omega)
  rw [if_neg (by omega),aM (by omega) (by omega)]
  have key:ab y>Int.tdiv 2000000000000 (ab x)↔¬ okm x y:=by
   rw [gt_div hp (by omega),okm,ab_mul];omega
  by_cases ho:okm x y
  ·rw [decide_eq_false (λh=>(key.1 h) ho),cond_false,if_pos ho]
   have:=ab_bd ho
   rw [aM (by omega) (by omega)]
  ·rw [decide_eq_true (key.2 ho),cond_true,if_neg ho]
theorem floor_core {a b:Int} (hb:0<b):(Int.tmod a b<0->a / b=Int.tdiv a b - 1)/\(¬ Int.tmod a b<0->a / b=Int.tdiv a b):=by
 have e:=Int.mul_tdiv_add_tmod a b
 have hlt:Int.tmod a b<b:=Int.tmod_lt_of_pos a hb
 have hgt:-b<Int.tmod a b:=by
  have:=Int.neg_one_mul b
  have h:=Int.lt_tmod_of_pos a hb
  omega
 constructor
 ·intro h
  have:a=(Int.tmod a b+b)+b * (Int.tdiv a b - 1):=by rw [Int.mul_sub,Int.mul_one];omega
  conv=>lhs;rw [this]
  rw [Int.add_mul_ediv_left _ _ (by omega),Int.ediv_eq_zero_of_lt (by omega) (by omega),Int.zero_add]
 ·intro h
  have:a=(Int.tmod a b)+b * (Int.tdiv a b):=by omega
  conv=>lhs;rw [this]
  rw [Int.add_mul_ediv_left _ _ (by omega),Int.ediv_eq_zero_of_lt (by omega) (by omega),Int.zero_add]
theorem quo_bd {a b:Int} (hb:0<b) (ha:ab a<=1000000000000):ab (a / b)<=1000000000000/\ab (Int.tdiv a b)<=1000000000000:=by
 have h:=ab_bd ha
 have h1:a / b<=1000000000000:=by
  by_cases h0:0<=a
  ·have:=Int.ediv_le_self b h0;omega
  ·have:=Int.ediv_neg_of_neg_of_pos (by omega:a<0) hb;omega
 have h2:-1000000000000<=a / b:=by
  rw [Int.le_ediv_iff_mul_le hb]
  have:1000000000000 * 1<=1000000000000 * b:=Int.mul_le_mul_of_nonneg_left (by omega) (by omega)
  rw [Int.neg_mul];omega
 have h3:a / b<=Int.tdiv a b/\Int.tdiv a b<=a / b+1:=by
  by_cases hh:Int.tmod a b<0
  ·have:=(floor_core (a:=a) hb).1 hh;omega
  ·have:=(floor_core (a:=a) hb).2 hh;omega
 have h4:Int.tdiv a b<=1000000000000:=by
  by_cases h0:0<=a
  ·rw [Int.tdiv_eq_ediv_of_nonneg h0];exact h1
  ·have:=Int.ediv_neg_of_neg_of_pos (by omega:a<0) hb;omega
 unfold ab
 constructor <;> split <;> omega
theorem Hb {a b:Int} (hb:0<b) (ha:ab a<=1000000000000):yT.p F a b=some (a / b):=by
 unfold yT.p
 obtain ⟨h1,h2⟩:=quo_bd hb ha
 have h1:=ab_bd h1
 have h2:=ab_bd h2
 rw [if_neg (by omega),if_neg (by omega),aM (x:=Int.tdiv a b) (by omega) (by omega)]
 by_cases h:Int.tmod a b<0
 ·have e:=(floor_core (a:=a) hb).1 h
  rw [decide_eq_true h,cond_true,aM (x:=Int.tdiv a b - 1) (by omega) (by omega),e]
 ·rw [decide_eq_false h,cond_false,(floor_core (a:=a) hb).2 h]
theorem Hc {a b:Int} (hb:0<b) (ha:ab a<=1000000000000):fH.p F a b=some (a / b):=by
 unfold fH.p
 obtain ⟨h1,h2⟩:=quo_bd hb ha
 have h1:=ab_bd h1
 have h2:=ab_bd h2
 rw [if_neg (by omega),if_neg (by omega),aM (x:=Int.tdiv a b) (by omega) (by omega)]
 by_cases h:Int.tmod a b<0
 ·have e:=(floor_core (a:=a) hb).1 h
  rw [decide_eq_true h,cond_true,aM (x:=Int.tdiv a b - 1) (by omega) (by omega),e]
 ·rw [decide_eq_false h,cond_false,(floor_core (a:=a) hb).2 h]
def fit (x y b:Int):Prop:=okm y b/\ab (x+y * b)<=1000000000000
instance (x y b:Int):Decidable (fit x y b):=by unfold fit;infer_instance
def ad (x y b:Int):Int:=if fit x y b then x+y * b else 0
theorem ad_bd (x y b:Int):ab (ad x y b)<=1000000000000:=by
 unfold ad
 split
 ·rename_i h;exact h.2
 ·decide
theorem ad_fit {x y b:Int} (h:fit x y b):ad x y b=x+y * b:=if_pos h
def adRf (A:Mat) (t f b j0:Int):Mat:=λi j=>if i=t/\j0<=j then ad (A t j) (A f j) b else A i j
def adCf (A:Mat) (t f b i0:Int):Mat:=λi j=>if j=t/\i0<=i then ad (A i t) (A i f) b else A i j
def adR (A:Mat) (t f b:Int):Mat:=λi j=>if i=t then ad (A t j) (A f j) b else A i j
def adC (A:Mat) (t f b:Int):Mat:=λi j=>if j=t then ad (A i t) (A i f) b else A i j
theorem Bd.ab {i j:Int} (h:Bd R C A) (hi0:0<=i) (hi:i<R) (hj0:0<=j) (hj:j<C):ab (A i j)<=1000000000000:=by
 have:=h i j hi0 hi hj0 hj
 unfold AE.ab;split <;> omega
theorem Bd.upd {i j x:Int} (h:Bd R C A) (hx:AE.ab x<=1000000000000):Bd R C (upd A i j x):=by
 intro a b h1 h2 h3 h4
 have:=h a b h1 h2 h3 h4
 have:=ab_bd hx
 unfold Go.AE.upd
 split <;> omega
theorem Nj {t f q:Int} (hR:R<=1000) (hC:C<=1000) (ht0:0<=t) (ht:t<R) (hf0:0<=f) (hf:f<R) (htf:t≠f) (hq:ab q<=4000000000000):∀ (n g:Nat) (A:Mat) (bad:Bool) (j:Int),Bd R C A->C - j=n->n<g->0<=j ->
  ∃ bad',bX.pl7 F g bad t f q C (mk R C A) C j=some (bad',mk R C (adRf A t f q j))/\(bad'=true↔bad=true\/∃ b,j<=b/\b<C/\¬ fit (A t b) (A f b) q):=by
 intro n
 induction n with
 | zero=>
  intro g A bad j hb hn hg hj
  obtain ⟨g,rfl⟩:∃ g',g=g'+1:=⟨g - 1,by omega⟩
  rw [bX.pl7,show decide (j<(C:Int))=false from decide_eq_false (by omega),cond_false]
  refine ⟨bad,?_,⟨λh=>.inl h,λh=>?_⟩⟩
  ·congr 2
   apply cX
   intro a b _ _ _ _
   exact (if_neg (by omega)).symm
  ·rcases h with h | ⟨b,h1,h2,_⟩
   ·exact h
   ·omega
 | succ n ih=>
  intro g A bad j hb hn hg hj
  obtain ⟨g,rfl⟩:∃ g',g=g'+1:=⟨g - 1,by omega⟩
  rw [bX.pl7,show decide (j<(C:Int))=true from decide_eq_true (by omega),cond_true]
  have b1:=hb.ab hf0 hf hj (by omega)
  have b2:=hb.ab ht0 ht hj (by omega)
  have b3:=ab_bd b2
  simp (disch:=omega) only [eY,fJ,jt,Option.bind_some,aM]
  rw [Ha (by omega) hq,Option.bind_some]
  have step:∀ bad1:Bool,(bad1=true↔bad=true\/¬ fit (A t j) (A f j) q)->∃ bad',bX.pl7 F g bad1 t f q C (mk R C (upd A t j (ad (A t j) (A f j) q))) C (j+1)=some (bad',mk R C (adRf A t f q j))/\(bad'=true↔bad=true\/∃ b,j<=b/\b<C/\¬ fit (A t b) (A f b) q):=by
   intro bad1 hbad
   obtain ⟨bad',e,he⟩:=ih g (upd A t j (ad (A t j) (A f j) q)) bad1 (j+1) (hb.upd (ad_bd _ _ _)) (by omega) (by omega) (by omega)
   refine ⟨bad',?_,?_⟩
   ·rw [e]
    congr 2
    apply cX
    intro a b _ _ _ _
    unfold adRf upd
    grind
   ·rw [he,hbad]
    constructor
    ·rintro ((h | h) | ⟨b,h1,h2,h3⟩)
     ·exact .inl h
     ·exact .inr ⟨j,by omega,by omega,h⟩
     ·rw [jm _ _ (by omega),jm _ _ (by omega)] at h3
      exact .inr ⟨b,by omega,h2,h3⟩
    ·rintro (h | ⟨b,h1,h2,h3⟩)
     ·exact .inl (.inl h)
     ·by_cases e:b=j
      ·subst e;exact .inl (.inr h3)
      ·exact .inr ⟨b,by omega,h2,by rw [jm _ _ (by omega),jm _ _ (by omega)];exact h3⟩
  by_cases ho:okm (A f j) q
  ·have h4:=ab_bd ho
   simp only [if_pos ho,Bool.not_true,cond_false]
   simp (disch:=omega) only [fJ,DR,aM,Option.bind_some]
   rw [uC (by omega) (by omega),Option.bind_some]
   by_cases hs:ab (A t j+A f j * q)<=1000000000000
   ·rw [decide_eq_false (by omega),cond_false]
    have hfit:fit (A t j) (A f j) q:=⟨ho,hs⟩
    rw [<- ad_fit hfit]
    exact step bad ⟨λh=>.inl h,λh=>h.elim id λh=>absurd hfit h⟩
   ·rw [decide_eq_true (by omega),cond_true]
    have hfit:¬ fit (A t j) (A f j) q:=λh=>hs h.2
    have e0:upd (upd A t j (A t j+A f j * q)) t j 0=upd A t j (ad (A t j) (A f j) q):=by
     funext a b;unfold upd ad;rw [if_neg hfit];split <;> rfl
    rw [e0]
    exact step true ⟨λ_=>.inr hfit,λ_=>rfl⟩
  ·simp only [if_neg ho,Bool.not_false,cond_true,Option.bind_some]
   have hfit:¬ fit (A t j) (A f j) q:=λh=>ho h.1
   have e0:∀ z,upd (upd A t j z) t j 0=upd A t j (ad (A t j) (A f j) q):=by
    intro z;funext a b;unfold upd ad;rw [if_neg hfit];split <;> rfl
   rw [e0]
   exact step true ⟨λ_=>.inr hfit,λ_=>rfl⟩
theorem Nk {t f q:Int} (hR:R<=1000) (hC:C<=1000) (ht0:0<=t) (ht:t<C) (hf0:0<=f) (hf:f<C) (htf:t≠f) (hq:ab q<=4000000000000):∀ (n g:Nat) (A:Mat) (bad:Bool) (j:Int),Bd R C A->R - j=n->n<g->0<=j ->
  ∃ bad',bY.pl7 F g bad t f q C (mk R C A) R j=some (bad',mk R C (adCf A t f q j))/\(bad'=true↔bad=true\/∃ b,j<=b/\b<R/\¬ fit (A b t) (A b f) q):=by
 intro n
 induction n with
 | zero=>
  intro g A bad j hb hn hg hj
  obtain ⟨g,rfl⟩:∃ g',g=g'+1:=⟨g - 1,by omega⟩
  rw [bY.pl7,show decide (j<(R:Int))=false from decide_eq_false (by omega),cond_false]
  refine ⟨bad,?_,⟨λh=>.inl h,λh=>?_⟩⟩
  ·congr 2
   apply cX
   intro a b _ _ _ _
   exact (if_neg (by omega)).symm
  ·rcases h with h | ⟨b,h1,h2,_⟩
   ·exact h
   ·omega
 | succ n ih=>
  intro g A bad j hb hn hg hj
  obtain ⟨g,rfl⟩:∃ g',g=g'+1:=⟨g - 1,by omega⟩
  rw [bY.pl7,show decide (j<(R:Int))=true from decide_eq_true (by omega),cond_true]
  have b1:=hb.ab hj (by omega) hf0 hf
  have b2:=hb.ab hj (by omega) ht0 ht
  have b3:=ab_bd b2
  simp (disch:=omega) only [eY,fJ,jt,Option.bind_some,aM]
  rw [Ha (by omega) hq,Option.bind_some]
  have step:∀ bad1:Bool,(bad1=true↔bad=true\/¬ fit (A j t) (A j f) q)->∃ bad',bY.pl7 F g bad1 t f q C (mk R C (upd A j t (ad (A j t) (A j f) q))) R (j+1)=some (bad',mk R C (adCf A t f q j))/\(bad'=true↔bad=true\/∃ b,j<=b/\b<R/\¬ fit (A b t) (A b f) q):=by
   intro bad1 hbad
   obtain ⟨bad',e,he⟩:=ih g (upd A j t (ad (A j t) (A j f) q)) bad1 (j+1) (hb.upd (ad_bd _ _ _)) (by omega) (by omega) (by omega)
   refine ⟨bad',?_,?_⟩
   ·rw [e]
    congr 2
    apply cX
    intro a b _ _ _ _
    unfold adCf upd
    grind
   ·rw [he,hbad]
    constructor
    ·rintro ((h | h) | ⟨b,h1,h2,h3⟩)
     ·exact .inl h
     ·exact .inr ⟨j,by omega,by omega,h⟩
     ·rw [jm _ _ (by omega),jm _ _ (by omega)] at h3
      exact .inr ⟨b,by omega,h2,h3⟩
    ·rintro (h | ⟨b,h1,h2,h3⟩)
     ·exact .inl (.inl h)
     ·by_cases e:b=j
      ·subst e;exact .inl (.inr h3)
      ·exact .inr ⟨b,by omega,h2,by rw [jm _ _ (by omega),jm _ _ (by omega)];exact h3⟩
  by_cases ho:okm (A j f) q
  ·have h4:=ab_bd ho
   simp only [if_pos ho,Bool.not_true,cond_false]
   simp (disch:=omega) only [fJ,DR,aM,Option.bind_some]
   rw [uC (by omega) (by omega),Option.bind_some]
   by_cases hs:ab (A j t+A j f * q)<=1000000000000
   ·rw [decide_eq_false (by omega),cond_false]
    have hfit:fit (A j t) (A j f) q:=⟨ho,hs⟩
    rw [<- ad_fit hfit]
    exact step bad ⟨λh=>.inl h,λh=>h.elim id λh=>absurd hfit h⟩
   ·rw [decide_eq_true (by omega),cond_true]
    have hfit:¬ fit (A j t) (A j f) q:=λh=>hs h.2
    have e0:upd (upd A j t (A j t+A j f * q)) j t 0=upd A j t (ad (A j t) (A j f) q):=by
     funext a b;unfold upd ad;rw [if_neg hfit];split <;> rfl
    rw [e0]
    exact step true ⟨λ_=>.inr hfit,λ_=>rfl⟩
  ·simp only [if_neg ho,Bool.not_false,cond_true,Option.bind_some]
   have hfit:¬ fit (A j t) (A j f) q:=λh=>ho h.1
   have e0:∀ z,upd (upd A j t z) j t 0=upd A j t (ad (A j t) (A j f) q):=by
    intro z;funext a b;unfold upd ad;rw [if_neg hfit];split <;> rfl
   rw [e0]
   exact step true ⟨λ_=>.inr hfit,λ_=>rfl⟩
def nfR (C:Nat) (A:Mat) (t f q:Int):Prop:=∃ b:Int,0<=b/\b<C/\¬ fit (A t b) (A f b) q
def nfC (R:Nat) (A:Mat) (t f q:Int):Prop:=∃ b:Int,0<=b/\b<R/\¬ fit (A b t) (A b f) q
theorem Dh {t f q:Int} {bad:Bool} (hR:R<=1000) (hC:C<=1000) (hF:C<F) (hb:Bd R C A) (ht0:0<=t) (ht:t<R) (hf0:0<=f) (hf:f<R) (htf:t≠f) (hq:ab q<=4000000000000) :
  ∃ bad',bX.p F bad C (mk R C A) t f q=some (bad',mk R C (adR A t f q))/\(bad'=true↔bad=true\/nfR C A t f q):=by
 obtain ⟨bad',e,h⟩:=Nj hR hC ht0 ht hf0 hf htf hq C F A bad 0 hb (by omega) hF (by omega)
 refine ⟨bad',?_,h⟩
 unfold bX.p
 rw [e]
 congr 2
 apply cX
 intro a b _ _ _ _
 unfold adRf adR
 grind
theorem Di {t f q:Int} {bad:Bool} (hR:R<=1000) (hC:C<=1000) (hF:R<F) (hb:Bd R C A) (ht0:0<=t) (ht:t<C) (hf0:0<=f) (hf:f<C) (htf:t≠f) (hq:ab q<=4000000000000) :
  ∃ bad',bY.p F bad R C (mk R C A) t f q=some (bad',mk R C (adC A t f q))/\(bad'=true↔bad=true\/nfC R A t f q):=by
 obtain ⟨bad',e,h⟩:=Nk hR hC ht0 ht hf0 hf htf hq R F A bad 0 hb (by omega) hF (by omega)
 refine ⟨bad',?_,h⟩
 unfold bY.p
 rw [e]
 congr 2
 apply cX
 intro a b _ _ _ _
 unfold adCf adC
 grind
theorem Bd.adR {t f q:Int} (h:Bd R C A):Bd R C (adR A t f q):=by
 intro a b h1 h2 h3 h4
 have:=h a b h1 h2 h3 h4
 have:=ab_bd (ad_bd (A t b) (A f b) q)
 unfold AE.adR
 split <;> omega
theorem Bd.adC {t f q:Int} (h:Bd R C A):Bd R C (adC A t f q):=by
 intro a b h1 h2 h3 h4
 have:=h a b h1 h2 h3 h4
 have:=ab_bd (ad_bd (A a t) (A a f) q)
 unfold AE.adC
 split <;> omega
end Go.Proofs.Ytokekkacliomkaa.AE
end
section
namespace Go.Proofs.Ytokekkacliomkaa.AE
open Go Go.AE Go.Proofs
variable {R C F:Nat} {A:Mat} {i j k:Int}
theorem Hd {x y q:Int} (hx:ab x<=1000000000000) (hy:ab y<=1000000000000) (hq:ab q<=4000000000000):∃ z,yU.p F x q y=some z/\ab z<=4000000000000/\(ab z<=1000000000000↔fit x y (-q))/\(fit x y (-q)->z=ad x y (-q)):=by
 unfold yU.p
 rw [Ni hq (by omega),Option.bind_some]
 have e1:y * -q=- (q * y):=by rw [Int.mul_neg,Int.mul_comm]
 have ho:okm y (-q)↔okm q y:=by
  unfold okm;rw [e1];unfold ab;split <;> split <;> omega
 have bx:=ab_bd hx
 by_cases h:okm q y
 ·have hb:=ab_bd h
  rw [if_pos h,Bool.not_true,cond_false]
  simp only []
  rw [aM (by omega) (by omega)]
  have e2:x+y * -q=x - q * y:=by omega
  refine ⟨_,rfl,?_,?_,?_⟩
  ·unfold ab;split <;> omega
  ·unfold fit;rw [e2]
   exact ⟨λh1=>⟨ho.2 h,h1⟩,λh1=>h1.2⟩
  ·intro hf
   rw [ad_fit hf,e2]
 ·rw [if_neg h,Bool.not_false,cond_true]
  refine ⟨_,rfl,by decide,⟨λh=>absurd h (by decide),λhf=>absurd (ho.1 hf.1) h⟩,λhf=>absurd (ho.1 hf.1) h⟩
theorem He {z:Int} {bad:Bool} (hR:R<=1000) (hC:C<=1000) (hi0:0<=i) (hi:i<R) (hj0:0<=j) (hj:j<C) (hz:ab z<=4000000000000) :
  yV.p F bad C (mk R C A) i j z=some (if ab z<=1000000000000 then (bad,mk R C (upd A i j z)) else (true,mk R C A)):=by
 have hb:=ab_bd hz
 unfold yV.p
 rw [vR (by omega) (by omega),Option.bind_some]
 by_cases h:ab z<=1000000000000
 ·rw [decide_eq_false (by omega),cond_false,if_pos h]
  simp (disch:=omega) only [eY,jt,Option.bind_some]
 ·rw [decide_eq_true (by omega),cond_true,if_neg h]
theorem Nl {t f q:Int} (hR:R<=1000) (hC:C<=1000) (ht0:0<=t) (ht:t<R) (hf0:0<=f) (hf:f<R) (htf:t≠f) (hq:ab q<=4000000000000):∀ (n g:Nat) (A:Mat) (j:Int),Bd R C A->C - j=n->n<g->0<=j ->
  ∃ bad' l',ko.pl7 F g false t f q C (mk R C A) j=some (bad',l')/\(bad'=true↔∃ b,j<=b/\b<C/\¬ fit (A t b) (A f b) (-q))/\(bad'=false->l'=mk R C (adRf A t f (-q) j)):=by
 intro n
 induction n with
 | zero=>
  intro g A j hb hn hg hj
  obtain ⟨g,rfl⟩:∃ g',g=g'+1:=⟨g - 1,by omega⟩
  rw [ko.pl7,show decide (j<(C:Int))=false from decide_eq_false (by omega),cond_false]
  refine ⟨_,_,rfl,⟨λh=>(by cases h),λ⟨b,h1,h2,_⟩=>by omega⟩,λ_=>?_⟩
  apply cX
  intro a b _ _ _ _
  exact (if_neg (by omega)).symm
 | succ n ih=>
  intro g A j hb hn hg hj
  obtain ⟨g,rfl⟩:∃ g',g=g'+1:=⟨g - 1,by omega⟩
  rw [ko.pl7,show decide (j<(C:Int))=true from decide_eq_true (by omega),cond_true,Bool.not_false,cond_true]
  have b1:=hb.ab hf0 hf hj (by omega)
  have b2:=hb.ab ht0 ht hj (by omega)
  simp (disch:=omega) only [at_mk,Option.bind_some]
  obtain ⟨z,ez,hz1,hz2,hz3⟩:=Hd (F:=F) b2 b1 hq
  rw [ez,Option.bind_some,He hR hC ht0 ht hj (by omega) hz1,Option.bind_some,aM (by omega) (by omega)]
  by_cases hfit:fit (A t j) (A f j) (-q)
  ·rw [if_pos (hz2.2 hfit),hz3 hfit]
   obtain ⟨bad',l',e,he,hl⟩:=ih g (upd A t j (ad (A t j) (A f j) (-q))) (j+1) (hb.upd (ad_bd _ _ _)) (by omega) (by omega) (by omega)
   refine ⟨bad',l',e,?_,?_⟩
   ·rw [he]
    constructor
    ·rintro ⟨b,h1,h2,h3⟩
     rw [jm _ _ (by omega),jm _ _ (by omega)] at h3
     exact ⟨b,by omega,h2,h3⟩
    ·rintro ⟨b,h1,h2,h3⟩
     by_cases e:b=j
     ·subst e;exact absurd hfit h3
     ·exact ⟨b,by omega,h2,by rw [jm _ _ (by omega),jm _ _ (by omega)];exact h3⟩
   ·intro hbad
    rw [hl hbad]
    apply cX
    intro a b _ _ _ _
    unfold adRf upd
    grind
  ·rw [if_neg (λh=>hfit (hz2.1 h))]
   obtain ⟨g,rfl⟩:∃ g',g=g'+1:=⟨g - 1,by omega⟩
   refine ⟨true,mk R C A,?_,⟨λ_=>⟨j,by omega,by omega,hfit⟩,λ_=>rfl⟩,λh=>by cases h⟩
   rw [ko.pl7]
   cases decide (j+1<(C:Int)) <;> rfl
theorem Nm {t f q:Int} (hR:R<=1000) (hC:C<=1000) (ht0:0<=t) (ht:t<C) (hf0:0<=f) (hf:f<C) (htf:t≠f) (hq:ab q<=4000000000000):∀ (n g:Nat) (A:Mat) (j:Int),Bd R C A->R - j=n->n<g->0<=j ->
  ∃ bad' l',kp.pl7 F g false t f q R C (mk R C A) j=some (bad',l')/\(bad'=true↔∃ b,j<=b/\b<R/\¬ fit (A b t) (A b f) (-q))/\(bad'=false->l'=mk R C (adCf A t f (-q) j)):=by
 intro n
 induction n with
 | zero=>
  intro g A j hb hn hg hj
  obtain ⟨g,rfl⟩:∃ g',g=g'+1:=⟨g - 1,by omega⟩
  rw [kp.pl7,show decide (j<(R:Int))=false from decide_eq_false (by omega),cond_false]
  refine ⟨_,_,rfl,⟨λh=>(by cases h),λ⟨b,h1,h2,_⟩=>by omega⟩,λ_=>?_⟩
  apply cX
  intro a b _ _ _ _
  exact (if_neg (by omega)).symm
 | succ n ih=>
  intro g A j hb hn hg hj
  obtain ⟨g,rfl⟩:∃ g',g=g'+1:=⟨g - 1,by omega⟩
  rw [kp.pl7,show decide (j<(R:Int))=true from decide_eq_true (by omega),cond_true,Bool.not_false,cond_true]
  have b1:=hb.ab hj (by omega) hf0 hf
  have b2:=hb.ab hj (by omega) ht0 ht
  simp (disch:=omega) only [at_mk,Option.bind_some]
  obtain ⟨z,ez,hz1,hz2,hz3⟩:=Hd (F:=F) b2 b1 hq
  rw [ez,Option.bind_some,He hR hC hj (by omega) ht0 ht hz1,Option.bind_some,aM (by omega) (by omega)]
  by_cases hfit:fit (A j t) (A j f) (-q)
  ·rw [if_pos (hz2.2 hfit),hz3 hfit]
   obtain ⟨bad',l',e,he,hl⟩:=ih g (upd A j t (ad (A j t) (A j f) (-q))) (j+1) (hb.upd (ad_bd _ _ _)) (by omega) (by omega) (by omega)
   refine ⟨bad',l',e,?_,?_⟩
   ·rw [he]
    constructor
    ·rintro ⟨b,h1,h2,h3⟩
     rw [jm _ _ (by omega),jm _ _ (by omega)] at h3
     exact ⟨b,by omega,h2,h3⟩
    ·rintro ⟨b,h1,h2,h3⟩
     by_cases e:b=j
     ·subst e;exact absurd hfit h3
     ·exact ⟨b,by omega,h2,by rw [jm _ _ (by omega),jm _ _ (by omega)];exact h3⟩
   ·intro hbad
    rw [hl hbad]
    apply cX
    intro a b _ _ _ _
    unfold adCf upd
    grind
  ·rw [if_neg (λh=>hfit (hz2.1 h))]
   obtain ⟨g,rfl⟩:∃ g',g=g'+1:=⟨g - 1,by omega⟩
   refine ⟨true,mk R C A,?_,⟨λ_=>⟨j,by omega,by omega,hfit⟩,λ_=>rfl⟩,λh=>by cases h⟩
   rw [kp.pl7]
   cases decide (j+1<(R:Int)) <;> rfl
theorem Dj {t f q:Int} (hR:R<=1000) (hC:C<=1000) (hF:C<F) (hb:Bd R C A) (ht0:0<=t) (ht:t<R) (hf0:0<=f) (hf:f<R) (htf:t≠f) (hq:ab q<=4000000000000) :
  ∃ bad' l',ko.p F false C (mk R C A) t f q=some (bad',l')/\(bad'=true↔nfR C A t f (-q))/\(bad'=false->l'=mk R C (adR A t f (-q))):=by
 obtain ⟨bad',l',e,h,hl⟩:=Nl hR hC ht0 ht hf0 hf htf hq C F A 0 hb (by omega) hF (by omega)
 refine ⟨bad',l',e,h,λhh=>?_⟩
 rw [hl hh]
 apply cX
 intro a b _ _ _ _
 unfold adRf adR
 grind
theorem Dk {t f q:Int} (hR:R<=1000) (hC:C<=1000) (hF:R<F) (hb:Bd R C A) (ht0:0<=t) (ht:t<C) (hf0:0<=f) (hf:f<C) (htf:t≠f) (hq:ab q<=4000000000000) :
  ∃ bad' l',kp.p F false R C (mk R C A) t f q=some (bad',l')/\(bad'=true↔nfC R A t f (-q))/\(bad'=false->l'=mk R C (adC A t f (-q))):=by
 obtain ⟨bad',l',e,h,hl⟩:=Nm hR hC ht0 ht hf0 hf htf hq R F A 0 hb (by omega) hF (by omega)
 refine ⟨bad',l',e,h,λhh=>?_⟩
 rw [hl hh]
 apply cX
 intro a b _ _ _ _
 unfold adCf adC
 grind
theorem Dl {t f q:Int} {c:Int} {l:List Int} (hF:0<F):ko.p F true c l t f q=some (true,l):=by
 obtain ⟨g,rfl⟩:∃ g',F=g'+1:=⟨F - 1,by omega⟩
 unfold ko.p
 rw [ko.pl7]
 cases decide (0<c) <;> rfl
theorem Dm {t f q:Int} {r c:Int} {l:List Int} (hF:0<F):kp.p F true r c l t f q=some (true,l):=by
 obtain ⟨g,rfl⟩:∃ g',F=g'+1:=⟨F - 1,by omega⟩
 unfold kp.p
 rw [kp.pl7]
 cases decide (0<r) <;> rfl
end Go.Proofs.Ytokekkacliomkaa.AE
end
section
namespace Go.Proofs.Ytokekkacliomkaa.AE
open Go Go.AE Go.Proofs
variable {R C F:Nat} {A:Mat} {i j k:Int}
def Sc (k:Int) (C:Nat) (i j a b:Int):Prop:=k<=a/\k<=b/\b<C/\(a<i\/a=i/\b<j)
def SI (k:Int) (C:Nat) (A:Mat) (i j:Int):Option (Int×Int)->Prop
 | none=>∀ a b,Sc k C i j a b->A a b=0
 | some (p,q)=>Sc k C i j p q/\A p q≠0/\∀ a b,Sc k C i j a b->A a b≠0->ab (A p q)<=ab (A a b)/\((a<p\/a=p/\b<q)->ab (A p q)<ab (A a b))
def sP:Option (Int×Int)->Int | none=>-1 | some (p,_)=>p
def sQ:Option (Int×Int)->Int | none=>-1 | some (_,q)=>q
def iP:Option (Int×Int)->Int | none=>0 | some (p,_)=>p
def iQ:Option (Int×Int)->Int | none=>0 | some (_,q)=>q
theorem ab_pos {x:Int}:ab x>0↔x≠0:=by unfold ab;split <;> omega
theorem sel_in {k:Int} (hR:R<=1000) (hC:C<=1000) (hb:Bd R C A) (hk:0<=k) (hi:i<R) (hki:k<=i) {l1 l2 l3 l4:List Int} {c1 c2 c3 c4 c5 c6:Int} {pC} {pD}:∀ (n g h:Nat) (s:Option (Int×Int)) (j:Int),C - j=n->n<g->n<h->k<=j->SI k C A i j s ->
  ∃ s',SI k C A i C s'/\cL.pl469 F pC g R C (mk R C A) c1 l1 c2 c3 l2 c4 c5 l3 c6 l4 k (sP s) (sQ s) i j=cL.pj9 F pC R C (mk R C A) c1 l1 c2 c3 l2 c4 c5 l3 c6 l4 k (sP s') (sQ s') i /\
   aB.pl469 F pD h k (iP s) (iQ s) s.isSome R C (mk R C A) i j=aB.pj8 F pD k (iP s') (iQ s') s'.isSome R C (mk R C A) i:=by
 intro n
 induction n with
 | zero=>
  intro g h s j hn hg hh hj hs
  obtain ⟨g,rfl⟩:∃ g',g=g'+1:=⟨g - 1,by omega⟩
  obtain ⟨h,rfl⟩:∃ g',h=g'+1:=⟨h - 1,by omega⟩
  rw [cL.pl469,aB.pl469,show decide (j<(C:Int))=false from decide_eq_false (by omega),cond_false,cond_false]
  refine ⟨s,?_,rfl,rfl⟩
  rw [show j=(C:Int) by omega] at hs
  exact hs
 | succ n ih=>
  intro g h s j hn hg hh hj hs
  obtain ⟨g,rfl⟩:∃ g',g=g'+1:=⟨g - 1,by omega⟩
  obtain ⟨h,rfl⟩:∃ g',h=g'+1:=⟨h - 1,by omega⟩
  rw [cL.pl469,aB.pl469,show decide (j<(C:Int))=true from decide_eq_true (by omega),cond_true,cond_true]
  have b1:=ab_bd (hb.ab (by omega:0<=i) hi (by omega:0<=j) (by omega))
  simp (disch:=omega) only [at_mk,eY,fJ,Option.bind_some,vR,uC,aM,cL.pj10,aB.pj9]
  have scj:∀ a b,Sc k C i (j+1) a b↔Sc k C i j a b\/(a=i/\b=j):=by
   intro a b;unfold Sc;omega
  by_cases hx:A i j=0
  ·rw [hx,show decide (ab 0>0)=false from rfl,show (ab 0 != 0)=false from rfl,cond_false,cond_false]
   refine ih g h s (j+1) (by omega) (by omega) (by omega) (by omega) ?_
   match s,hs with
   | none,hs=>
    intro a b h1
    rcases (scj a b).1 h1 with h1 | ⟨rfl,rfl⟩
    ·exact hs a b h1
    ·exact hx
   | some (p,q),⟨h1,h2,h3⟩=>
    refine ⟨(scj p q).2 (.inl h1),h2,λa b h4 h5=>?_⟩
    rcases (scj a b).1 h4 with h4 | ⟨rfl,rfl⟩
    ·exact h3 a b h4 h5
    ·exact absurd hx h5
  ·have hpos:=ab_pos.2 hx
   rw [decide_eq_true hpos,show (ab (A i j) != 0)=true from bne_iff_ne.2 (by omega),cond_true,cond_true]
   match s,hs with
   | none,hs=>
    rw [show decide (sP none<0)=true from rfl,cond_true]
    simp only [Option.isSome_none,Bool.not_false,cond_true]
    refine ih g h (some (i,j)) (j+1) (by omega) (by omega) (by omega) (by omega) ⟨(scj i j).2 (.inr ⟨rfl,rfl⟩),hx,λa b h4 h5=>?_⟩
    rcases (scj a b).1 h4 with h4 | ⟨rfl,rfl⟩
    ·exact absurd (hs a b h4) h5
    ·exact ⟨Int.le_refl _,λh=>by omega⟩
   | some (p,q),⟨h1,h2,h3⟩=>
    have h1':=h1
    obtain ⟨e1,e2,e3,e4⟩:=h1'
    have b2:=ab_bd (hb.ab (i:=p) (j:=q) (by omega) (by omega) (by omega) (by omega))
    simp only [sP,sQ,iP,iQ,Option.isSome_some,Bool.not_true,cond_false]
    simp only [eq_false (show ¬ p<0 by omega),decide_false,cond_false]
    simp (disch:=omega) only [at_mk,eY,fJ,Option.bind_some,vR,uC]
    by_cases hlt:ab (A i j)<ab (A p q)
    ·rw [decide_eq_true hlt,cond_true,cond_true]
     refine ih g h (some (i,j)) (j+1) (by omega) (by omega) (by omega) (by omega) ⟨(scj i j).2 (.inr ⟨rfl,rfl⟩),hx,λa b h4 h5=>?_⟩
     rcases (scj a b).1 h4 with h4 | ⟨rfl,rfl⟩
     ·have:=(h3 a b h4 h5).1
      exact ⟨by omega,λ_=>by omega⟩
     ·exact ⟨Int.le_refl _,λh=>by omega⟩
    ·rw [decide_eq_false hlt,cond_false,cond_false]
     refine ih g h (some (p,q)) (j+1) (by omega) (by omega) (by omega) (by omega) ⟨(scj p q).2 (.inl h1),h2,λa b h4 h5=>?_⟩
     rcases (scj a b).1 h4 with h4 | ⟨rfl,rfl⟩
     ·exact h3 a b h4 h5
     ·exact ⟨by omega,λh=>by omega⟩
theorem sel_out {k:Int} (hR:R<=1000) (hC:C<=1000) (hF:C<F) (hb:Bd R C A) (hk:0<=k) (hkC:k<=C) {l1 l2 l3 l4:List Int} {c1 c2 c3 c4 c5 c6:Int}:∀ (n g h:Nat) (s:Option (Int×Int)) (i:Int),R - i=n->n<g->n<h->k<=i->SI k C A i k s ->
  ∃ s',SI k C A R k s'/\cL.pl29 F g R C (mk R C A) c1 l1 c2 c3 l2 c4 c5 l3 c6 l4 k (sP s) (sQ s) i=cL.pj6 F R C (mk R C A) c1 l1 c2 c3 l2 c4 c5 l3 c6 l4 k (sP s') (sQ s') /\
   aB.pl29 F h k (iP s) (iQ s) s.isSome R C (mk R C A) i=some (iP s',iQ s',s'.isSome):=by
 intro n
 induction n with
 | zero=>
  intro g h s i hn hg hh hj hs
  obtain ⟨g,rfl⟩:∃ g',g=g'+1:=⟨g - 1,by omega⟩
  obtain ⟨h,rfl⟩:∃ g',h=g'+1:=⟨h - 1,by omega⟩
  rw [cL.pl29,aB.pl29,show decide (i<(R:Int))=false from decide_eq_false (by omega),cond_false,cond_false]
  refine ⟨s,?_,rfl,rfl⟩
  rw [show i=(R:Int) by omega] at hs
  exact hs
 | succ n ih=>
  intro g h s i hn hg hh hj hs
  obtain ⟨g,rfl⟩:∃ g',g=g'+1:=⟨g - 1,by omega⟩
  obtain ⟨h,rfl⟩:∃ g',h=g'+1:=⟨h - 1,by omega⟩
  rw [cL.pl29,aB.pl29,show decide (i<(R:Int))=true from decide_eq_true (by omega),cond_true,cond_true]
  obtain ⟨s1,hs1,e1,e2⟩:=sel_in (F:=F) (c1:=c1) (c2:=c2) (c3:=c3) (c4:=c4) (c5:=c5) (c6:=c6) (l1:=l1) (l2:=l2) (l3:=l3) (l4:=l4) (pC:=cL.pl29 F g) (pD:=aB.pl29 F h) hR hC hb hk (by omega) hj (C - k).toNat F F s k (by omega) (by omega) (by omega) (by omega) hs
  rw [e1,e2]
  unfold cL.pj9 cL.pj8 aB.pj8 aB.pj7
  rw [aM (by omega) (by omega)]
  refine ih g h s1 (i+1) (by omega) (by omega) (by omega) (by omega) ?_
  have sc:∀ a b,Sc k C (i+1) k a b↔Sc k C i C a b:=by
   intro a b;unfold Sc;omega
  match s1,hs1 with
  | none,hs=>exact λa b h=>hs a b ((sc a b).1 h)
  | some (p,q),⟨h1,h2,h3⟩=>exact ⟨(sc p q).2 h1,h2,λa b h=>h3 a b ((sc a b).1 h)⟩
end Go.Proofs.Ytokekkacliomkaa.AE
end
section
namespace Go.Proofs.Ytokekkacliomkaa.AE
open Go Go.AE Go.Proofs
variable {R C F:Nat} {A:Mat} {i j k:Int}
structure St where
 d:Mat
 l:Mat
 m:Mat
 r:Mat
 s:Mat
def St.good (R C:Nat) (t:St):Prop:=Bd R C t.d/\Bd R R t.l/\Bd R R t.m/\Bd C C t.r/\Bd C C t.s
def swS (t:St) (p q k:Int):St:=⟨swC (swR t.d p k) q k,swR t.l p k,swC t.m p k,swC t.r q k,swR t.s q k⟩
def ngS (t:St) (k:Int):St:=⟨ngR t.d k,ngR t.l k,ngC t.m k,t.r,t.s⟩
def ngRf (A:Mat) (k j0:Int):Mat:=λa b=>if a=k/\j0<=b then - A a b else A a b
def ngCf (A:Mat) (k i0:Int):Mat:=λa b=>if b=k/\i0<=a then - A a b else A a b
theorem Bd.upd_ng (h:Bd R C A) (hi0:0<=i) (hi:i<R) (hj0:0<=j) (hj:j<C):Bd R C (Go.AE.upd A i j (- A i j)):=by
 apply h.upd
 have:=ab_bd (h.ab hi0 hi hj0 hj)
 unfold AE.ab
 split <;> omega
theorem sw_in {i k a:Int} (hi0:0<=i) (hi:i<R) (hk0:0<=k) (hk:k<R) (ha0:0<=a) (ha:a<R):0<=sw i k a/\sw i k a<R:=by
 unfold sw;split
 ·omega
 ·split <;> omega
theorem Bd.swR (h:Bd R C A) (hi0:0<=i) (hi:i<R) (hk0:0<=k) (hk:k<R):Bd R C (swR A i k):=by
 intro a b h1 h2 h3 h4
 obtain ⟨g1,g2⟩:=sw_in hi0 hi hk0 hk h1 h2
 exact h _ _ g1 g2 h3 h4
theorem Bd.swC (h:Bd R C A) (hi0:0<=j) (hi:j<C) (hk0:0<=k) (hk:k<C):Bd R C (swC A j k):=by
 intro a b h1 h2 h3 h4
 obtain ⟨g1,g2⟩:=sw_in hi0 hi hk0 hk h3 h4
 exact h _ _ h1 h2 g1 g2
theorem Bd.ngR (h:Bd R C A):Bd R C (ngR A k):=by
 intro a b h1 h2 h3 h4
 have:=h a b h1 h2 h3 h4
 unfold AE.ngR;split <;> omega
theorem Bd.ngC (h:Bd R C A):Bd R C (ngC A k):=by
 intro a b h1 h2 h3 h4
 have:=h a b h1 h2 h3 h4
 unfold AE.ngC;split <;> omega
theorem Nn (hR:R<=1000) (hC:C<=1000) (hk0:0<=k) (hk:k<R) {c4 c7:Int} {l5 l8 l11 l14:List Int}:∀ (n g:Nat) (A:Mat) (j:Int),Bd R C A->C - j=n->n<g->0<=j ->
  cL.pl65513 F g C (mk R C A) c4 l5 c7 l8 l11 l14 k j=cL.pj5 F (mk R C (ngRf A k j)) c4 l5 c7 l8 l11 l14 k:=by
 intro n
 induction n with
 | zero=>
  intro g A j hb hn hg hj
  obtain ⟨g,rfl⟩:∃ g',g=g'+1:=⟨g - 1,by omega⟩
  rw [cL.pl65513,show decide (j<(C:Int))=false from decide_eq_false (by omega),cond_false]
  congr 1
  apply cX
  intro a b _ _ _ _
  exact (if_neg (by omega)).symm
 | succ n ih=>
  intro g A j hb hn hg hj
  obtain ⟨g,rfl⟩:∃ g',g=g'+1:=⟨g - 1,by omega⟩
  rw [cL.pl65513,show decide (j<(C:Int))=true from decide_eq_true (by omega),cond_true]
  have b1:=ab_bd (hb.ab hk0 hk hj (by omega))
  simp (disch:=omega) only [at_mk,eY,jt,Option.bind_some,aM,Int.zero_sub]
  rw [ih _ _ (j+1) (hb.upd_ng hk0 hk hj (by omega)) (by omega) (by omega) (by omega)]
  congr 1
  apply cX
  intro a b _ _ _ _
  unfold ngRf upd
  grind
theorem No (hR:R<=1000) (hk0:0<=k) (hk:k<R) {l2 l11 l14:List Int}:∀ (n g:Nat) (A B:Mat) (j:Int),Bd R R A->Bd R R B->R - j=n->n<g->0<=j ->
  cL.pl65515 F g l2 R (mk R R A) R (mk R R B) l11 l14 k j=some (true,l2,mk R R (ngRf A k j),mk R R (ngCf B k j),l11,l14):=by
 intro n
 induction n with
 | zero=>
  intro g A B j hb hb' hn hg hj
  obtain ⟨g,rfl⟩:∃ g',g=g'+1:=⟨g - 1,by omega⟩
  rw [cL.pl65515,show decide (j<(R:Int))=false from decide_eq_false (by omega),cond_false]
  rw [cX (A:=A) (B:=ngRf A k j) (λa b _ _ _ _=>(if_neg (by omega)).symm),cX (A:=B) (B:=ngCf B k j) (λa b _ _ _ _=>(if_neg (by omega)).symm)]
 | succ n ih=>
  intro g A B j hb hb' hn hg hj
  obtain ⟨g,rfl⟩:∃ g',g=g'+1:=⟨g - 1,by omega⟩
  rw [cL.pl65515,show decide (j<(R:Int))=true from decide_eq_true (by omega),cond_true]
  have b1:=ab_bd (hb.ab hk0 hk hj (by omega))
  have b2:=ab_bd (hb'.ab hj (by omega) hk0 hk)
  simp (disch:=omega) only [at_mk,eY,jt,Option.bind_some,aM,Int.zero_sub]
  rw [ih _ _ _ (j+1) (hb.upd_ng hk0 hk hj (by omega)) (hb'.upd_ng hj (by omega) hk0 hk) (by omega) (by omega) (by omega)]
  rw [cX (A:=ngRf (upd A k j (-A k j)) k (j+1)) (B:=ngRf A k j) (λa b _ _ _ _=>by unfold ngRf upd;grind),cX (A:=ngCf (upd B j k (-B j k)) k (j+1)) (B:=ngCf B k j) (λa b _ _ _ _=>by unfold ngCf upd;grind)]
theorem Np (hR:R<=1000) (hk0:0<=k) (hk:k<R) {l2 l8 l11 l14:List Int}:∀ (n g:Nat) (B:Mat) (j:Int),Bd R R B->R - j=n->n<g->0<=j ->
  bg.pl32747 F g l2 R (mk R R B) l8 l11 l14 k R j=some (true,l2,mk R R (ngCf B k j),l8,l11,l14):=by
 intro n
 induction n with
 | zero=>
  intro g B j hb' hn hg hj
  obtain ⟨g,rfl⟩:∃ g',g=g'+1:=⟨g - 1,by omega⟩
  rw [bg.pl32747,show decide (j<(R:Int))=false from decide_eq_false (by omega),cond_false]
  rw [cX (A:=B) (B:=ngCf B k j) (λa b _ _ _ _=>(if_neg (by omega)).symm)]
 | succ n ih=>
  intro g B j hb' hn hg hj
  obtain ⟨g,rfl⟩:∃ g',g=g'+1:=⟨g - 1,by omega⟩
  rw [bg.pl32747,show decide (j<(R:Int))=true from decide_eq_true (by omega),cond_true]
  have b2:=ab_bd (hb'.ab hj (by omega) hk0 hk)
  simp (disch:=omega) only [at_mk,eY,fJ,jt,Option.bind_some,aM,Int.zero_sub]
  rw [ih _ _ (j+1) (hb'.upd_ng hj (by omega) hk0 hk) (by omega) (by omega) (by omega)]
  rw [cX (A:=ngCf (upd B j k (-B j k)) k (j+1)) (B:=ngCf B k j) (λa b _ _ _ _=>by unfold ngCf upd;grind)]
theorem cuts_row (hR:R<=1000) (hC:C<=1000) (hk0:0<=k) (hk:k<R) (hC0:0<C):∃ x,kr (mk R C A) (IntKind.i64.wrap (k * C)) (IntKind.i64.wrap (IntKind.i64.wrap (k+1) * C))=some x/\x.length=C/\IntKind.i64.wrap (k * C)=k * C:=by
 obtain ⟨k,rfl⟩:=Int.eq_ofNat_of_zero_le hk0
 have h1:(k+1) * C<=R * C:=Nat.mul_le_mul_right _ (by omega)
 have h2:R * C<=1000 * 1000:=Nat.mul_le_mul hR hC
 have h3:(k+1) * C=k * C+C:=Nat.succ_mul _ _
 rw [aM (x:=(k:Int)+1) (by omega) (by omega),show (k:Int)+1=((k+1:Nat):Int) by omega,<-Int.natCast_mul,<-Int.natCast_mul,aM (by omega) (by omega),aM (by omega) (by omega)]
 unfold kr
 rw [if_pos (by rw [ig];omega)]
 refine ⟨_,rfl,?_,rfl⟩
 rw [List.length_drop,List.length_take,ig]
 omega
def pvS (t:St) (p q k:Int):St:=if (swS t p q k).d k k<0 then ngS (swS t p q k) k else swS t p q k
theorem pivot_both (hR:R<=1000) (hC:C<=1000) (hF:5000000<F) {t:St} (hg:t.good R C) (hk:0<=k) (hkR:k<R) (hkC:k<C) :
  ((∀ a b,k<=a->a<R->k<=b->b<C->t.d a b=0)/\cL.p F R C (mk R C t.d) R (mk R R t.l) R R (mk R R t.m) C C (mk C C t.r) C (mk C C t.s) k=some (false,mk R C t.d,mk R R t.l,mk R R t.m,mk C C t.r,mk C C t.s) /\
   bg.p F R (mk R R t.l) R R (mk R R t.m) R C (mk R C t.d) C C (mk C C t.r) C (mk C C t.s) k=some (false,mk R R t.l,mk R R t.m,mk R C t.d,mk C C t.r,mk C C t.s)) \/
  (∃ p q,SI k C t.d R k (some (p,q))/\∃ u,u=pvS t p q k/\u.good R C/\u.d k k=ab (t.d p q) /\
   cL.p F R C (mk R C t.d) R (mk R R t.l) R R (mk R R t.m) C C (mk C C t.r) C (mk C C t.s) k=some (true,mk R C u.d,mk R R u.l,mk R R u.m,mk C C u.r,mk C C u.s) /\
   bg.p F R (mk R R t.l) R R (mk R R t.m) R C (mk R C t.d) C C (mk C C t.r) C (mk C C t.s) k=some (true,mk R R u.l,mk R R u.m,mk R C u.d,mk C C u.r,mk C C u.s)):=by
 obtain ⟨g1,g2,g3,g4,g5⟩:=hg
 obtain ⟨s',hs,e1,e2⟩:=sel_out (F:=F) (c1:=R) (c2:=R) (c3:=R) (c4:=C) (c5:=C) (c6:=C) (l1:=mk R R t.l) (l2:=mk R R t.m) (l3:=mk C C t.r) (l4:=mk C C t.s) hR hC (by omega) g1 hk (by omega) (R - k).toNat F F none k (by omega) (by omega) (by omega) (by omega) (by intro a b h;unfold Sc at h;omega)
 unfold cL.p bg.p aB.p
 rw [show (-1:Int)=sP none from rfl]
 rw [show cL.pl29 F F R C (mk R C t.d) R (mk R R t.l) R R (mk R R t.m) C C (mk C C t.r) C (mk C C t.s) k (sP none) (sP none) k=_ from e1]
 rw [show aB.pl29 F F k 0 0 false R C (mk R C t.d) k=_ from e2,Option.bind_some]
 match s',hs with
 | none,hs=>
  left
  refine ⟨λa b h1 h2 h3 h4=>hs a b ⟨h1,h3,h4,.inl h2⟩,?_,rfl⟩
  unfold cL.pj6
  rfl
 | some (p,q),hs=>
  right
  refine ⟨p,q,hs,pvS t p q k,rfl,?_⟩
  obtain ⟨⟨h1,h2,h3,h4⟩,h5,h6⟩:=hs
  have hp:p<R:=by omega
  have q1:Bd R C (swC (swR t.d p k) q k):=(g1.swR (by omega) hp hk hkR).swC (by omega) (by omega) hk hkC
  have q2:=g2.swR (i:=p) (by omega) hp hk hkR
  have q3:=g3.swC (j:=p) (by omega) hp hk hkR
  have q4:=g4.swC (j:=q) (by omega) h3 hk hkC
  have q5:=g5.swR (i:=q) (by omega) h3 hk hkC
  have hpos:=ab_pos.2 h5
  have ekk:swC (swR t.d p k) q k k k=t.d p q:=by
   unfold swC swR sw
   grind
  have b1:=ab_bd (q1.ab hk hkR hk hkC)
  unfold cL.pj6
  simp only [sP,sQ,iP,iQ,Option.isSome_some,Bool.not_true,cond_false]
  simp only [eq_false (show ¬ p<0 by omega),decide_false,cond_false]
  rw [zo hR hC (by omega) (by omega) hp hk hkR,Option.bind_some,zo hR hR (by omega) (by omega) hp hk hkR,Option.bind_some,Df hR hR (by omega) (by omega) hp hk hkR,Option.bind_some,Df hR hC (by omega) (by omega) h3 hk hkC,Option.bind_some,Df hC hC (by omega) (by omega) h3 hk hkC,Option.bind_some,zo hC hC (by omega) (by omega) h3 hk hkC,Option.bind_some]
  rw [De hR hC (by omega) (by omega) hp hk hkR,Option.bind_some,De hR hR (by omega) (by omega) hp hk hkR,Option.bind_some,Dg hR hR (by omega) (by omega) hp hk hkR,Option.bind_some,Dg hR hC (by omega) (by omega) h3 hk hkC,Option.bind_some,Dg hC hC (by omega) (by omega) h3 hk hkC,Option.bind_some,De hC hC (by omega) (by omega) h3 hk hkC,Option.bind_some]
  simp (disch:=omega) only [at_mk,eY,fJ,Option.bind_some]
  rw [ekk]
  by_cases hneg:t.d p q<0
  ·have epv:pvS t p q k=ngS (swS t p q k) k:=if_pos (by show swC (swR t.d p k) q k k k<0;rw [ekk];exact hneg)
   rw [epv]
   simp only [eq_true hneg,decide_true,cond_true]
   refine ⟨⟨q1.ngR,q2.ngR,q3.ngC,q4,q5⟩,?_,?_,?_⟩
   ·show ngR (swC (swR t.d p k) q k) k k k=_
    unfold ngR ab
    rw [if_pos rfl,ekk,if_pos hneg]
   ·rw [Nn hR hC hk hkR C F _ 0 q1 (by omega) (by omega) (by omega)]
    unfold cL.pj5
    rw [No hR hk hkR R F _ _ 0 q2 q3 (by omega) (by omega) (by omega)]
    rw [cX (A:=ngRf (swC (swR t.d p k) q k) k 0) (B:=(ngS (swS t p q k) k).d) (λa b _ _ _ _=>by unfold ngRf;show _=ngR _ _ _ _;unfold ngR swS;grind)]
    rw [cX (A:=ngRf (swR t.l p k) k 0) (B:=(ngS (swS t p q k) k).l) (λa b _ _ _ _=>by unfold ngRf;show _=ngR _ _ _ _;unfold ngR swS;grind)]
    rw [cX (A:=ngCf (swC t.m p k) k 0) (B:=(ngS (swS t p q k) k).m) (λa b _ _ _ _=>by unfold ngCf;show _=ngC _ _ _ _;unfold ngC swS;grind)]
    rfl
   ·obtain ⟨x,ex,exl,ew⟩:=cuts_row (A:=swC (swR t.d p k) q k) hR hC hk hkR (by omega)
    obtain ⟨y,ey,eyl,ew2⟩:=cuts_row (A:=swR t.l p k) hR hR hk hkR (by omega)
    have m1:R * C<=1000 * 1000:=Nat.mul_le_mul hR hC
    have m2:R * R<=1000 * 1000:=Nat.mul_le_mul hR hR
    rw [ex,Option.bind_some,ey,Option.bind_some,if_pos (by rw [ig,ig];omega),ew,ew2,exl,eyl,negr_mk hR hC hk hkR q1,negr_mk hR hR hk hkR q2]
    unfold bg.pj3
    rw [Np hR hk hkR R F _ 0 q3 (by omega) (by omega) (by omega)]
    rw [cX (A:=ngCf (swC t.m p k) k 0) (B:=(ngS (swS t p q k) k).m) (λa b _ _ _ _=>by unfold ngCf;show _=ngC _ _ _ _;unfold ngC swS;grind)]
    rfl
  ·have epv:pvS t p q k=swS t p q k:=if_neg (by show ¬ swC (swR t.d p k) q k k k<0;rw [ekk];exact hneg)
   rw [epv]
   simp only [eq_false hneg,decide_false,cond_false]
   refine ⟨⟨q1,q2,q3,q4,q5⟩,?_,rfl,rfl⟩
   show swC (swR t.d p k) q k k k=_
   unfold ab
   rw [ekk,if_neg hneg]
end Go.Proofs.Ytokekkacliomkaa.AE
end
section
namespace Go.Proofs.Ytokekkacliomkaa.AE
open Go Go.AE Go.Proofs
variable {R C n:Nat} {A B:Mat} {u v:St} {k e:Int}
def On (R C:Nat) (A B:Mat):Prop:=∀ i j:Int,0<=i->i<R->0<=j->j<C->A i j=B i j
theorem On.refl:On R C A A:=λ_ _ _ _ _ _=>rfl
theorem On.symm (h:On R C A B):On R C B A:=λi j h1 h2 h3 h4=>(h i j h1 h2 h3 h4).symm
theorem On.trans {D:Mat} (h:On R C A B) (h':On R C B D):On R C A D:=λi j h1 h2 h3 h4=>(h i j h1 h2 h3 h4).trans (h' i j h1 h2 h3 h4)
theorem On.mm {A' B':Mat} (h:On R n A A') (h':On n C B B'):On R C (mm n A B) (mm n A' B'):=λi j h1 h2 h3 h4=>
 mm_congr (λl h5 h6=>h i l h1 h2 h5 h6) λl h5 h6=>h' l j h5 h6 h3 h4
theorem On.idl:On n C (AE.mm n idM A) A:=λ_ _ h1 h2 _ _=>mm_idl h1 h2
theorem On.idr:On R n (AE.mm n A idM) A:=λ_ _ _ _ h3 h4=>mm_idr h3 h4
structure Red (R C:Nat) (A:Mat) (v:St):Prop where
 d:On R C v.d (mm C (mm R v.l A) v.r)
 lm:On R R (mm R v.l v.m) idM
 ml:On R R (mm R v.m v.l) idM
 rs:On C C (mm C v.r v.s) idM
 sr:On C C (mm C v.s v.r) idM
theorem Red.row {E E':Mat} (h:Red R C A u) (h1:On R R (mm R E E') idM) (h2:On R R (mm R E' E) idM) (d:On R C v.d (mm R E u.d)) (l:On R R v.l (mm R E u.l)) (m:On R R v.m (mm R u.m E')) (r:v.r=u.r) (s:v.s=u.s):Red R C A v where
 d:=by
  rw [r]
  refine d.trans ((On.mm On.refl h.d).trans ?_)
  rw [<- mm_assoc,<-mm_assoc]
  exact On.mm (On.mm l.symm On.refl) On.refl
 lm:=by
  refine (On.mm l m).trans ?_
  rw [mm_assoc,<-mm_assoc (A:=u.l)]
  exact (On.mm On.refl ((On.mm h.lm On.refl).trans On.idl)).trans h1
 ml:=by
  refine (On.mm m l).trans ?_
  rw [mm_assoc,<-mm_assoc (A:=E')]
  exact (On.mm On.refl ((On.mm h2 On.refl).trans On.idl)).trans h.ml
 rs:=by rw [r,s];exact h.rs
 sr:=by rw [r,s];exact h.sr
theorem Red.col {E E':Mat} (h:Red R C A u) (h1:On C C (mm C E E') idM) (h2:On C C (mm C E' E) idM) (d:On R C v.d (mm C u.d E)) (r:On C C v.r (mm C u.r E)) (s:On C C v.s (mm C E' u.s)) (l:v.l=u.l) (m:v.m=u.m):Red R C A v where
 d:=by
  rw [l]
  refine d.trans ((On.mm h.d On.refl).trans ?_)
  rw [mm_assoc]
  exact On.mm On.refl r.symm
 rs:=by
  refine (On.mm r s).trans ?_
  rw [mm_assoc,<-mm_assoc (A:=E)]
  exact (On.mm On.refl ((On.mm h1 On.refl).trans On.idl)).trans h.rs
 sr:=by
  refine (On.mm s r).trans ?_
  rw [mm_assoc,<-mm_assoc (A:=u.s)]
  exact (On.mm On.refl ((On.mm h.sr On.refl).trans On.idl)).trans h2
 lm:=by rw [l,m];exact h.lm
 ml:=by rw [l,m];exact h.ml
def Esw (p k:Int):Mat:=λi l=>if l=sw p k i then 1 else 0
theorem sw_sw (p k x:Int):sw p k (sw p k x)=x:=by unfold sw;grind
theorem Esw_l {p k:Int} (hp0:0<=p) (hp:p<R) (hk0:0<=k) (hk:k<R):On R C (swR A p k) (mm R (Esw p k) A):=λi j h1 h2 _ _=>by
 show A (sw p k i) j=Sg R λl=>(if l=sw p k i then 1 else 0) * A l j
 have:=sw_in hp0 hp hk0 hk h1 h2
 rw [Sg_congr (g:=λl=>if l=sw p k i then A l j else 0) λl _ _=>by by_cases e:l=sw p k i <;> simp [e],Sg_one this.1,if_pos this.2]
theorem Esw_r {p k:Int} (hp0:0<=p) (hp:p<C) (hk0:0<=k) (hk:k<C):On R C (swC A p k) (mm C A (Esw p k)):=λi j _ _ h1 h2=>by
 show A i (sw p k j)=Sg C λl=>A i l * (if j=sw p k l then 1 else 0)
 have:=sw_in hp0 hp hk0 hk h1 h2
 rw [Sg_congr (g:=λl=>if l=sw p k j then A i l else 0) λl _ _=>by
  by_cases e:l=sw p k j
  ·subst e;rw [sw_sw];simp
  ·rw [if_neg e,if_neg λq=>e (by rw [q,sw_sw]),Int.mul_zero],Sg_one this.1,if_pos this.2]
theorem Esw_e {p k:Int} (hp0:0<=p) (hp:p<R) (hk0:0<=k) (hk:k<R):On R R (mm R (Esw p k) (Esw p k)) idM:=(Esw_l hp0 hp hk0 hk).symm.trans λi j _ _ _ _=>by
 show (if j=sw p k (sw p k i) then (1:Int) else 0)=if i=j then 1 else 0
 rw [sw_sw];by_cases e:i=j <;> simp [e,eq_comm]
def Eng (k:Int):Mat:=λi l=>if l=i then (if i=k then -1 else 1) else 0
theorem Eng_l {k:Int}:On R C (ngR A k) (mm R (Eng k) A):=λi j h1 h2 _ _=>by
 show (if i=k then - A i j else A i j)=Sg R λl=>(if l=i then (if i=k then -1 else 1) else 0) * A l j
 rw [Sg_congr (g:=λl=>if l=i then (if i=k then -1 else 1) * A l j else 0) λl _ _=>by by_cases e:l=i <;> simp [e],Sg_one h1,if_pos h2]
 by_cases e:i=k <;> simp [e]
theorem Eng_r {k:Int}:On R C (ngC A k) (mm C A (Eng k)):=λi j _ _ h1 h2=>by
 show (if j=k then - A i j else A i j)=Sg C λl=>A i l * (if j=l then (if l=k then -1 else 1) else 0)
 rw [Sg_congr (g:=λl=>if l=j then A i l * (if l=k then -1 else 1) else 0) λl _ _=>by
  by_cases e:l=j
  ·subst e;simp
  ·rw [if_neg e,if_neg (Ne.symm e),Int.mul_zero],Sg_one h1,if_pos h2]
 by_cases e:j=k <;> simp [e]
theorem Eng_e {k:Int}:On R R (mm R (Eng k) (Eng k)) idM:=Eng_l.symm.trans λi j _ _ _ _=>by
 show (if i=k then - (if j=i then (if i=k then -1 else 1) else 0) else (if j=i then (if i=k then (-1:Int) else 1) else 0))=if i=j then 1 else 0
 by_cases e:i=k <;> by_cases e':j=i <;> simp [e,e',eq_comm] <;> omega
def Ead (t f q:Int):Mat:=λi l=>(if l=i then 1 else 0)+(if l=f then (if i=t then q else 0) else 0)
theorem Ead_l {t f q:Int} {i j:Int} (hf0:0<=f) (hf:f<R) (h1:0<=i) (h2:i<R):mm R (Ead t f q) A i j=A i j+if i=t then q * A f j else 0:=by
 show Sg R (λl=>((if l=i then 1 else 0)+(if l=f then (if i=t then q else 0) else 0)) * A l j)=_
 rw [Sg_congr (g:=λl=>(if l=i then A l j else 0)+(if l=f then (if i=t then q else 0) * A l j else 0)) λl _ _=>by
  rw [Int.add_mul]
  congr 1
  ·split <;> simp
  ·split <;> simp,Sg_add,Sg_one h1,if_pos h2,Sg_one hf0,if_pos hf]
 by_cases e:i=t <;> simp [e]
theorem Ead_r {t f q:Int} {i j:Int} (ht0:0<=t) (ht:t<C) (h1:0<=j) (h2:j<C):mm C A (Ead t f q) i j=A i j+if j=f then A i t * q else 0:=by
 show Sg C (λl=>A i l * ((if j=l then 1 else 0)+(if j=f then (if l=t then q else 0) else 0)))=_
 rw [Sg_congr (g:=λl=>(if l=j then A i l else 0)+(if l=t then (if j=f then A i l * q else 0) else 0)) λl _ _=>by
  rw [Int.mul_add]
  congr 1
  ·by_cases e:l=j
   ·subst e;simp
   ·rw [if_neg e,if_neg (Ne.symm e),Int.mul_zero]
  ·by_cases e:j=f
   ·rw [if_pos e,if_pos e]
    by_cases e':l=t <;> simp [e']
   ·rw [if_neg e,if_neg e,Int.mul_zero];split <;> rfl,Sg_add,Sg_one h1,if_pos h2,Sg_one ht0,if_pos ht]
theorem Ead_e {t f q:Int} (hf0:0<=f) (hf:f<R) (htf:t≠f):On R R (mm R (Ead t f q) (Ead t f (-q))) idM:=λi j h1 h2 _ _=>by
 rw [Ead_l hf0 hf h1 h2]
 show ((if j=i then 1 else 0)+(if j=f then (if i=t then -q else 0) else 0))+(if i=t then q * ((if j=f then 1 else 0)+(if j=f then (if f=t then -q else 0) else 0)) else 0)=if i=j then 1 else 0
 rw [if_neg (Ne.symm htf)]
 have e0:(if j=i then (1:Int) else 0)=if i=j then 1 else 0:=by by_cases e:i=j <;> simp [e,eq_comm]
 rw [e0]
 by_cases e:i=t
 ·rw [if_pos e,if_pos e]
  by_cases e2:j=f <;> simp [e2] <;> omega
 ·rw [if_neg e,if_neg e]
  by_cases e2:j=f <;> simp [e2]
def rowS (u:St) (t f b:Int):St:=⟨adR u.d t f b,adR u.l t f b,adC u.m f t (-b),u.r,u.s⟩
def colS (u:St) (t f b:Int):St:=⟨adC u.d t f b,u.l,u.m,adC u.r t f b,adR u.s f t (-b)⟩
inductive Rch (R C:Nat) (k:Int):St->St->Prop
 | refl (u:St):Rch R C k u u
 | piv (u:St) (p q x:Int) (hp:k<=p) (hpR:p<R) (hq:k<=q) (hqC:q<C) (hx:k<=x) (hxR:x<R) (hxC:x<C):Rch R C k u (pvS u p q x)
 | row (u:St) (t f b:Int) (ht:k<=t) (htR:t<R) (hf:k<=f) (hfR:f<R) (htf:t≠f) (n1:¬ nfR C u.d t f b) (n2:¬ nfR R u.l t f b) (n3:¬ nfC R u.m f t (-b)):Rch R C k u (rowS u t f b)
 | col (u:St) (t f b:Int) (ht:k<=t) (htC:t<C) (hf:k<=f) (hfC:f<C) (htf:t≠f) (n1:¬ nfC R u.d t f b) (n2:¬ nfC C u.r t f b) (n3:¬ nfR C u.s f t (-b)):Rch R C k u (colS u t f b)
 | trans {u v w:St} (h:Rch R C k u v) (h':Rch R C k v w):Rch R C k u w
theorem Rch.mono {k k':Int} (h:Rch R C k u v) (hk:k'<=k):Rch R C k' u v:=by
 induction h with
 | refl=>exact .refl _
 | trans _ _ ih ih'=>exact .trans ih ih'
 | piv u p q x a b c d e f g=>exact .piv u p q x (by omega) b (by omega) d (by omega) f g
 | row u t f b c d e g h n1 n2 n3=>exact .row u t f b (by omega) d (by omega) g h n1 n2 n3
 | col u t f b c d e g h n1 n2 n3=>exact .col u t f b (by omega) d (by omega) g h n1 n2 n3
theorem adR_on {t f b:Int} (n1:¬ nfR C A t f b):On R C (adR A t f b) (λi j=>A i j+if i=t then b * A f j else 0):=λi j _ _ h3 h4=>by
 show (if i=t then ad (A t j) (A f j) b else A i j)=A i j+if i=t then b * A f j else 0
 by_cases e:i=t
 ·subst e
  rw [if_pos rfl,if_pos rfl,ad_fit (Classical.byContradiction λhh=>n1 ⟨j,h3,h4,hh⟩),Int.mul_comm b]
 ·rw [if_neg e,if_neg e,Int.add_zero]
theorem adC_on {t f b:Int} (n1:¬ nfC R A t f b):On R C (adC A t f b) (λi j=>A i j+if j=t then A i f * b else 0):=λi j h1 h2 _ _=>by
 show (if j=t then ad (A i t) (A i f) b else A i j)=A i j+if j=t then A i f * b else 0
 by_cases e:j=t
 ·subst e
  rw [if_pos rfl,if_pos rfl,ad_fit (Classical.byContradiction λhh=>n1 ⟨i,h1,h2,hh⟩)]
 ·rw [if_neg e,if_neg e,Int.add_zero]
theorem neg_e {t f q:Int} (hf0:0<=f) (hf:f<R) (htf:t≠f):On R R (mm R (Ead t f (-q)) (Ead t f q)) idM:=by
 have:=Ead_e (q:=-q) hf0 hf htf
 rw [Int.neg_neg] at this;exact this
theorem Rch.red (hk:0<=k) (h:Rch R C k u v) (hu:Red R C A u):Red R C A v:=by
 induction h with
 | refl=>exact hu
 | trans _ _ ih ih'=>exact ih' (ih hu)
 | piv u p q x hp hpR hq hqC hx hxR hxC=>
  have h1:Red R C A ⟨swR u.d p x,swR u.l p x,swC u.m p x,u.r,u.s⟩:=hu.row (Esw_e (by omega) hpR (by omega) hxR) (Esw_e (by omega) hpR (by omega) hxR) (Esw_l (by omega) hpR (by omega) hxR) (Esw_l (by omega) hpR (by omega) hxR) (Esw_r (by omega) hpR (by omega) hxR) rfl rfl
  have h2:Red R C A (swS u p q x):=h1.col (Esw_e (by omega) hqC (by omega) hxC) (Esw_e (by omega) hqC (by omega) hxC) (Esw_r (by omega) hqC (by omega) hxC) (Esw_r (by omega) hqC (by omega) hxC) (Esw_l (by omega) hqC (by omega) hxC) rfl rfl
  unfold pvS
  split
  ·exact h2.row Eng_e Eng_e Eng_l Eng_l Eng_r rfl rfl
  ·exact h2
 | row u t f b ht htR hf hfR htf n1 n2 n3=>
  refine hu.row (E:=Ead t f b) (E':=Ead t f (-b)) (Ead_e (by omega) hfR htf) (neg_e (by omega) hfR htf) ((adR_on n1).trans λi j h1 h2 _ _=>?_) ((adR_on n2).trans λi j h1 h2 _ _=>?_) ((adC_on n3).trans λi j _ _ h1 h2=>?_) rfl rfl
  ·rw [Ead_l (by omega) hfR h1 h2]
  ·rw [Ead_l (by omega) hfR h1 h2]
  ·rw [Ead_r (by omega) htR h1 h2]
 | col u t f b ht htC hf hfC htf n1 n2 n3=>
  refine hu.col (E:=Ead f t b) (E':=Ead f t (-b)) (Ead_e (by omega) htC (Ne.symm htf)) (neg_e (by omega) htC (Ne.symm htf)) ((adC_on n1).trans λi j _ _ h1 h2=>?_) ((adC_on n2).trans λi j _ _ h1 h2=>?_) ((adR_on n3).trans λi j h1 h2 _ _=>?_) rfl rfl
  ·rw [Ead_r (by omega) hfC h1 h2]
  ·rw [Ead_r (by omega) hfC h1 h2]
  ·rw [Ead_l (by omega) htC h1 h2]
def Zr (R C:Nat) (k:Int) (u:St):Prop:=∀ i j:Int,0<=i->i<R->0<=j->j<C->i≠j->(i<k\/j<k)->u.d i j=0
def Dv (R C:Nat) (k e:Int) (u:St):Prop:=∀ i j:Int,k<=i->i<R->k<=j->j<C->e∣u.d i j
theorem sw_lo {p k x a:Int} (hp:k<=p) (hx:k<=x) (ha:a<k):sw p x a=a:=by unfold sw;rw [if_neg (by omega),if_neg (by omega)]
theorem sw_hi {p k x a:Int} {N:Nat} (hp:k<=p) (hpN:p<N) (hx:k<=x) (hxN:x<N) (ha:k<=a) (haN:a<N):k<=sw p x a/\sw p x a<N:=by unfold sw;split <;> (try split) <;> omega
theorem ng_cases {x y i:Int}:(∃ s:Int,(s=1\/s=-1)/\ngR A x i y=s * A i y):=by
 unfold ngR
 split
 ·exact ⟨-1,.inr rfl,by omega⟩
 ·exact ⟨1,.inl rfl,by omega⟩
theorem pv_val {p q x i j:Int}:∃ s:Int,(s=1\/s=-1)/\(pvS u p q x).d i j=s * u.d (sw p x i) (sw q x j):=by
 unfold pvS
 split
 ·exact ng_cases (A:=(swS u p q x).d)
 ·exact ⟨1,.inl rfl,(Int.one_mul _).symm⟩
theorem Rch.zr (hk:0<=k) (h:Rch R C k u v) (hz:Zr R C k u):Zr R C k v:=by
 induction h with
 | refl=>exact hz
 | trans _ _ ih ih'=>exact ih' (ih hz)
 | piv u p q x hp hpR hq hqC hx hxR hxC=>
  intro i j h1 h2 h3 h4 h5 h6
  obtain ⟨s,_,e⟩:=pv_val (u:=u) (p:=p) (q:=q) (x:=x) (i:=i) (j:=j)
  rw [e]
  have a1:=sw_in (i:=p) (k:=x) (a:=i) (R:=R) (by omega) hpR (by omega) hxR h1 h2
  have a2:=sw_in (i:=q) (k:=x) (a:=j) (R:=C) (by omega) hqC (by omega) hxC h3 h4
  have:u.d (sw p x i) (sw q x j)=0:=by
   by_cases c:i<k
   ·have e1:=sw_lo (p:=p) hp hx c
    rw [e1]
    refine hz _ _ h1 h2 a2.1 a2.2 ?_ (.inl c)
    by_cases c':j<k
    ·rw [sw_lo hq hx c'];exact h5
    ·have:=sw_hi (N:=C) hq hqC hx hxC (a:=j) (by omega) h4;omega
   ·have e1:=sw_lo (p:=q) (a:=j) hq hx (by omega)
    rw [e1]
    refine hz _ _ a1.1 a1.2 h3 h4 ?_ (.inr (by omega))
    have:=sw_hi (N:=R) hp hpR hx hxR (a:=i) (by omega) h2;omega
  rw [this,Int.mul_zero]
 | row u t f b ht htR hf hfR htf n1 n2 n3=>
  intro i j h1 h2 h3 h4 h5 h6
  show adR u.d t f b i j=0
  rw [adR_on n1 i j h1 h2 h3 h4]
  simp only []
  rw [hz i j h1 h2 h3 h4 h5 h6]
  by_cases c:i=t
  ·rw [if_pos c,hz f j (by omega) hfR h3 h4 (by omega) (.inr (by omega)),Int.mul_zero];rfl
  ·rw [if_neg c];rfl
 | col u t f b ht htR hf hfR htf n1 n2 n3=>
  intro i j h1 h2 h3 h4 h5 h6
  show adC u.d t f b i j=0
  rw [adC_on n1 i j h1 h2 h3 h4]
  simp only []
  rw [hz i j h1 h2 h3 h4 h5 h6]
  by_cases c:j=t
  ·rw [if_pos c,hz i f h1 h2 (by omega) hfR (by omega) (.inl (by omega)),Int.zero_mul];rfl
  ·rw [if_neg c];rfl
theorem Rch.dv (hk:0<=k) (h:Rch R C k u v) (hz:Dv R C k e u):Dv R C k e v:=by
 induction h with
 | refl=>exact hz
 | trans _ _ ih ih'=>exact ih' (ih hz)
 | piv u p q x hp hpR hq hqC hx hxR hxC=>
  intro i j h1 h2 h3 h4
  obtain ⟨s,_,e⟩:=pv_val (u:=u) (p:=p) (q:=q) (x:=x) (i:=i) (j:=j)
  rw [e]
  have a1:=sw_hi (N:=R) hp hpR hx hxR h1 h2
  have a2:=sw_hi (N:=C) hq hqC hx hxC h3 h4
  exact Int.dvd_trans (hz _ _ a1.1 a1.2 a2.1 a2.2) (Int.dvd_mul_left _ _)
 | row u t f b ht htR hf hfR htf n1 n2 n3=>
  intro i j h1 h2 h3 h4
  show _∣adR u.d t f b i j
  rw [adR_on n1 i j (by omega) h2 (by omega) h4]
  refine Int.dvd_add (hz i j h1 h2 h3 h4) ?_
  split
  ·exact Int.dvd_trans (hz f j hf hfR h3 h4) (Int.dvd_mul_left _ _)
  ·exact ⟨0,(Int.mul_zero _).symm⟩
 | col u t f b ht htR hf hfR htf n1 n2 n3=>
  intro i j h1 h2 h3 h4
  show _∣adC u.d t f b i j
  rw [adC_on n1 i j (by omega) h2 (by omega) h4]
  refine Int.dvd_add (hz i j h1 h2 h3 h4) ?_
  split
  ·exact Int.dvd_trans (hz i f h1 h2 hf hfR) (Int.dvd_mul_right _ _)
  ·exact ⟨0,(Int.mul_zero _).symm⟩
theorem Rch.same (hk:0<=k) (h:Rch R C k u v):∀ a:Int,0<=a->a<k->v.d a a=u.d a a:=by
 induction h with
 | refl=>exact λ_ _ _=>rfl
 | trans _ _ ih ih'=>exact λa h1 h2=>(ih' a h1 h2).trans (ih a h1 h2)
 | piv u p q x hp hpR hq hqC hx hxR hxC=>
  intro a h1 h2
  have e:(swS u p q x).d a a=u.d a a:=by
   show u.d (sw p x a) (sw q x a)=_
   rw [sw_lo hp hx h2,sw_lo hq hx h2]
  unfold pvS
  split
  ·show ngR (swS u p q x).d x a a=_
   unfold ngR;rw [if_neg (by omega)];exact e
  ·exact e
 | row u t f b ht htR hf hfR htf n1 n2 n3=>intro a h1 h2;show (if a=t then _ else u.d a a)=_;rw [if_neg (by omega)]
 | col u t f b ht htR hf hfR htf n1 n2 n3=>intro a h1 h2;show (if a=t then _ else u.d a a)=_;rw [if_neg (by omega)]
structure Stg (R C:Nat) (k:Int) (u:St):Prop where
 z:Zr R C k u
 n:∀ a:Int,0<=a->a<k->a<R->a<C->0<=u.d a a
 c:∀ a b:Int,0<=a->a<=b->b<k->b<R->b<C->u.d a a∣u.d b b
 l:∀ a:Int,0<=a->a<k->a<R->a<C->Dv R C k (u.d a a) u
theorem Rch.stg (hk:0<=k) (h:Rch R C k u v) (hs:Stg R C k u):Stg R C k v where
 z:=h.zr hk hs.z
 n:=λa h1 h2 h3 h4=>by rw [h.same hk a h1 h2];exact hs.n a h1 h2 h3 h4
 c:=λa b h1 h2 h3 h4 h5=>by rw [h.same hk a h1 (by omega),h.same hk b (by omega) h3];exact hs.c a b h1 h2 h3 h4 h5
 l:=λa h1 h2 h3 h4=>by rw [h.same hk a h1 h2];exact h.dv hk (hs.l a h1 h2 h3 h4)
structure Clr (R C:Nat) (k:Int) (u:St):Prop where
 a:∀ a:Int,k<a->a<R->u.d a k=0
 b:∀ b:Int,k<b->b<C->u.d k b=0
 d:∀ a b:Int,k<a->a<R->k<b->b<C->u.d k k∣u.d a b
theorem Stg.next (hk:0<=k) (hkR:k<R) (hkC:k<C) (hs:Stg R C k u) (hc:Clr R C k u) (h0:0<=u.d k k):Stg R C (k+1) u where
 z:=λi j h1 h2 h3 h4 h5 h6=>by
  by_cases c1:i<k\/j<k
  ·exact hs.z i j h1 h2 h3 h4 h5 c1
  ·by_cases c2:i=k
   ·subst c2;exact hc.b j (by omega) h4
   ·obtain rfl:j=k:=by omega
    exact hc.a i (by omega) h2
 n:=λa h1 h2 h3 h4=>by
  by_cases e:a=k
  ·subst e;exact h0
  ·exact hs.n a h1 (by omega) h3 h4
 c:=λa b h1 h2 h3 h4 h5=>by
  by_cases e:b=k
  ·subst e
   by_cases e':a=b
   ·subst e';exact Int.dvd_refl _
   ·exact hs.l a h1 (by omega) (by omega) (by omega) b b (by omega) h4 (by omega) h5
  ·exact hs.c a b h1 h2 (by omega) h4 h5
 l:=λa h1 h2 h3 h4 i j h5 h6 h7 h8=>by
  by_cases e:a=k
  ·subst e;exact hc.d i j (by omega) h6 (by omega) h8
  ·exact hs.l a h1 (by omega) h3 h4 i j (by omega) h6 (by omega) h8
theorem Stg.dia (hk:0<=k) (hs:Stg R C k u) (h:(R:Int)<=k\/(C:Int)<=k\/∀ i j:Int,k<=i->i<R->k<=j->j<C->u.d i j=0):Dia R C u.d where
 o:=λi j h1 h2 h3 h4 h5=>by
  by_cases c:i<k\/j<k
  ·exact hs.z i j h1 h2 h3 h4 h5 c
  ·rcases h with h | h | h
   ·omega
   ·omega
   ·exact h i j (by omega) h2 (by omega) h4
 n:=λi h1 h2 h3=>by
  by_cases c:i<k
  ·exact hs.n i h1 c h2 h3
  ·rcases h with h | h | h
   ·omega
   ·omega
   ·rw [h i i (by omega) h2 (by omega) h3];exact Int.le_refl _
 c:=λi j h1 h2 h3 h4=>by
  by_cases c:j<k
  ·exact hs.c i j h1 h2 c h3 h4
  ·rcases h with h | h | h
   ·omega
   ·omega
   ·rw [h j j (by omega) h3 (by omega) h4];exact ⟨0,(Int.mul_zero _).symm⟩
theorem Stg.zero:Stg R C 0 u:=⟨λi j h1 h2 h3 h4 _ h6=>by omega,λa h1 h2=>by omega,λa b h1 h2 h3=>by omega,λa h1 h2=>by omega⟩
theorem Red.start:Red R C A ⟨A,idM,idM,idM,idM⟩ where
 d:=(On.idl.symm).trans On.idr.symm
 lm:=On.idl
 ml:=On.idl
 rs:=On.idl
 sr:=On.idl
end Go.Proofs.Ytokekkacliomkaa.AE
end
section
namespace Go.Proofs.Ytokekkacliomkaa.AE
open Go Go.AE Go.Proofs
variable {n:Nat} {A B:Mat}
def det (n:Nat) (A:Mat):Int:=dt n A n λ_=>true
structure ML (n:Nat) (f:Mat->Int):Prop where
 cg:∀ {A B:Mat},On n n A B->f A=f B
 lin:∀ (A:Mat) (t q:Int) (u v:Int->Int),0<=t->t<n->f (rset A t λj=>u j+q * v j)=f (rset A t u)+q * f (rset A t v)
 alt:∀ (A:Mat) (i k:Int),0<=i->i<k->k<n->(∀ j:Int,0<=j->j<n->A i j=A k j)->f A=0
theorem rset_self {A:Mat} {t:Int}:rset A t (A t)=A:=by
 funext i j;unfold rset;split
 ·rename_i h;rw [h]
 ·rfl
theorem rset_rset {A:Mat} {t:Int} {u v:Int->Int}:rset (rset A t u) t v=rset A t v:=by
 funext i j;unfold rset;split <;> rfl
theorem rset_comm {A:Mat} {s t:Int} {u v:Int->Int} (h:s≠t):rset (rset A s u) t v=rset (rset A t v) s u:=by
 funext i j;unfold rset
 by_cases e:i=t
 ·rw [if_pos e,if_neg (by omega),if_pos e]
 ·rw [if_neg e];split
  ·rfl
  ·simp [e]
section
variable {f:Mat->Int} (h:ML n f)
include h
theorem ML.add1 (A:Mat) (t:Int) (u v:Int->Int) (h0:0<=t) (h1:t<n):f (rset A t λj=>u j+v j)=f (rset A t u)+f (rset A t v):=by
 have:=h.lin A t 1 u v h0 h1
 rw [Int.one_mul] at this
 rw [<- this];congr 2;funext j;rw [Int.one_mul]
theorem ML.alt' (A:Mat) (i k:Int) (hi:0<=i/\i<n) (hk:0<=k/\k<n) (hne:i≠k) (e:∀ j:Int,0<=j->j<n->A i j=A k j):f A=0:=by
 by_cases c:i<k
 ·exact h.alt A i k hi.1 c hk.2 e
 ·exact h.alt A k i hk.1 (by omega) hi.2 λj a b=>(e j a b).symm
theorem ML.zero (A:Mat) (t:Int) (h0:0<=t) (h1:t<n):f (rset A t λ_=>0)=0:=by
 have:=h.lin A t (-1) (A t) (A t) h0 h1
 have e:(λj=>A t j+-1 * A t j)=λ_=>(0:Int):=by funext j;omega
 rw [e] at this
 omega
theorem ML.scale (A:Mat) (t q:Int) (u:Int->Int) (h0:0<=t) (h1:t<n):f (rset A t λj=>q * u j)=q * f (rset A t u):=by
 have:=h.lin A t q (λ_=>0) u h0 h1
 have e:(λj=>0+q * u j)=λj=>q * u j:=by funext j;omega
 rw [e,h.zero A t h0 h1] at this
 omega
theorem ML.addr (A:Mat) (t k q:Int) (ht:0<=t/\t<n) (hk:0<=k/\k<n) (hne:t≠k):f (rset A t λj=>A t j+q * A k j)=f A:=by
 rw [h.lin A t q (A t) (A k) ht.1 ht.2,rset_self,h.alt' (rset A t (A k)) t k ht hk hne λj _ _=>by unfold rset;rw [if_pos rfl,if_neg (Ne.symm hne)],Int.mul_zero,Int.add_zero]
theorem ML.swp (A:Mat) (i k:Int) (hi:0<=i/\i<n) (hk:0<=k/\k<n) (hne:i≠k):f (swR A i k)=- f A:=by
 have z:∀ u:Int->Int,f (rset (rset A i u) k u)=0:=λu=>h.alt' _ i k hi hk hne λj _ _=>by
  show (if i=k then u j else if i=i then u j else A i j)=if k=k then u j else _
  rw [if_neg hne,if_pos rfl,if_pos rfl]
 have e0:=z λj=>A i j+A k j
 rw [h.add1 _ k (A i) (A k) hk.1 hk.2,rset_comm hne,rset_comm hne,h.add1 _ i (A i) (A k) hi.1 hi.2,h.add1 _ i (A i) (A k) hi.1 hi.2] at e0
 have e1:f (rset (rset A k (A i)) i (A i))=0:=by rw [<- rset_comm hne];exact z _
 have e2:f (rset (rset A k (A k)) i (A k))=0:=by rw [<- rset_comm hne];exact z _
 have e3:rset (rset A k (A k)) i (A i)=A:=by rw [rset_self,rset_self]
 have e4:rset (rset A k (A i)) i (A k)=swR A i k:=by
  funext a b
  unfold rset swR sw
  by_cases q:a=i
  ·rw [if_pos q,if_pos q]
  ·rw [if_neg q,if_neg q]
   by_cases q2:a=k
   ·rw [if_pos q2,if_pos q2]
   ·rw [if_neg q2,if_neg q2]
 rw [e1,e2,e3,e4] at e0
 omega
theorem ML.neg (A:Mat) (k:Int) (hk:0<=k/\k<n):f (ngR A k)=- f A:=by
 have:=h.scale A k (-1) (A k) hk.1 hk.2
 rw [rset_self] at this
 have e:rset A k (λj=>-1 * A k j)=ngR A k:=by
  funext a b;unfold rset ngR
  by_cases q:a=k
  ·rw [if_pos q,if_pos q,q];show -1 * A k b=_;omega
  ·rw [if_neg q,if_neg q]
 rw [e] at this
 omega
end
theorem det_ml:ML n (det n) where
 cg:=λh=>dt_congr n _ λi j a b c d=>h i j a b c d
 lin:=λA t q u v h0 h1=>dt_lin h0 n _ h1
 alt:=by
  intro A i k h0 hik hkn hA
  obtain ⟨i,rfl⟩:=Int.eq_ofNat_of_zero_le h0
  obtain ⟨d,hd⟩:∃ d:Nat,k=(i:Int)+1+d:=⟨(k - i - 1).toNat,by omega⟩
  subst hd
  clear hik
  induction d generalizing A with
  | zero=>exact dt_adj n i _ (by omega) λj a b=>by rw [hA j a b];simp
  | succ d ih=>
   -- the row k and the one dT of it exchanged
   have adj:∀ (B:Mat) (t:Nat),t+1<n->(∀ j:Int,0<=j->j<n->B t j=B ((t:Int)+1) j)->det n B=0:=λB t ht hB=>dt_adj n t _ ht hB
   obtain ⟨t,ht⟩:∃ t:Nat,t=i+1+d:=⟨_,rfl⟩
   have hne:(t:Int)≠(t:Int)+1:=by omega
   have z:∀ u:Int->Int,det n (rset (rset A t u) ((t:Int)+1) u)=0:=λu=>adj _ t (by omega) λj _ _=>by
    show (if (t:Int)=(t:Int)+1 then u j else if (t:Int)=t then u j else A t j)=if (t:Int)+1=(t:Int)+1 then u j else _
    rw [if_neg hne,if_pos rfl,if_pos rfl]
   have l1:∀ (B:Mat) (s:Int) (u v:Int->Int),0<=s->s<n->det n (rset B s λj=>u j+v j)=det n (rset B s u)+det n (rset B s v):=λB s u v s0 s1=>by
    have:=dt_lin (n:=n) (A:=B) (q:=1) (u:=u) (v:=v) s0 n (λ_=>true) s1
    rw [Int.one_mul] at this
    unfold det
    rw [<- this];congr 2;funext j;rw [Int.one_mul]
   have e0:=z λj=>A t j+A ((t:Int)+1) j
   rw [l1 _ _ _ _ (by omega) (by omega),rset_comm hne,rset_comm hne,l1 _ _ _ _ (by omega) (by omega),l1 _ _ _ _ (by omega) (by omega)] at e0
   have e1:det n (rset (rset A ((t:Int)+1) (A t)) t (A t))=0:=by rw [<- rset_comm hne];exact z _
   have e2:det n (rset (rset A ((t:Int)+1) (A ((t:Int)+1))) t (A ((t:Int)+1)))=0:=by rw [<- rset_comm hne];exact z _
   have e3:rset (rset A ((t:Int)+1) (A ((t:Int)+1))) t (A t)=A:=by rw [rset_self,rset_self]
   have e4:det n (rset (rset A ((t:Int)+1) (A t)) t (A ((t:Int)+1)))=0:=by
    refine ih _ (by omega) λj a b=>?_
    show (if (i:Int)=t then _ else if (i:Int)=(t:Int)+1 then _ else A i j)=if (i:Int)+1+d=t then A ((t:Int)+1) j else _
    rw [if_neg (by omega),if_neg (by omega),if_pos (by omega),hA j a b]
    congr 1;omega
   rw [e1,e2,e3,e4] at e0
   omega
theorem tr_rset {A:Mat} {t:Int} {u:Int->Int}:tr (rset A t u)=cset (tr A) t u:=by funext i j;rfl
theorem tr_ml:ML n λA=>det n (tr A) where
 cg:=λh=>dt_congr n _ λi j a b c d=>h j i c d a b
 lin:=λA t q u v h0 h1=>by
  show det n _=det n _+q * det n _
  rw [tr_rset,tr_rset,tr_rset]
  exact dt_clin h0 h1 n _ rfl (cnt_all n)
 alt:=λA i k h0 hik hkn hA=>dt_calt h0 hik hkn n _ rfl rfl (cnt_all n) λj a b=>hA j a b
def Pi:Nat->(Int->Int)->Int
 | 0,_=>1
 | n+1,f=>Pi n f * f n
theorem dt_diag (hD:∀ i j:Int,0<=i->i<n->0<=j->j<n->i≠j->A i j=0):∀ r:Nat,r<=n->dt n A r (λx=>decide (x<r))=Pi r λi=>A i i
 | 0,_=>rfl
 | r+1,h=>by
  have e:dt n A (r+1) (λx=>decide (x<((r+1:Nat):Int)))=Sg n λc=>if c=(r:Int) then A r r * Pi r (λi=>A i i) else 0:=by
   refine Sg_congr λc c0 c1=>?_
   by_cases q:c=r
   ·subst q
    rw [if_pos rfl,if_pos (by simp;omega)]
    have e1:dt n A r (rm (λx=>decide (x<((r+1:Nat):Int))) r)=dt n A r (λx=>decide (x<r)):=dt_set r λx _ _=>by
     unfold rm
     by_cases q1:x<r
     ·simp [q1];omega
     ·simp [q1];omega
    have e2:sgn n (λx=>decide (x<((r+1:Nat):Int))) r=1:=by
     have:∀ m:Nat,sgn m (λx=>decide (x<((r+1:Nat):Int))) r=1:=λm=>by
      induction m with
      | zero=>rfl
      | succ m ih=>
       show sgn m _ _ * _=1
       rw [ih,if_neg (by simp;omega)];rfl
     exact this n
    rw [e1,e2,dt_diag hD r (by omega)];omega
   ·rw [if_neg q]
    split
    ·rw [hD r c (by omega) (by omega) c0 c1 (Ne.symm q),Int.zero_mul,Int.mul_zero]
    ·rfl
  have s:=Sg_one (f:=λ_=>A r r * Pi r (λi=>A i i)) (k:=(r:Int)) (by omega) (n:=n)
  rw [e,s,if_pos (by omega),Int.mul_comm];rfl
theorem det_diag (hD:∀ i j:Int,0<=i->i<n->0<=j->j<n->i≠j->A i j=0):det n A=Pi n λi=>A i i:=by
 rw [<- dt_diag hD n (Nat.le_refl _)]
 exact dt_set n λx _ hx=>(decide_eq_true hx).symm
def DetC (n:Nat) (A:Mat):Prop:=det n A=det n (tr A)
theorem DetC.tr (h:DetC n (tr A)):DetC n A:=h.symm
theorem diagC (hD:∀ i j:Int,0<=i->i<n->0<=j->j<n->i≠j->A i j=0):DetC n A:=det_ml.cg λi j a b c d=>by
 show A i j=A j i
 by_cases e:i=j
 ·rw [e]
 ·rw [hD i j a b c d e,hD j i c d a b (Ne.symm e)]
theorem DetC.swp (i k:Int) (hi:0<=i/\i<n) (hk:0<=k/\k<n) (hne:i≠k) (h:DetC n (swR A i k)):DetC n A:=by
 unfold DetC at *
 have a:=det_ml.swp A i k hi hk hne
 have b:=tr_ml.swp A i k hi hk hne
 have b:det n (AE.tr (swR A i k))=- det n (AE.tr A):=b
 omega
theorem DetC.rowc (t k p q:Int) (ht:0<=t/\t<n) (hk:0<=k/\k<n) (hne:t≠k) (hp:p≠0) (h:DetC n (rset A t λj=>p * A t j+q * A k j)):DetC n A:=by
 unfold DetC at *
 have key:∀ f:Mat->Int,ML n f->f (rset A t λj=>p * A t j+q * A k j)=p * f A:=λf hf=>by
  have e:=hf.addr (rset A t λj=>p * A t j) t k q ht hk hne
  have e1:rset (rset A t λj=>p * A t j) t (λj=>rset A t (λj=>p * A t j) t j+q * rset A t (λj=>p * A t j) k j)=rset A t λj=>p * A t j+q * A k j:=by
   rw [rset_rset]
   congr 1
   funext j
   unfold rset
   rw [if_pos rfl,if_neg (Ne.symm hne)]
  rw [e1,hf.scale A t p (A t) ht.1 ht.2,rset_self] at e
  exact e
 have a:=key _ det_ml
 have b:=key _ tr_ml
 have b:det n (AE.tr (rset A t λj=>p * A t j+q * A k j))=p * det n (AE.tr A):=b
 rw [a,b] at h
 exact Int.eq_of_mul_eq_mul_left hp h
theorem DetC.colc (t k p q:Int) (ht:0<=t/\t<n) (hk:0<=k/\k<n) (hne:t≠k) (hp:p≠0) (h:DetC n (cset A t λi=>p * A i t+q * A i k)):DetC n A:=by
 refine DetC.tr (DetC.rowc t k p q ht hk hne hp ?_)
 refine DetC.tr ?_
 exact h
theorem DetC.swpc (i k:Int) (hi:0<=i/\i<n) (hk:0<=k/\k<n) (hne:i≠k) (h:DetC n (swC A i k)):DetC n A:=
 DetC.tr (DetC.swp i k hi hk hne (DetC.tr h))
def ZrM (n:Nat) (k:Int) (A:Mat):Prop:=∀ i j:Int,0<=i->i<n->0<=j->j<n->i≠j->(i<k\/j<k)->A i j=0
def nzc (n:Nat) (k:Int) (A:Mat):Nat:=cnt n (λi=>decide (k<i)&&decide (A i k≠0))
theorem nzc_step {k t:Int} {A B:Mat} (h0:k<t) (k0:0<=k) (h1:t<n) (ht:A t k≠0) (hB:B t k=0) (hr:∀ i:Int,0<=i->i≠t->B i k=A i k):nzc n k B+1=nzc n k A:=by
 unfold nzc
 rw [<- cnt_rem (P:=λi=>decide (k<i)&&decide (A i k≠0)) (c:=t) (by omega) (by simp [h0,ht]) h1]
 congr 1
 refine cnt_out λi i0 i1=>?_
 by_cases e:i=t
 ·subst e;simp [hB]
 ·rw [hr i i0 e];simp [e]
theorem stageC {k:Int} (hk:0<=k/\k<n) (next:∀ B:Mat,ZrM n (k+1) B->DetC n B):∀ (c:Nat) (A:Mat),nzc n k A+nzc n k (tr A)=c->A k k≠0->ZrM n k A->DetC n A:=by
 intro c
 induction c with
 | zero=>
  intro A hc _ hz
  refine next A λi j a b c d e hlt=>?_
  have z1:∀ (B:Mat),nzc n k B=0->∀ i:Int,k<i->i<n->B i k=0:=λB hB i h1 h2=>by
   refine Classical.byContradiction λq=>?_
   exact cnt_zero (n:=n) (S:=λi=>decide (k<i)&&decide (B i k≠0)) (c:=i) (by omega) h2 (by simp [h1,q]) hB
  by_cases q:i<k\/j<k
  ·exact hz i j a b c d e q
  ·by_cases q2:i=k
   ·subst q2;exact z1 (tr A) (by omega) j (by omega) d
   ·obtain rfl:j=k:=by omega
    exact z1 A (by omega) i (by omega) b
 | succ c ih=>
  intro A hc hp hz
  by_cases h1:∃ t:Int,k<t/\t<n/\A t k≠0
  ·obtain ⟨t,t0,t1,t2⟩:=h1
   refine DetC.rowc t k (A k k) (- A t k) ⟨by omega,t1⟩ hk (by omega) hp ?_
   have hB:∀ i j:Int,i≠t->rset A t (λj=>A k k * A t j+- A t k * A k j) i j=A i j:=λi j e=>if_neg e
   have hBt:∀ j:Int,rset A t (λj=>A k k * A t j+- A t k * A k j) t j=A k k * A t j+- A t k * A k j:=λj=>if_pos rfl
   refine ih _ ?_ (by rw [hB k k (by omega)];exact hp) λi j a b c d e hlt=>?_
   ·have n1:=nzc_step (n:=n) (A:=A) (B:=rset A t (λj=>A k k * A t j+- A t k * A k j)) t0 hk.1 t1 t2 (by rw [hBt,Int.neg_mul,Int.mul_comm];omega) λi _ e=>hB i k e
    have n2:nzc n k (tr (rset A t (λj=>A k k * A t j+- A t k * A k j)))=nzc n k (tr A):=by
     unfold nzc
     refine cnt_out λi _ _=>?_
     show (decide (k<i)&&decide (rset A t (λj=>A k k * A t j+- A t k * A k j) k i≠0))=(decide (k<i)&&decide (A k i≠0))
     rw [hB k i (by omega)]
    omega
   ·by_cases q:i=t
    ·subst q
     rw [hBt,hz i j a b c d e hlt,hz k j hk.1 hk.2 c d (by omega) (.inr (by omega)),Int.mul_zero,Int.mul_zero];rfl
    ·rw [hB i j q];exact hz i j a b c d e hlt
  ·by_cases h2:∃ t:Int,k<t/\t<n/\A k t≠0
   ·obtain ⟨t,t0,t1,t2⟩:=h2
    refine DetC.colc t k (A k k) (- A k t) ⟨by omega,t1⟩ hk (by omega) hp ?_
    have hB:∀ i j:Int,j≠t->cset A t (λi=>A k k * A i t+- A k t * A i k) i j=A i j:=λi j e=>if_neg e
    have hBt:∀ i:Int,cset A t (λi=>A k k * A i t+- A k t * A i k) i t=A k k * A i t+- A k t * A i k:=λj=>if_pos rfl
    refine ih _ ?_ (by rw [hB k k (by omega)];exact hp) λi j a b c d e hlt=>?_
    ·have n1:=nzc_step (n:=n) (A:=tr A) (B:=tr (cset A t (λi=>A k k * A i t+- A k t * A i k))) t0 hk.1 t1 t2 (by show cset A t _ k t=0;rw [hBt,Int.neg_mul,Int.mul_comm];omega) λi _ e=>hB k i e
     have n2:nzc n k (cset A t (λi=>A k k * A i t+- A k t * A i k))=nzc n k A:=by
      unfold nzc
      refine cnt_out λi _ _=>?_
      rw [hB i k (by omega)]
     omega
    ·by_cases q:j=t
     ·subst q
      rw [hBt,hz i j a b c d e hlt,hz i k a b hk.1 hk.2 (by omega) (.inl (by omega)),Int.mul_zero,Int.mul_zero];rfl
     ·rw [hB i j q];exact hz i j a b c d e hlt
   ·exfalso
    have z1:nzc n k A=0:=by
     refine Nat.eq_zero_of_not_pos λq=>?_
     obtain ⟨j,j0,j1,j2⟩:=cnt_pos q
     simp at j2
     exact h1 ⟨j,j2.1,j1,j2.2⟩
    have z2:nzc n k (tr A)=0:=by
     refine Nat.eq_zero_of_not_pos λq=>?_
     obtain ⟨j,j0,j1,j2⟩:=cnt_pos q
     simp at j2
     exact h2 ⟨j,j2.1,j1,j2.2⟩
    omega
theorem allC:∀ (m k:Nat) (A:Mat),n - k=m->ZrM n k A->DetC n A:=by
 intro m
 induction m with
 | zero=>exact λk A hm hz=>diagC λi j a b c d e=>hz i j a b c d e (.inl (by omega))
 | succ m ih=>
  intro k A hm hz
  have hk:0<=(k:Int)/\(k:Int)<n:=⟨by omega,by omega⟩
  have next:∀ B:Mat,ZrM n ((k:Int)+1) B->DetC n B:=λB hB=>ih (k+1) B (by omega) (by rw [show ((k+1:Nat):Int)=(k:Int)+1 by omega];exact hB)
  by_cases h:∃ i j:Int,k<=i/\i<n/\k<=j/\j<n/\A i j≠0
  ·obtain ⟨i,j,i0,i1,j0,j1,hne⟩:=h
   have s1:∀ B:Mat,B i k≠0->ZrM n k B->DetC n B:=λB hB hz=>by
    by_cases e:i=k
    ·subst e;exact stageC hk next _ B rfl hB hz
    ·refine DetC.swp i k ⟨by omega,i1⟩ hk e ?_
     refine stageC hk next _ _ rfl (by show B (sw i k k) k≠0;unfold sw;rw [if_neg (Ne.symm e),if_pos rfl];exact hB) λa b a0 a1 b0 b1 hab hlt=>?_
     show B (sw i k a) b=0
     by_cases q:a<k
     ·rw [show sw i k a=a from by unfold sw;rw [if_neg (by omega),if_neg (by omega)]];exact hz a b a0 a1 b0 b1 hab (.inl q)
     ·have hs:(k:Int)<=sw i k a/\sw i k a<n:=by unfold sw;split <;> (try split) <;> omega
      exact hz _ b (by omega) hs.2 b0 b1 (by omega) (.inr (by omega))
   by_cases e:j=k
   ·subst e;exact s1 A hne hz
   ·refine DetC.swpc j k ⟨by omega,j1⟩ hk e ?_
    refine s1 _ (by show A i (sw j k k)≠0;unfold sw;rw [if_neg (Ne.symm e),if_pos rfl];exact hne) λa b a0 a1 b0 b1 hab hlt=>?_
    show A a (sw j k b)=0
    by_cases q:b<k
    ·rw [show sw j k b=b from by unfold sw;rw [if_neg (by omega),if_neg (by omega)]];exact hz a b a0 a1 b0 b1 hab (.inr q)
    ·have hs:(k:Int)<=sw j k b/\sw j k b<n:=by unfold sw;split <;> (try split) <;> omega
     exact hz a _ a0 a1 (by omega) hs.2 (by omega) (.inl (by omega))
  ·exact diagC λi j a b c d e=>by
    by_cases q:i<k\/j<k
    ·exact hz i j a b c d e q
    ·refine Classical.byContradiction λhn=>h ⟨i,j,by omega,b,by omega,d,hn⟩
theorem det_tr (A:Mat):det n (tr A)=det n A:=(allC n 0 A (by omega) λi j a b c d e h=>by omega).symm
theorem det_sw_r {i k:Int} (hi:0<=i/\i<n) (hk:0<=k/\k<n):det n (swR A i k)=det n A\/det n (swR A i k)=- det n A:=by
 by_cases e:i=k
 ·left
  have:swR A i k=A:=by funext a b;subst e;unfold swR sw;split <;> simp_all
  rw [this]
 ·exact .inr (det_ml.swp A i k hi hk e)
theorem det_sw_c {i k:Int} (hi:0<=i/\i<n) (hk:0<=k/\k<n):det n (swC A i k)=det n A\/det n (swC A i k)=- det n A:=by
 rw [<- det_tr (swC A i k),<-det_tr A]
 exact det_sw_r (A:=tr A) hi hk
theorem Rch.det {k:Int} {u v:St} (hk:0<=k) (h:Rch n n k u v):AE.det n v.d=AE.det n u.d\/AE.det n v.d=- AE.det n u.d:=by
 induction h with
 | refl=>exact .inl rfl
 | trans _ _ ih ih'=>omega
 | piv u p q x hp hpR hq hqC hx hxR hxC=>
  have h1:=det_sw_r (A:=u.d) (i:=p) (k:=x) (n:=n) ⟨by omega,hpR⟩ ⟨by omega,hxR⟩
  have h2:=det_sw_c (A:=swR u.d p x) (i:=q) (k:=x) (n:=n) ⟨by omega,hqC⟩ ⟨by omega,hxC⟩
  unfold pvS
  split
  ·have h3:=det_ml.neg (n:=n) (swC (swR u.d p x) q x) x ⟨by omega,hxR⟩
   show AE.det n (ngR (swC (swR u.d p x) q x) x)=_\/AE.det n (ngR (swC (swR u.d p x) q x) x)=_
   omega
  ·show AE.det n (swC (swR u.d p x) q x)=_\/AE.det n (swC (swR u.d p x) q x)=_
   omega
 | row u t f b ht htR hf hfR htf n1 n2 n3=>
  left
  show AE.det n (adR u.d t f b)=_
  rw [det_ml.cg (adR_on n1),<-det_ml.addr u.d t f b ⟨by omega,htR⟩ ⟨by omega,hfR⟩ htf]
  congr 1
  funext i j
  unfold rset
  by_cases e:i=t
  ·rw [if_pos e,if_pos e,e]
  ·rw [if_neg e,if_neg e,Int.add_zero]
 | col u t f b ht htC hf hfC htf n1 n2 n3=>
  left
  show AE.det n (adC u.d t f b)=_
  have e1:=(tr_ml (n:=n)).addr (tr u.d) t f b ⟨by omega,htC⟩ ⟨by omega,hfC⟩ htf
  rw [det_ml.cg (adC_on n1)]
  have e2:(λi j=>u.d i j+if j=t then u.d i f * b else 0)=tr (rset (tr u.d) t λj=>tr u.d t j+b * tr u.d f j):=by
   funext i j
   show _=if j=t then u.d i t+b * u.d i f else u.d i j
   by_cases e:j=t
   ·rw [if_pos e,if_pos e,e,Int.mul_comm b]
   ·rw [if_neg e,if_neg e,Int.add_zero]
  rw [e2];exact e1
end Go.Proofs.Ytokekkacliomkaa.AE
end
section
namespace Go.Proofs.Ytokekkacliomkaa.AE
open Go Go.AE Go.Proofs
variable {n k:Nat} {A B:Mat}
theorem sgn_top {S:Int->Bool} {c:Int}:∀ {n:Nat},(∀ x:Int,c<x->x<n->0<=x->S x=false)->sgn n S c=1
 | 0,_=>rfl
 | n+1,h=>by
  show sgn n S c * _=1
  rw [sgn_top (n:=n) λx a b d=>h x a (by omega) d]
  by_cases q:c<n
  ·rw [h n q (by omega) (by omega)];rfl
  ·rw [if_neg (by simp;omega)];rfl
theorem dt_shrink {S:Int->Bool} (h:S n=false):∀ r:Nat,dt (n+1) A r S=dt n A r S:=by
 intro r
 induction r generalizing S with
 | zero=>rfl
 | succ r ih=>
  show Sg n _+(if S n=true then _ else 0)=Sg n _
  rw [if_neg (by rw [h];simp),Int.add_zero]
  refine Sg_congr λc _ _=>?_
  rw [ih (S:=rm S c) (by unfold rm;rw [h];rfl)]
  have:sgn (n+1) S c=sgn n S c:=by
   show sgn n S c * _=_
   rw [h,if_neg (by simp),Int.mul_one]
  rw [this]
def bd (k:Nat) (i:Int) (a:Int):Int:=if a<k then a else i
def bm (B:Mat) (k:Nat) (i j:Int):Int:=det (k+1) λa b=>B (bd k i a) (bd k j b)
theorem bd_lo {i a:Int} (h:a<k):bd k i a=a:=if_pos h
theorem bd_hi {i a:Int} (h:(k:Int)<=a):bd k i a=i:=if_neg (by omega)
theorem bm_lo {i j:Int} (h0:0<=j) (h:j<k):bm B k i j=0:=by
 unfold bm
 rw [<- det_tr]
 refine det_ml.alt _ j k h0 h (by omega) λa _ _=>?_
 show B (bd k i a) (bd k j j)=B (bd k i a) (bd k j k)
 rw [bd_lo h,bd_hi (Int.le_refl _)]
theorem bm_kk:bm B k k k=det (k+1) B:=det_ml.cg λa b h1 h2 h3 h4=>by
 have e:∀ x:Int,x<((k+1:Nat):Int)->bd k (k:Int) x=x:=λx hx=>by unfold bd;split <;> omega
 show B (bd k k a) (bd k k b)=B a b
 rw [e a h2,e b h4]
theorem bm_lin {i:Int}:∃ β:Int->Int,∀ j:Int,bm B k i j=Sg k (λl=>β l * B l j)+det k B * B i j:=by
 refine ⟨λl=>sgn (k+1) (λ_=>true) l * dt (k+1) (tr λa b=>B (bd k i a) (bd k 0 b)) k (rm (λ_=>true) l),λj=>?_⟩
 unfold bm
 rw [<- det_tr]
 show Sg (k+1) (λc=>if true=true then sgn (k+1) (λ_=>true) c * (tr (λa b=>B (bd k i a) (bd k j b)) k c * dt (k+1) (tr λa b=>B (bd k i a) (bd k j b)) k (rm (λ_=>true) c)) else 0)=_
 have hc:∀ c:Int,dt (k+1) (tr λa b=>B (bd k i a) (bd k j b)) k (rm (λ_=>true) c)=dt (k+1) (tr λa b=>B (bd k i a) (bd k 0 b)) k (rm (λ_=>true) c):=λc=>dt_congr k _ λa b h0 h1 _ _=>by
  show B (bd k i b) (bd k j a)=B (bd k i b) (bd k 0 a)
  rw [bd_lo h1,bd_lo h1]
 show Sg k _+_=_
 congr 1
 ·refine Sg_congr λc c0 c1=>?_
  dsimp only
  rw [if_pos rfl,hc]
  show _ * (B (bd k i c) (bd k j k) * _)=_
  rw [bd_lo c1,bd_hi (Int.le_refl _),Int.mul_comm (B c j),Int.mul_assoc]
 ·dsimp only
  rw [if_pos rfl,hc,sgn_top λx h1 h2 _=>by omega,Int.one_mul,dt_shrink rm_self]
  show B (bd k i k) (bd k j k) * _=_
  rw [bd_hi (Int.le_refl _),bd_hi (Int.le_refl _),Int.mul_comm]
  congr 1
  have e:dt k (tr λa b=>B (bd k i a) (bd k 0 b)) k (rm (λ_=>true) k)=det k (tr λa b=>B (bd k i a) (bd k 0 b)):=dt_set k λx _ hx=>by rw [rm_ne (by omega)]
  rw [e,det_tr]
  exact det_ml.cg λa b _ h2 _ h4=>by rw [bd_lo h2,bd_lo h4]
theorem ML.comb {f:Mat->Int} (h:ML n f) (A:Mat) (t:Int) (u β:Int->Int) (ht:0<=t/\t<n):∀ k:Nat,(k:Int)<=t->f (rset A t λj=>Sg k (λl=>β l * A l j)+u j)=f (rset A t u)
 | 0,_=>by congr 2;funext j;show 0+u j=u j;omega
 | k+1,hk=>by
  have e:(λj=>Sg (k+1) (λl=>β l * A l j)+u j)=λj=>(Sg k (λl=>β l * A l j)+u j)+β k * A k j:=by
   funext j
   show Sg k _+β k * A k j+u j=_
   omega
  rw [e,h.lin A t (β k) _ (A k) ht.1 ht.2,ML.comb h A t u β ht k (by omega),h.alt' (rset A t (A k)) t k ht ⟨by omega,by omega⟩ (by omega) λj _ _=>by unfold rset;rw [if_pos rfl,if_neg (by omega)],Int.mul_zero,Int.add_zero]
theorem det_last2 {Z:Mat} (h0:∀ b:Int,0<=b->b<k->Z k b=0) (h1:∀ b:Int,0<=b->b<k->Z ((k:Int)+1) b=0):det (k+2) Z=det k Z * (Z ((k:Int)+1) ((k:Int)+1) * Z k k - Z ((k:Int)+1) k * Z k ((k:Int)+1)):=by
 show Sg k _+(if true=true then sgn (k+2) (λ_=>true) (k:Int) * (Z ((k+1:Nat):Int) k * dt (k+2) Z (k+1) (rm (λ_=>true) k)) else 0)+(if true=true then sgn (k+2) (λ_=>true) ((k+1:Nat):Int) * (Z ((k+1:Nat):Int) ((k+1:Nat):Int) * dt (k+2) Z (k+1) (rm (λ_=>true) ((k+1:Nat):Int))) else 0)=_
 have ec:((k+1:Nat):Int)=(k:Int)+1:=by omega
 have s0:Sg k (λc=>if true=true then sgn (k+2) (λ_=>true) c * (Z ((k+1:Nat):Int) c * dt (k+2) Z (k+1) (rm (λ_=>true) c)) else 0)=0:=Sg_zero λc c0 c1=>by
  rw [if_pos rfl,ec,h1 c c0 c1,Int.zero_mul,Int.mul_zero]
 have s1:sgn (k+2) (λ_=>true) ((k+1:Nat):Int)=1:=sgn_top λx a b _=>by omega
 have s2:sgn (k+2) (λ_=>true) (k:Int)=-1:=by
  show sgn (k+1) (λ_=>true) (k:Int) * (if true&&decide ((k:Int)<((k+1:Nat):Int)) then -1 else 1)=-1
  rw [sgn_top λx a b _=>by omega,if_pos (by simp;omega)];rfl
 -- the last row takes the last place
 have d1:dt (k+2) Z (k+1) (rm (λ_=>true) ((k+1:Nat):Int))=Z k k * det k Z:=by
  rw [dt_shrink (n:=k+1) rm_self]
  show Sg k _+(if rm (λ_=>true) ((k+1:Nat):Int) k=true then sgn (k+1) (rm (λ_=>true) ((k+1:Nat):Int)) k * (Z k k * dt (k+1) Z k (rm (rm (λ_=>true) ((k+1:Nat):Int)) k)) else 0)=_
  rw [Sg_zero λc c0 c1=>by
   split
   ·rw [h0 c c0 c1,Int.zero_mul,Int.mul_zero]
   ·rfl,Int.zero_add,if_pos (by rw [rm_ne (by omega)]),sgn_top λx a b _=>by omega,Int.one_mul,dt_shrink rm_self]
  congr 1
  exact dt_set k λx _ hx=>by rw [rm_ne (by omega),rm_ne (by omega)]
 -- the last row takes the place dT of it
 have d2:dt (k+2) Z (k+1) (rm (λ_=>true) k)=Z k ((k:Int)+1) * det k Z:=by
  show Sg k _+(if rm (λ_=>true) k k=true then _ else 0)+(if rm (λ_=>true) k ((k+1:Nat):Int)=true then sgn (k+2) (rm (λ_=>true) k) ((k+1:Nat):Int) * (Z k ((k+1:Nat):Int) * dt (k+2) Z k (rm (rm (λ_=>true) k) ((k+1:Nat):Int))) else 0)=_
  rw [Sg_zero λc c0 c1=>by
   split
   ·rw [h0 c c0 c1,Int.zero_mul,Int.mul_zero]
   ·rfl,Int.zero_add,rm_self,if_neg (by simp),Int.zero_add,if_pos (by rw [rm_ne (by omega)]),sgn_top λx a b _=>by omega,Int.one_mul,dt_shrink (n:=k+1) rm_self,rm_rm,dt_shrink rm_self,ec]
  congr 1
  exact dt_set k λx _ hx=>by rw [rm_ne (by omega),rm_ne (by omega)]
 rw [s0,s1,s2,d1,d2,if_pos rfl,if_pos rfl,ec]
 generalize det k Z=d
 generalize Z ((k:Int)+1) ((k:Int)+1)=x
 generalize Z ((k:Int)+1) k=y
 generalize Z k ((k:Int)+1)=z
 generalize Z k k=w
 rw [Int.mul_sub,Int.zero_add,Int.one_mul,<-Int.mul_assoc x,<-Int.mul_assoc y,Int.mul_comm d,Int.mul_comm d]
 omega
theorem sylv {i j:Int} (hi:(k:Int)<i) (hj:(k:Int)<j) (hd:det k B≠0):det k B * bm B (k+1) i j=bm B k i j * bm B k k k - bm B k i k * bm B k k j:=by
 obtain ⟨β,hβ⟩:=bm_lin (B:=B) (k:=k) (i:=(k:Int))
 obtain ⟨γ,hγ⟩:=bm_lin (B:=B) (k:=k) (i:=i)
 -- the matrix of the minor
 let Y:Mat:=λa b=>B (bd (k+1) i a) (bd (k+1) j b)
 have hY:bm B (k+1) i j=det (k+2) Y:=rfl
 have yl:∀ l b:Int,l<k->Y l b=B l (bd (k+1) j b):=λl b hl=>by show B (bd (k+1) i l) _=_;rw [bd_lo (by omega)]
 have y0:∀ b:Int,Y k b=B k (bd (k+1) j b):=λb=>by show B (bd (k+1) i k) _=_;rw [bd_lo (by omega)]
 have y1:∀ b:Int,Y ((k:Int)+1) b=B i (bd (k+1) j b):=λb=>by show B (bd (k+1) i ((k:Int)+1)) _=_;rw [bd_hi (by omega)]
 have r1:∀ b:Int,bm B k i (bd (k+1) j b)=Sg k (λl=>γ l * Y l b)+det k B * Y ((k:Int)+1) b:=λb=>by
  rw [hγ,y1];congr 1;exact Sg_congr λl _ hl=>by rw [yl l b hl]
 have r0:∀ b:Int,bm B k k (bd (k+1) j b)=Sg k (λl=>β l * Y l b)+det k B * Y k b:=λb=>by
  rw [hβ,y0];congr 1;exact Sg_congr λl _ hl=>by rw [yl l b hl]
 have m:=det_ml (n:=k+2)
 have e1:=m.comb Y ((k:Int)+1) (λb=>det k B * Y ((k:Int)+1) b) γ ⟨by omega,by omega⟩ k (by omega)
 rw [m.scale Y ((k:Int)+1) (det k B) (Y ((k:Int)+1)) (by omega) (by omega),rset_self] at e1
 obtain ⟨Y1,hY1⟩:∃ Y1,Y1=rset Y ((k:Int)+1) λb=>Sg k (λl=>γ l * Y l b)+det k B * Y ((k:Int)+1) b:=⟨_,rfl⟩
 rw [<- hY1] at e1
 have z1:∀ l b:Int,l≠(k:Int)+1->Y1 l b=Y l b:=λl b h=>by rw [hY1];exact if_neg h
 have e2:=m.comb Y1 k (λb=>det k B * Y1 k b) β ⟨by omega,by omega⟩ k (by omega)
 rw [m.scale Y1 k (det k B) (Y1 k) (by omega) (by omega),rset_self] at e2
 obtain ⟨Z,hZ⟩:∃ Z,Z=rset Y1 k λb=>Sg k (λl=>β l * Y1 l b)+det k B * Y1 k b:=⟨_,rfl⟩
 rw [<- hZ] at e2
 have zk:∀ b:Int,Z k b=bm B k k (bd (k+1) j b):=λb=>by
  rw [hZ,r0]
  show (if (k:Int)=k then _ else _)=_
  rw [if_pos rfl]
  show Sg k (λl=>β l * Y1 l b)+det k B * Y1 k b=_
  rw [z1 k b (by omega)]
  congr 1;exact Sg_congr λl _ hl=>by rw [z1 l b (by omega)]
 have zk1:∀ b:Int,Z ((k:Int)+1) b=bm B k i (bd (k+1) j b):=λb=>by
  rw [hZ,r1]
  show (if (k:Int)+1=k then _ else _)=_
  rw [if_neg (by omega),hY1]
  exact if_pos rfl
 have e3:=det_last2 (k:=k) (Z:=Z) (λb b0 b1=>by rw [zk,bd_lo (by omega)];exact bm_lo b0 b1) (λb b0 b1=>by rw [zk1,bd_lo (by omega)];exact bm_lo b0 b1)
 have e4:det k Z=det k B:=det_ml.cg λa b a0 a1 b0 b1=>by
  rw [hZ]
  show (if a=k then _ else Y1 a b)=_
  rw [if_neg (by omega),z1 a b (by omega),yl a b a1,bd_lo (by omega)]
 rw [zk,zk,zk1,zk1,bd_hi (by omega),bd_lo (by omega),e4,e2,e1,<-hY] at e3
 exact Int.eq_of_mul_eq_mul_left hd e3
theorem dt_few {X:Mat} (hX:∀ i j:Int,(k:Int)<=i->i<n->0<=j->j<=k->X i j=0):∀ (r:Nat) (S:Int->Bool),r<=n->(cnt n (λx=>S x&&decide ((k:Int)<x)):Int)<(r:Int) - k->dt n X r S=0
 | 0,S,_,h=>by omega
 | r+1,S,hr,h=>by
  refine Sg_zero λc c0 c1=>?_
  by_cases hc:S c=true
  ·rw [if_pos hc]
   by_cases q:c<=k
   ·rw [hX r c (by omega) (by omega) c0 q,Int.zero_mul,Int.mul_zero]
   ·have h1:=cnt_rem (n:=n) (P:=λx=>S x&&decide ((k:Int)<x)) (c:=c) c0 (by simp [hc];omega) c1
    rw [dt_few hX r (rm S c) (by omega) (by
     have:cnt n (λx=>rm S c x&&decide ((k:Int)<x))=cnt n (λj=>(S j&&decide ((k:Int)<j))&&decide (j≠c)):=cnt_out λx _ _=>by
      unfold rm;cases S x <;> simp [Bool.and_comm]
     omega),Int.mul_zero,Int.mul_zero]
  ·rw [if_neg hc]
theorem cnt_hi:∀ m:Nat,k<m->(cnt m (λx=>true&&decide ((k:Int)<x)):Int)=(m:Int) - k - 1
 | 0,h=>by omega
 | m+1,h=>by
  show ((cnt m (λx=>true&&decide ((k:Int)<x))+(if (true&&decide ((k:Int)<(m:Int)))=true then 1 else 0):Nat):Int)=_
  by_cases q:k<m
  ·rw [if_pos (by simp;omega)]
   have:=cnt_hi m q
   omega
  ·obtain rfl:k=m:=by omega
   rw [if_neg (by simp)]
   have:cnt k (λx=>true&&decide ((k:Int)<x))=0:=Nat.eq_zero_of_not_pos λq=>by
    obtain ⟨j,_,j1,j2⟩:=cnt_pos q
    simp at j2;omega
   omega
theorem ML.combs {f:Mat->Int} (h:ML n f) (A:Mat) (δ:Int) (hδ:δ≠0) (β:Int->Int->Int) (hk:k<=n):∀ (m:Nat),k+m<=n->f (λi j=>if (k:Int)<=i/\i<(k+m:Nat) then Sg k (λl=>β i l * A l j)+δ * A i j else A i j)=0->f A=0
 | 0,_,h0=>by
  have:(λi j=>if (k:Int)<=i/\i<((k+0:Nat):Int) then Sg k (λl=>β i l * A l j)+δ * A i j else A i j)=A:=by
   funext i j;rw [if_neg (by omega)]
  rw [this] at h0;exact h0
 | m+1,hm,h0=>by
  refine ML.combs h A δ hδ β hk m (by omega) ?_
  obtain ⟨D,hD⟩:∃ D:Mat,D=λi j=>if (k:Int)<=i/\i<(k+m:Nat) then Sg k (λl=>β i l * A l j)+δ * A i j else A i j:=⟨_,rfl⟩
  rw [<- hD]
  have lo:∀ l j:Int,l<k->D l j=A l j:=λl j hl=>by rw [hD];exact if_neg (by omega)
  have top:∀ j:Int,D ((k+m:Nat):Int) j=A ((k+m:Nat):Int) j:=λj=>by rw [hD];exact if_neg (by omega)
  have e1:=h.comb D ((k+m:Nat):Int) (λj=>δ * D ((k+m:Nat):Int) j) (β ((k+m:Nat):Int)) ⟨by omega,by omega⟩ k (by omega)
  rw [h.scale D ((k+m:Nat):Int) δ (D ((k+m:Nat):Int)) (by omega) (by omega),rset_self] at e1
  have e2:rset D ((k+m:Nat):Int) (λj=>Sg k (λl=>β ((k+m:Nat):Int) l * D l j)+δ * D ((k+m:Nat):Int) j)=λi j=>if (k:Int)<=i/\i<(k+(m+1):Nat) then Sg k (λl=>β i l * A l j)+δ * A i j else A i j:=by
   funext i j
   unfold rset
   by_cases e:i=((k+m:Nat):Int)
   ·subst e
    rw [if_pos rfl,if_pos (by omega)]
    show Sg k (λl=>β ((k+m:Nat):Int) l * D l j)+δ * D ((k+m:Nat):Int) j=_
    rw [top]
    congr 1;exact Sg_congr λl _ hl=>by rw [lo l j hl]
   ·rw [if_neg e,hD]
    show (if (k:Int)<=i/\i<((k+m:Nat):Int) then _ else _)=_
    by_cases q:(k:Int)<=i/\i<(k+m:Nat)
    ·rw [if_pos q,if_pos (by omega)]
    ·rw [if_neg q,if_neg (by omega)]
  rw [e2,h0] at e1
  exact (Int.mul_eq_zero.1 e1.symm).resolve_left hδ
theorem no_pivot (hk:k<n) (hd:det k B≠0) (h:∀ i:Int,(k:Int)<=i->i<n->bm B k i k=0):det n B=0:=by
 let β:Int->Int->Int:=λi=>(bm_lin (B:=B) (k:=k) (i:=i)).choose
 have hβ:∀ i j:Int,bm B k i j=Sg k (λl=>β i l * B l j)+det k B * B i j:=λi=>(bm_lin (B:=B) (k:=k) (i:=i)).choose_spec
 refine det_ml.combs (k:=k) B (det k B) hd β (by omega) (n - k) (by omega) ?_
 refine dt_few (k:=k) (λi j h1 h2 h3 h4=>?_) n _ (Nat.le_refl _) ?_
 ·show (if (k:Int)<=i/\i<(k+(n - k):Nat) then _ else _)=0
  rw [if_pos (by omega),<-hβ]
  by_cases e:j=k
  ·rw [e];exact h i h1 h2
  ·exact bm_lo h3 (by omega)
 ·have:=cnt_hi (k:=k) n hk
  omega
def ab0 (x:Int):Int:=if x<0 then -x else x
def rsum (n:Nat) (A:Mat) (i:Int):Int:=Sg n λj=>ab0 (A i j)
theorem ab0_nn (x:Int):0<=ab0 x:=by unfold ab0;split <;> omega
theorem ab0_mul (x y:Int):ab0 (x * y)=ab0 x * ab0 y:=by
 have e (z:Int):ab0 z=(z.natAbs:Int):=by unfold ab0;split <;> omega
 rw [e,e,e,Int.natAbs_mul,Int.natCast_mul]
theorem ab0_sum {f:Int->Int}:∀ n:Nat,ab0 (Sg n f)<=Sg n λi=>ab0 (f i)
 | 0=>by show ab0 0<=0;decide
 | n+1=>by
  show ab0 (Sg n f+f n)<=Sg n (λi=>ab0 (f i))+ab0 (f n)
  have:=ab0_sum (f:=f) n
  unfold ab0 at *
  split <;> split at this <;> split <;> omega
theorem dt_bound {A:Mat} {M:Int->Int}:∀ (r:Nat) (S:Int->Bool),(∀ i:Int,0<=i->i<r->rsum n A i<=M i/\0<=M i)->ab0 (dt n A r S)<=Pi r M
 | 0,_,_=>by show ab0 1<=1;decide
 | r+1,S,h=>by
  have ih:∀ c,ab0 (dt n A r (rm S c))<=Pi r M:=λc=>dt_bound r (rm S c) λi a b=>h i a (by omega)
  have p0:0<=Pi r M:=Int.le_trans (ab0_nn _) (ih 0)
  have h1:ab0 (dt n A (r+1) S)<=Sg n λc=>ab0 (A r c) * Pi r M:=by
   refine Int.le_trans (ab0_sum n) (Sg_le λc _ _=>?_)
   split
   ·have hs:ab0 (sgn n S c)=1:=by
     have:=sgn_sq (S:=S) (c:=c) n
     have e:ab0 (sgn n S c) * ab0 (sgn n S c)=1:=by rw [<- ab0_mul,this];rfl
     have:=ab0_nn (sgn n S c)
     rcases Int.lt_trichotomy (ab0 (sgn n S c)) 1 with q | q | q
     ·have:ab0 (sgn n S c)=0:=by omega
      rw [this] at e;cases e
     ·exact q
     ·exfalso
      have:ab0 (sgn n S c) * 1<ab0 (sgn n S c) * ab0 (sgn n S c):=Int.mul_lt_mul_of_pos_left q (by omega)
      omega
    rw [ab0_mul,ab0_mul,hs,Int.one_mul]
    exact Int.mul_le_mul_of_nonneg_left (ih c) (ab0_nn _)
   ·exact Int.mul_nonneg (ab0_nn _) p0
  rw [Sg_mulr] at h1
  refine Int.le_trans h1 ?_
  show rsum n A r * Pi r M<=Pi r M * M r
  rw [Int.mul_comm (Pi r M)]
  exact Int.mul_le_mul_of_nonneg_right (h r (by omega) (by omega)).1 p0
end Go.Proofs.Ytokekkacliomkaa.AE
end
section
namespace Go.Proofs.Ytokekkacliomkaa.AE
open Go Go.AE Go.Proofs
variable {n k:Nat} {A B:Mat} {f g:Int->Int}
def mx (n:Nat) (B:Mat) (i:Int):Int:=if rsum n B i<1 then 1 else rsum n B i
theorem mx_le (i:Int):rsum n B i<=mx n B i/\1<=mx n B i:=by unfold mx;split <;> omega
theorem Pi_congr:∀ {n:Nat},(∀ i:Int,0<=i->i<n->f i=g i)->Pi n f=Pi n g
 | 0,_=>rfl
 | n+1,h=>by
  show Pi n f * f n=Pi n g * g n
  rw [Pi_congr (n:=n) λi a b=>h i a (by omega),h n (by omega) (by omega)]
theorem Pi_pos (h:∀ i:Int,1<=f i):∀ n:Nat,1<=Pi n f
 | 0=>by show (1:Int)<=1;omega
 | n+1=>by
  show 1<=Pi n f * f n
  have h1:=Pi_pos h n
  have:Pi n f * 1<=Pi n f * f n:=Int.mul_le_mul_of_nonneg_left (h n) (by omega)
  omega
theorem Pi_pick (h:∀ i:Int,1<=f i) {i:Int} (hk:(k:Int)<=i):∀ {n:Nat},i<n->Pi k f * f i<=Pi n f
 | 0,hn=>by omega
 | n+1,hn=>by
  have up:∀ m:Nat,k<=m->Pi k f<=Pi m f:=λm hm=>by
   induction m with
   | zero=>
    obtain rfl:k=0:=by omega
    exact Int.le_refl _
   | succ m ih=>
    by_cases e:k=m+1
    ·rw [e];exact Int.le_refl _
    ·refine Int.le_trans (ih (by omega)) ?_
     show Pi m f<=Pi m f * f m
     have h1:=Pi_pos h m
     have:Pi m f * 1<=Pi m f * f m:=Int.mul_le_mul_of_nonneg_left (h m) (by omega)
     omega
  by_cases e:i=n
  ·subst e
   exact Int.mul_le_mul_of_nonneg_right (up n (by omega)) (by have:=h n;omega)
  ·refine Int.le_trans (Pi_pick h hk (n:=n) (by omega)) ?_
   show Pi n f<=Pi n f * f n
   have h1:=Pi_pos h n
   have:Pi n f * 1<=Pi n f * f n:=Int.mul_le_mul_of_nonneg_left (h n) (by omega)
   omega
theorem Pi_out {i:Int} (h0:0<=i):∀ {n:Nat},i<n->Pi n f=f i * Pi n λx=>if x=i then 1 else f x
 | 0,h=>by omega
 | n+1,h=>by
  show Pi n f * f n=f i * (Pi n (λx=>if x=i then 1 else f x) * (if (n:Int)=i then 1 else f n))
  by_cases e:i=n
  ·subst e
   rw [if_pos rfl,Int.mul_one,Int.mul_comm]
   congr 1
   exact Pi_congr λx _ hx=>(if_neg (by omega)).symm
  ·rw [if_neg (by omega),Pi_out h0 (n:=n) (by omega),Int.mul_assoc]
theorem sw_pp (p x:Int):sw p p x=x:=by unfold sw;split <;> simp_all
theorem Pi_sw {p q:Int} (hp:0<=p/\p<n) (hq:0<=q/\q<n):Pi n (λx=>f (sw p q x))=Pi n f:=by
 by_cases e:p=q
 ·subst e;congr 1;funext x;rw [sw_pp]
 ·rw [Pi_out (f:=f) hp.1 hp.2,Pi_out (f:=λx=>if x=p then 1 else f x) hq.1 hq.2,Pi_out (f:=λx=>f (sw p q x)) hp.1 hp.2,Pi_out (f:=λx=>if x=p then 1 else f (sw p q x)) hq.1 hq.2]
  have e1:sw p q p=q:=if_pos rfl
  have e2:sw p q q=p:=by unfold sw;rw [if_neg (by omega),if_pos rfl]
  rw [e1,e2,if_neg (Ne.symm e),if_neg (Ne.symm e),<-Int.mul_assoc,<-Int.mul_assoc,Int.mul_comm (f q)]
  congr 1
  congr 1
  funext x
  by_cases a:x=q
  ·rw [if_pos a,if_pos a]
  ·rw [if_neg a,if_neg a]
   by_cases b:x=p
   ·rw [if_pos b,if_pos b]
   ·rw [if_neg b,if_neg b]
    unfold sw
    rw [if_neg b,if_neg a]
theorem Sg_pick (h:∀ i:Int,0<=f i) {i:Int} (hk:(k:Int)<=i):∀ {n:Nat},i<n->Sg k f+f i<=Sg n f
 | 0,hn=>by omega
 | n+1,hn=>by
  have up:∀ m:Nat,k<=m->Sg k f<=Sg m f:=λm hm=>by
   induction m with
   | zero=>
    obtain rfl:k=0:=by omega
    exact Int.le_refl _
   | succ m ih=>
    by_cases e:k=m+1
    ·rw [e];exact Int.le_refl _
    ·have h1:=ih (by omega)
     have h2:=h m
     show Sg k f<=Sg m f+f m
     omega
  show Sg k f+f i<=Sg n f+f n
  by_cases e:i=n
  ·subst e
   have:=up n (by omega)
   omega
  ·have h1:=Sg_pick h hk (n:=n) (by omega)
   have h2:=h n
   omega
theorem bm_bound {i j:Int} (hi:(k:Int)<=i) (hi':i<n) (hj:(k:Int)<=j) (hj':j<n):ab0 (bm B k i j)<=Pi n (mx n B):=by
 show ab0 (dt (k+1) (λa b=>B (bd k i a) (bd k j b)) (k+1) λ_=>true)<=_
 refine Int.le_trans (dt_bound (n:=k+1) (A:=λa b=>B (bd k i a) (bd k j b)) (M:=λa=>mx n B (bd k i a)) (k+1) _ λa _ _=>⟨Int.le_trans ?_ (mx_le (bd k i a)).1,by have:=(mx_le (n:=n) (B:=B) (bd k i a)).2;omega⟩) ?_
 ·show Sg k (λb=>ab0 (B (bd k i a) (bd k j b)))+ab0 (B (bd k i a) (bd k j k))<=_
  rw [bd_hi (Int.le_refl _),Sg_congr (g:=λb=>ab0 (B (bd k i a) b)) λb _ hb=>by rw [bd_lo hb]]
  exact Sg_pick (f:=λb=>ab0 (B (bd k i a) b)) (λ_=>ab0_nn _) hj hj'
 ·show Pi k (λa=>mx n B (bd k i a)) * mx n B (bd k i k)<=_
  rw [bd_hi (Int.le_refl _),Pi_congr (g:=mx n B) λb _ hb=>by rw [bd_lo hb]]
  exact Pi_pick (λx=>(mx_le x).2) hi hi'
theorem det_bound:ab0 (det n B)<=Pi n (mx n B):=dt_bound n _ λi _ _=>⟨(mx_le i).1,by have:=(mx_le (n:=n) (B:=B) i).2;omega⟩
theorem det_one {X:Mat}:det 1 X=X 0 0:=by
 rw [det_diag λi j a b c d e=>by omega]
 show 1 * X _ _=_
 rw [Int.one_mul];rfl
theorem bm_zero {i j:Int}:bm B 0 i j=B i j:=by
 unfold bm
 rw [det_one,bd_hi (by decide),bd_hi (by decide)]
theorem bm_sw {p i j:Int} (hp:(k:Int)<=p) (hi:(k:Int)<=i):bm (swR B p k) k i j=bm B k (sw p k i) j:=det_ml.cg λa b _ _ _ _=>by
 show B (sw p k (bd k i a)) _=B (bd k (sw p k i) a) _
 by_cases h:a<k
 ·rw [bd_lo (i:=i) h,bd_lo (i:=sw p k i) h,sw_lo hp (Int.le_refl _) h]
 ·rw [bd_hi (i:=i) (a:=a) (by omega),bd_hi (i:=sw p k i) (a:=a) (by omega)]
theorem det_lo_sw {p:Int} (hp:(k:Int)<=p):det k (swR B p k)=det k B:=det_ml.cg λa b _ h _ _=>by
 show B (sw p k a) b=_
 rw [sw_lo hp (Int.le_refl _) h]
theorem vol_sw {p q:Int} (hp:0<=p/\p<n) (hq:0<=q/\q<n):Pi n (mx n (swR B p q))=Pi n (mx n B):=Pi_sw (f:=mx n B) hp hq
theorem mul_in {a b P:Int} (ha:-P<=a/\a<=P) (hb:-P<=b/\b<=P):-(P * P)<=a * b/\a * b<=P * P:=by
 have hP:0<=P:=by omega
 have h:(a * b).natAbs<=P.natAbs * P.natAbs:=by
  rw [Int.natAbs_mul];exact Nat.mul_le_mul (by omega) (by omega)
 have e:((P.natAbs * P.natAbs:Nat):Int)=P * P:=by rw [Int.natCast_mul,Int.natAbs_of_nonneg hP]
 omega
end Go.Proofs.Ytokekkacliomkaa.AE
end
section
namespace Go.Proofs.Ytokekkacliomkaa.AE
open Go Go.AE Go.Proofs
variable {R C F:Nat} {A:Mat} {i j k:Int}
theorem rowS_good {u:St} (h:u.good R C) (t f b:Int):(rowS u t f b).good R C:=by
 obtain ⟨g1,g2,g3,g4,g5⟩:=h
 exact ⟨g1.adR,g2.adR,g3.adC,g4,g5⟩
theorem colS_good {u:St} (h:u.good R C) (t f b:Int):(colS u t f b).good R C:=by
 obtain ⟨g1,g2,g3,g4,g5⟩:=h
 exact ⟨g1.adC,g2,g3,g4.adC,g5.adR⟩
theorem ab_neg (x:Int):ab (-x)=ab x:=by unfold ab;split <;> split <;> omega
theorem row_both (hR:R<=1000) (hC:C<=1000) (hF:5000000<F) {u:St} (hg:u.good R C) {t f q:Int} (ht0:0<=t) (ht:t<R) (hf0:0<=f) (hf:f<R) (htf:t≠f) (hq:ab q<=4000000000000) (hq0:q≠0) :
  ∃ bad',dG.p F R (mk R R u.l) R R (mk R R u.m) C (mk R C u.d) false t f (-q)=some (mk R R (rowS u t f (-q)).l,mk R R (rowS u t f (-q)).m,mk R C (rowS u t f (-q)).d,bad') /\
   (∃ x y z,vQ.p F C (mk R C u.d) R (mk R R u.l) R R (mk R R u.m) false t f q=some (x,y,z,bad')/\(bad'=false->x=mk R C (rowS u t f (-q)).d/\y=mk R R (rowS u t f (-q)).l/\z=mk R R (rowS u t f (-q)).m)) /\
   (bad'=false->¬ nfR C u.d t f (-q)/\¬ nfR R u.l t f (-q)/\¬ nfC R u.m f t (- -q)):=by
 obtain ⟨g1,g2,g3,g4,g5⟩:=hg
 have bq:=ab_bd hq
 have hq':ab (-q)<=4000000000000:=by rw [ab_neg];exact hq
 obtain ⟨b1,e1,h1⟩:=Dh (F:=F) (bad:=false) hR hC (by omega) g1 ht0 ht hf0 hf htf hq'
 obtain ⟨b2,e2,h2⟩:=Dh (F:=F) (bad:=b1) hR hR (by omega) g2 ht0 ht hf0 hf htf hq'
 obtain ⟨b3,e3,h3⟩:=Di (F:=F) (q:=- -q) (bad:=b2) hR hR (by omega) g3 hf0 hf ht0 ht (Ne.symm htf) (by rw [ab_neg];exact hq')
 refine ⟨b3,?_,?_,?_⟩
 ·unfold dG.p
  rw [e1,Option.bind_some]
  simp only []
  rw [e2,Option.bind_some]
  simp only []
  rw [aM (by omega) (by omega),Int.zero_sub,e3,Option.bind_some]
  rfl
 ·unfold vQ.p
  rw [show (q != 0)=true from bne_iff_ne.2 hq0,cond_true]
  obtain ⟨c1,x,f1,i1,j1⟩:=Dj (F:=F) hR hC (by omega) g1 ht0 ht hf0 hf htf hq
  rw [f1,Option.bind_some]
  simp only []
  cases c1 with
  | true=>
   rw [Dl (by omega),Option.bind_some]
   simp only []
   rw [Dm (by omega),Option.bind_some]
   have hb:b3=true:=h3.2 (.inl (h2.2 (.inl (h1.2 (.inr (i1.1 rfl))))))
   subst hb
   exact ⟨_,_,_,rfl,λh=>by cases h⟩
  | false=>
   have n1:¬ nfR C u.d t f (-q):=λh=>by have:=i1.2 h;cases this
   obtain ⟨c2,y,f2,i2,j2⟩:=Dj (F:=F) hR hR (by omega) g2 ht0 ht hf0 hf htf hq
   rw [f2,Option.bind_some]
   simp only []
   cases c2 with
   | true=>
    rw [Dm (by omega),Option.bind_some]
    have hb:b3=true:=h3.2 (.inl (h2.2 (.inr (i2.1 rfl))))
    subst hb
    exact ⟨_,_,_,rfl,λh=>by cases h⟩
   | false=>
    have n2:¬ nfR R u.l t f (-q):=λh=>by have:=i2.2 h;cases this
    obtain ⟨c3,z,f3,i3,j3⟩:=Dk (F:=F) (q:=-q) hR hR (by omega) g3 hf0 hf ht0 ht (Ne.symm htf) hq'
    rw [aM (by omega) (by omega),Int.zero_sub,f3,Option.bind_some]
    have hb:b3=c3:=by
     rw [Bool.eq_iff_iff,h3,i3]
     constructor
     ·rintro (h | h)
      ·rcases h2.1 h with h | h
       ·rcases h1.1 h with h | h
        ·cases h
        ·exact absurd h n1
       ·exact absurd h n2
      ·exact h
     ·exact λh=>.inr h
    subst hb
    exact ⟨_,_,_,rfl,λh=>⟨j1 rfl,j2 rfl,j3 h⟩⟩
 ·intro hb
  refine ⟨λhn=>?_,λhn=>?_,λhn=>?_⟩
  ·have:b3=true:=h3.2 (.inl (h2.2 (.inl (h1.2 (.inr hn)))))
   rw [hb] at this;cases this
  ·have:b3=true:=h3.2 (.inl (h2.2 (.inr hn)))
   rw [hb] at this;cases this
  ·have:b3=true:=h3.2 (.inr hn)
   rw [hb] at this;cases this
theorem col_both (hR:R<=1000) (hC:C<=1000) (hF:5000000<F) {u:St} (hg:u.good R C) {t f q:Int} (ht0:0<=t) (ht:t<C) (hf0:0<=f) (hf:f<C) (htf:t≠f) (hq:ab q<=4000000000000) (hq0:q≠0) :
  ∃ bad',fc.p F R C (mk R C u.d) C C (mk C C u.r) C (mk C C u.s) false t f (-q)=some (mk R C (colS u t f (-q)).d,mk C C (colS u t f (-q)).r,mk C C (colS u t f (-q)).s,bad') /\
   (∃ x y z,yW.p F R C (mk R C u.d) C C (mk C C u.r) C (mk C C u.s) false t f q=some (x,y,z,bad')/\(bad'=false->x=mk R C (colS u t f (-q)).d/\y=mk C C (colS u t f (-q)).r/\z=mk C C (colS u t f (-q)).s)) /\
   (bad'=false->¬ nfC R u.d t f (-q)/\¬ nfC C u.r t f (-q)/\¬ nfR C u.s f t (- -q)):=by
 obtain ⟨g1,g2,g3,g4,g5⟩:=hg
 have bq:=ab_bd hq
 have hq':ab (-q)<=4000000000000:=by rw [ab_neg];exact hq
 obtain ⟨b1,e1,h1⟩:=Di (F:=F) (bad:=false) hR hC (by omega) g1 ht0 ht hf0 hf htf hq'
 obtain ⟨b2,e2,h2⟩:=Di (F:=F) (bad:=b1) hC hC (by omega) g4 ht0 ht hf0 hf htf hq'
 obtain ⟨b3,e3,h3⟩:=Dh (F:=F) (q:=- -q) (bad:=b2) hC hC (by omega) g5 hf0 hf ht0 ht (Ne.symm htf) (by rw [ab_neg];exact hq')
 refine ⟨b3,?_,?_,?_⟩
 ·unfold fc.p
  rw [e1,Option.bind_some]
  simp only []
  rw [e2,Option.bind_some]
  simp only []
  rw [aM (by omega) (by omega),Int.zero_sub,e3,Option.bind_some]
  rfl
 ·unfold yW.p
  rw [show (q != 0)=true from bne_iff_ne.2 hq0,cond_true]
  obtain ⟨c1,x,f1,i1,j1⟩:=Dk (F:=F) hR hC (by omega) g1 ht0 ht hf0 hf htf hq
  rw [f1,Option.bind_some]
  simp only []
  cases c1 with
  | true=>
   rw [Dm (by omega),Option.bind_some]
   simp only []
   rw [Dl (by omega),Option.bind_some]
   have hb:b3=true:=h3.2 (.inl (h2.2 (.inl (h1.2 (.inr (i1.1 rfl))))))
   subst hb
   exact ⟨_,_,_,rfl,λh=>by cases h⟩
  | false=>
   have n1:¬ nfC R u.d t f (-q):=λh=>by have:=i1.2 h;cases this
   obtain ⟨c2,y,f2,i2,j2⟩:=Dk (F:=F) hC hC (by omega) g4 ht0 ht hf0 hf htf hq
   rw [f2,Option.bind_some]
   simp only []
   cases c2 with
   | true=>
    rw [Dl (by omega),Option.bind_some]
    have hb:b3=true:=h3.2 (.inl (h2.2 (.inr (i2.1 rfl))))
    subst hb
    exact ⟨_,_,_,rfl,λh=>by cases h⟩
   | false=>
    have n2:¬ nfC C u.r t f (-q):=λh=>by have:=i2.2 h;cases this
    obtain ⟨c3,z,f3,i3,j3⟩:=Dj (F:=F) (q:=-q) hC hC (by omega) g5 hf0 hf ht0 ht (Ne.symm htf) hq'
    rw [aM (by omega) (by omega),Int.zero_sub,f3,Option.bind_some]
    have hb:b3=c3:=by
     rw [Bool.eq_iff_iff,h3,i3]
     constructor
     ·rintro (h | h)
      ·rcases h2.1 h with h | h
       ·rcases h1.1 h with h | h
        ·cases h
        ·exact absurd h n1
       ·exact absurd h n2
      ·exact h
     ·exact λh=>.inr h
    subst hb
    exact ⟨_,_,_,rfl,λh=>⟨j1 rfl,j2 rfl,j3 h⟩⟩
 ·intro hb
  refine ⟨λhn=>?_,λhn=>?_,λhn=>?_⟩
  ·have:b3=true:=h3.2 (.inl (h2.2 (.inl (h1.2 (.inr hn)))))
   rw [hb] at this;cases this
  ·have:b3=true:=h3.2 (.inl (h2.2 (.inr hn)))
   rw [hb] at this;cases this
  ·have:b3=true:=h3.2 (.inr hn)
   rw [hb] at this;cases this
end Go.Proofs.Ytokekkacliomkaa.AE
end
section
namespace Go.Proofs.Ytokekkacliomkaa.AE
open Go Go.AE Go.Proofs
variable {R C F:Nat} {A:Mat} {i j k:Int}
abbrev i13 (F g R C:Nat) (u:St) (bad:Bool) (k i:Int):=aA.pl13 F g R (mk R R u.l) R R (mk R R u.m) R C (mk R C u.d) C C (mk C C u.r) C (mk C C u.s) bad k R C i
abbrev i4 (F R C:Nat) (u:St) (bad:Bool) (k:Int):=aA.pj4 F (mk R R u.l) (mk R R u.m) R C (mk R C u.d) C C (mk C C u.r) C (mk C C u.s) bad k C
abbrev i15 (F g R C:Nat) (u:St) (bad:Bool) (k j:Int):=aA.pl15 F g (mk R R u.l) (mk R R u.m) R C (mk R C u.d) C C (mk C C u.r) C (mk C C u.s) bad k C j
abbrev s29 (F g R C:Nat) (u:St) (bad:Bool) (k i:Int):=eN.pl29 F g R C (mk R C u.d) R (mk R R u.l) R R (mk R R u.m) C C (mk C C u.r) C (mk C C u.s) bad k i
abbrev s2 (F R C:Nat) (u:St) (bad:Bool) (k:Int):=eN.pj2 F R C (mk R C u.d) R (mk R R u.l) R R (mk R R u.m) C C (mk C C u.r) C (mk C C u.s) bad k
abbrev s61 (F g R C:Nat) (u:St) (bad:Bool) (k i:Int):=eN.pl61 F g R C (mk R C u.d) R (mk R R u.l) R R (mk R R u.m) C C (mk C C u.r) C (mk C C u.s) bad k i
abbrev s1 (F R C:Nat) (u:St) (bad:Bool) (k:Int):=eN.pj1 F R C (mk R C u.d) R (mk R R u.l) R R (mk R R u.m) (mk C C u.r) (mk C C u.s) bad k
theorem i15_bad {g:Nat} {l m d r s:List Int} {c6 c7 c9 c10 c13 k x j:Int}:aA.pl15 F (g+1) l m c6 c7 d c9 c10 r c13 s true k x j=some (true,l,m,d,r,s):=by
 rw [aA.pl15]
 cases decide (j<x) <;> rfl
theorem i13_bad {g:Nat} {l m d r s:List Int} {c1 c3 c4 c6 c7 c9 c10 c13 k x y i:Int} (hF:0<F):aA.pl13 F (g+1) c1 l c3 c4 m c6 c7 d c9 c10 r c13 s true k x y i=some (true,l,m,d,r,s):=by
 obtain ⟨f,rfl⟩:∃ f,F=f+1:=⟨F - 1,by omega⟩
 rw [aA.pl13]
 unfold aA.pj4
 cases decide (i<x)
 ·exact i15_bad
 ·exact i15_bad
theorem s61_bad {g:Nat} {l m d r s:List Int} {c0 c1 c4 c6 c7 c9 c10 c13 k i:Int}:eN.pl61 F (g+1) c0 c1 d c4 l c6 c7 m c9 c10 r c13 s true k i=some (false,false,d,l,m,r,s,true):=by
 rw [eN.pl61]
 cases decide (i<c1) <;> rfl
theorem s29_bad {g:Nat} {l m d r s:List Int} {c0 c1 c4 c6 c7 c9 c10 c13 k i:Int} (hF:0<F):eN.pl29 F (g+1) c0 c1 d c4 l c6 c7 m c9 c10 r c13 s true k i=some (false,false,d,l,m,r,s,true):=by
 obtain ⟨f,rfl⟩:∃ f,F=f+1:=⟨F - 1,by omega⟩
 rw [eN.pl29]
 unfold eN.pj2
 cases decide (i<c0)
 ·exact s61_bad
 ·exact s61_bad
theorem mod_eq {x p:Int}:x+p * -(x / p)=x % p:=by
 have:=Int.mul_ediv_add_emod x p
 rw [Int.mul_neg];omega
theorem quo_ne {x p:Int} (h:x / p=0):x % p=x:=by
 have:=Int.mul_ediv_add_emod x p
 rw [h] at this;omega
theorem clr_rows (hR:R<=1000) (hC:C<=1000) (hF:5000000<F) (hk:0<=k) (hkR:k<R) (hkC:k<C) {p:Int} (hp:0<p):∀ (n g h:Nat) (u:St) (i:Int),u.good R C->u.d k k=p->R - i=n->n+1<g->n+1<h->k<i ->
  (∃ v:St,v.good R C/\Rch R C k u v/\(∀ a b:Int,a<i->v.d a b=u.d a b)/\(∀ b:Int,0<=b->b<C->v.d k b=u.d k b)/\(∀ a:Int,i<=a->a<R->v.d a k=u.d a k % p)/\(∀ a:Int,0<=a->a<i->v.d a k=u.d a k) /\
   i13 F g R C u false k i=i4 F R C v false k/\s29 F h R C u false k i=s2 F R C v false k) \/
  (∃ l m d r s,i13 F g R C u false k i=some (true,l,m,d,r,s))/\(∃ l m d r s,s29 F h R C u false k i=some (false,false,d,l,m,r,s,true)):=by
 intro n
 induction n with
 | zero=>
  intro g h u i hu hkk hn hg hh hki
  obtain ⟨g,rfl⟩:∃ g',g=g'+1:=⟨g - 1,by omega⟩
  obtain ⟨h,rfl⟩:∃ g',h=g'+1:=⟨h - 1,by omega⟩
  left
  refine ⟨u,hu,.refl _,λ_ _ _=>rfl,λ_ _ _=>rfl,λa h1 h2=>by omega,λ_ _ _=>rfl,?_,?_⟩
  ·unfold i13
   rw [aA.pl13,show decide (i<(R:Int))=false from decide_eq_false (by omega),cond_false]
  ·unfold s29
   rw [eN.pl29,show decide (i<(R:Int))=false from decide_eq_false (by omega),cond_false]
 | succ n ih=>
  intro g h u i hu hkk hn hg hh hki
  obtain ⟨g,rfl⟩:∃ g',g=g'+1:=⟨g - 1,by omega⟩
  obtain ⟨h,rfl⟩:∃ g',h=g'+1:=⟨h - 1,by omega⟩
  have bik:=hu.1.ab (i:=i) (j:=k) (by omega) (by omega) hk hkC
  have bq:=(quo_bd hp bik).1
  have bq':=ab_bd bq
  unfold i13 s29
  rw [aA.pl13,show decide (i<(R:Int))=true from decide_eq_true (by omega),cond_true,Bool.not_false,cond_true]
  rw [eN.pl29,show decide (i<(R:Int))=true from decide_eq_true (by omega),cond_true,Bool.not_false,cond_true]
  simp (disch:=omega) only [at_mk,eY,fJ,Option.bind_some]
  rw [hkk,Hb hp bik,Hc hp bik,Option.bind_some,Option.bind_some]
  by_cases hq:u.d i k / p=0
  ·rw [hq,show ((0:Int) != 0)=false from rfl,cond_false]
   unfold aA.pj5 vQ.p
   rw [show ((0:Int) != 0)=false from rfl,cond_false,Option.bind_some,aM (by omega) (by omega)]
   rcases ih g h u (i+1) hu hkk (by omega) (by omega) (by omega) (by omega) with ⟨v,q1,qr,q0,q2,q3,q4,q5,q6⟩ | hbad
   ·left
    refine ⟨v,q1,qr,λa b h=>q0 a b (by omega),q2,λa h1 h2=>?_,λa h1 h2=>q4 a h1 (by omega),q5,q6⟩
    by_cases e:a=i
    ·subst e
     rw [q4 a (by omega) (by omega),quo_ne hq]
    ·exact q3 a (by omega) h2
   ·exact .inr hbad
  ·rw [show (u.d i k / p != 0)=true from bne_iff_ne.2 hq,cond_true,aM (x:=0 - u.d i k / p) (by omega) (by omega),Int.zero_sub]
   obtain ⟨bad',e1,⟨x,y,z,e2,e3⟩,e4⟩:=row_both (q:=u.d i k / p) hR hC hF hu (by omega:0<=i) (by omega) hk hkR (by omega) (by omega) hq
   rw [e1,e2,Option.bind_some,Option.bind_some]
   unfold aA.pj5
   rw [aM (x:=i+1) (by omega) (by omega)]
   simp only []
   cases bad' with
   | true=>
    right
    obtain ⟨g,rfl⟩:∃ g',g=g'+1:=⟨g - 1,by omega⟩
    obtain ⟨h,rfl⟩:∃ g',h=g'+1:=⟨h - 1,by omega⟩
    exact ⟨⟨_,_,_,_,_,i13_bad (by omega)⟩,⟨_,_,_,_,_,s29_bad (by omega)⟩⟩
   | false=>
    obtain ⟨rfl,rfl,rfl⟩:=e3 rfl
    have e4:=e4 rfl
    have key:∀ b:Int,0<=b->b<C->(rowS u i k (-(u.d i k / p))).d i b=u.d i b+u.d k b * -(u.d i k / p):=by
     intro b h1 h2
     show adR u.d i k (-(u.d i k / p)) i b=_
     unfold adR
     rw [if_pos rfl]
     apply ad_fit
     exact Classical.byContradiction λhh=>e4.1 ⟨b,h1,h2,hh⟩
    have oth:∀ a b,a≠i->(rowS u i k (-(u.d i k / p))).d a b=u.d a b:=by
     intro a b h1
     show adR u.d i k (-(u.d i k / p)) a b=_
     unfold adR
     rw [if_neg h1]
    rcases ih g h (rowS u i k (-(u.d i k / p))) (i+1) (rowS_good hu _ _ _) (by rw [oth k k (by omega)];exact hkk) (by omega) (by omega) (by omega) (by omega) with ⟨v,q1,qr,q0,q2,q3,q4,q5,q6⟩ | hbad
    ·left
     refine ⟨v,q1,(Rch.row u i k _ (by omega) (by omega) (by omega) (by omega) (by omega) e4.1 e4.2.1 e4.2.2).trans qr,λa b h=>(q0 a b (by omega)).trans (oth a b (by omega)),λb h1 h2=>?_,λa h1 h2=>?_,λa h1 h2=>?_,q5,q6⟩
     ·rw [q2 b h1 h2,oth k b (by omega)]
     ·by_cases e:a=i
      ·subst e
       rw [q4 a (by omega) (by omega),key k hk hkC,hkk,mod_eq]
      ·rw [q3 a (by omega) h2,oth a k e]
     ·rw [q4 a h1 (by omega),oth a k (by omega)]
    ·exact .inr hbad
theorem clr_cols (hR:R<=1000) (hC:C<=1000) (hF:5000000<F) (hk:0<=k) (hkR:k<R) (hkC:k<C) {p:Int} (hp:0<p):∀ (n g h:Nat) (u:St) (j:Int),u.good R C->u.d k k=p->C - j=n->n+1<g->n+1<h->k<j ->
  (∃ v:St,v.good R C/\Rch R C k u v/\(∀ a b:Int,b<j->v.d a b=u.d a b)/\(∀ a:Int,0<=a->a<R->v.d a k=u.d a k)/\(∀ b:Int,j<=b->b<C->v.d k b=u.d k b % p)/\(∀ b:Int,0<=b->b<j->v.d k b=u.d k b) /\
   i15 F g R C u false k j=some (false,mk R R v.l,mk R R v.m,mk R C v.d,mk C C v.r,mk C C v.s)/\s61 F h R C u false k j=s1 F R C v false k) \/
  (∃ l m d r s,i15 F g R C u false k j=some (true,l,m,d,r,s))/\(∃ l m d r s,s61 F h R C u false k j=some (false,false,d,l,m,r,s,true)):=by
 intro n
 induction n with
 | zero=>
  intro g h u i hu hkk hn hg hh hki
  obtain ⟨g,rfl⟩:∃ g',g=g'+1:=⟨g - 1,by omega⟩
  obtain ⟨h,rfl⟩:∃ g',h=g'+1:=⟨h - 1,by omega⟩
  left
  refine ⟨u,hu,.refl _,λ_ _ _=>rfl,λ_ _ _=>rfl,λa h1 h2=>by omega,λ_ _ _=>rfl,?_,?_⟩
  ·unfold i15
   rw [aA.pl15,show decide (i<(C:Int))=false from decide_eq_false (by omega),cond_false]
  ·unfold s61
   rw [eN.pl61,show decide (i<(C:Int))=false from decide_eq_false (by omega),cond_false]
 | succ n ih=>
  intro g h u j hu hkk hn hg hh hki
  obtain ⟨g,rfl⟩:∃ g',g=g'+1:=⟨g - 1,by omega⟩
  obtain ⟨h,rfl⟩:∃ g',h=g'+1:=⟨h - 1,by omega⟩
  have bik:=hu.1.ab (i:=k) (j:=j) hk hkR (by omega) (by omega)
  have bq:=(quo_bd hp bik).1
  have bq':=ab_bd bq
  unfold i15 s61
  rw [aA.pl15,show decide (j<(C:Int))=true from decide_eq_true (by omega),cond_true,Bool.not_false,cond_true]
  rw [eN.pl61,show decide (j<(C:Int))=true from decide_eq_true (by omega),cond_true,Bool.not_false,cond_true]
  simp (disch:=omega) only [at_mk,eY,fJ,Option.bind_some]
  rw [hkk,Hb hp bik,Hc hp bik,Option.bind_some,Option.bind_some]
  by_cases hq:u.d k j / p=0
  ·rw [hq,show ((0:Int) != 0)=false from rfl,cond_false]
   unfold aA.pj3 yW.p
   rw [show ((0:Int) != 0)=false from rfl,cond_false,Option.bind_some,aM (by omega) (by omega)]
   rcases ih g h u (j+1) hu hkk (by omega) (by omega) (by omega) (by omega) with ⟨v,q1,qr,q0,q2,q3,q4,q5,q6⟩ | hbad
   ·left
    refine ⟨v,q1,qr,λa b h=>q0 a b (by omega),q2,λa h1 h2=>?_,λa h1 h2=>q4 a h1 (by omega),q5,q6⟩
    by_cases e:a=j
    ·subst e
     rw [q4 a (by omega) (by omega),quo_ne hq]
    ·exact q3 a (by omega) h2
   ·exact .inr hbad
  ·rw [show (u.d k j / p != 0)=true from bne_iff_ne.2 hq,cond_true,aM (x:=0 - u.d k j / p) (by omega) (by omega),Int.zero_sub]
   obtain ⟨bad',e1,⟨x,y,z,e2,e3⟩,e4⟩:=col_both (q:=u.d k j / p) hR hC hF hu (by omega:0<=j) (by omega) hk hkC (by omega) (by omega) hq
   rw [e1,e2,Option.bind_some,Option.bind_some]
   unfold aA.pj3
   rw [aM (x:=j+1) (by omega) (by omega)]
   simp only []
   cases bad' with
   | true=>
    right
    obtain ⟨g,rfl⟩:∃ g',g=g'+1:=⟨g - 1,by omega⟩
    obtain ⟨h,rfl⟩:∃ g',h=g'+1:=⟨h - 1,by omega⟩
    exact ⟨⟨_,_,_,_,_,i15_bad⟩,⟨_,_,_,_,_,s61_bad⟩⟩
   | false=>
    obtain ⟨rfl,rfl,rfl⟩:=e3 rfl
    have e4:=e4 rfl
    have key:∀ a:Int,0<=a->a<R->(colS u j k (-(u.d k j / p))).d a j=u.d a j+u.d a k * -(u.d k j / p):=by
     intro b h1 h2
     show adC u.d j k (-(u.d k j / p)) b j=_
     unfold adC
     rw [if_pos rfl]
     apply ad_fit
     exact Classical.byContradiction λhh=>e4.1 ⟨b,h1,h2,hh⟩
    have oth:∀ a b,b≠j->(colS u j k (-(u.d k j / p))).d a b=u.d a b:=by
     intro a b h1
     show adC u.d j k (-(u.d k j / p)) a b=_
     unfold adC
     rw [if_neg h1]
    rcases ih g h (colS u j k (-(u.d k j / p))) (j+1) (colS_good hu _ _ _) (by rw [oth k k (by omega)];exact hkk) (by omega) (by omega) (by omega) (by omega) with ⟨v,q1,qr,q0,q2,q3,q4,q5,q6⟩ | hbad
    ·left
     refine ⟨v,q1,(Rch.col u j k _ (by omega) (by omega) (by omega) (by omega) (by omega) e4.1 e4.2.1 e4.2.2).trans qr,λa b h=>(q0 a b (by omega)).trans (oth a b (by omega)),λb h1 h2=>?_,λa h1 h2=>?_,λa h1 h2=>?_,q5,q6⟩
     ·rw [q2 b h1 h2,oth b k (by omega)]
     ·by_cases e:a=j
      ·subst e
       rw [q4 a (by omega) (by omega),key k hk hkR,hkk,mod_eq]
      ·rw [q3 a (by omega) h2,oth k a e]
     ·rw [q4 a h1 (by omega),oth k a (by omega)]
    ·exact .inr hbad
theorem clr_both (hR:R<=1000) (hC:C<=1000) (hF:5000000<F) (hk:0<=k) (hkR:k<R) (hkC:k<C) {p:Int} (hp:0<p) {u:St} (hu:u.good R C) (hkk:u.d k k=p) :
  (∃ v:St,v.good R C/\Rch R C k u v/\(∀ a b:Int,a<k->b<k->v.d a b=u.d a b)/\v.d k k=p/\(∀ a:Int,k<a->a<R->v.d a k=u.d a k % p)/\(∀ b:Int,k<b->b<C->v.d k b=u.d k b % p) /\
   aA.p F R (mk R R u.l) R R (mk R R u.m) R C (mk R C u.d) C C (mk C C u.r) C (mk C C u.s) false k=some (false,mk R R v.l,mk R R v.m,mk R C v.d,mk C C v.r,mk C C v.s)/\s29 F F R C u false k (IntKind.i64.wrap (k+1))=s1 F R C v false k) \/
  (∃ l m d r s,aA.p F R (mk R R u.l) R R (mk R R u.m) R C (mk R C u.d) C C (mk C C u.r) C (mk C C u.s) false k=some (true,l,m,d,r,s))/\(∃ l m d r s,s29 F F R C u false k (IntKind.i64.wrap (k+1))=some (false,false,d,l,m,r,s,true)):=by
 unfold aA.p
 rw [aM (x:=k+1) (by omega) (by omega)]
 rcases clr_rows hR hC hF hk hkR hkC hp (R - (k+1)).toNat F F u (k+1) hu hkk (by omega) (by omega) (by omega) (by omega) with ⟨v,q1,qr,q0,q2,q3,q4,q5,q6⟩ | ⟨h1,h2⟩
 ·rcases clr_cols hR hC hF hk hkR hkC hp (C - (k+1)).toNat F F v (k+1) q1 (by rw [q4 k hk (by omega)];exact hkk) (by omega) (by omega) (by omega) (by omega) with ⟨w,p1,pr,p0,p2,p3,p4,p5,p6⟩ | ⟨h1,h2⟩
  ·left
   refine ⟨w,p1,qr.trans pr,λa b h1 h2=>(p0 a b (by omega)).trans (q0 a b (by omega)),by rw [p2 k hk hkR,q4 k hk (by omega)];exact hkk,λa h1 h2=>by rw [p2 a (by omega) h2,q3 a (by omega) h2],λb h1 h2=>by rw [p3 b (by omega) h2,q2 b (by omega) h2],?_,?_⟩
   ·rw [show aA.pl13 F F R (mk R R u.l) R R (mk R R u.m) R C (mk R C u.d) C C (mk C C u.r) C (mk C C u.s) false k R C (k+1)=_ from q5]
    unfold i4 aA.pj4
    rw [aM (x:=k+1) (by omega) (by omega)]
    exact p5
   ·rw [q6]
    unfold s2 eN.pj2
    rw [aM (x:=k+1) (by omega) (by omega)]
    exact p6
  ·right
   obtain ⟨a1,a2,a3,a4,a5,h1⟩:=h1
   obtain ⟨b1,b2,b3,b4,b5,h2⟩:=h2
   refine ⟨⟨a1,a2,a3,a4,a5,?_⟩,⟨b1,b2,b3,b4,b5,?_⟩⟩
   ·rw [show aA.pl13 F F R (mk R R u.l) R R (mk R R u.m) R C (mk R C u.d) C C (mk C C u.r) C (mk C C u.s) false k R C (k+1)=_ from q5]
    unfold i4 aA.pj4
    rw [aM (x:=k+1) (by omega) (by omega)]
    exact h1
   ·rw [q6]
    unfold s2 eN.pj2
    rw [aM (x:=k+1) (by omega) (by omega)]
    exact h2
 ·exact .inr ⟨h1,h2⟩
end Go.Proofs.Ytokekkacliomkaa.AE
end
section
namespace Go.Proofs.Ytokekkacliomkaa.AE
open Go Go.AE Go.Proofs
variable {R C F:Nat} {A:Mat} {i j k:Int}
theorem cutf_row (hR:R<=1000) (hC:C<=1000) (hk0:0<=k) (hk:k<R):∃ x,cM.p F C (mk R C A) k=some x/\x.length=C/\∀ n:Nat,n<C->gt x n=A k n:=by
 obtain ⟨k,rfl⟩:=Int.eq_ofNat_of_zero_le hk0
 have h1:(k+1) * C<=R * C:=Nat.mul_le_mul_right _ (by omega)
 have h2:R * C<=1000 * 1000:=Nat.mul_le_mul hR hC
 have h3:(k+1) * C=k * C+C:=Nat.succ_mul _ _
 unfold cM.p
 rw [aM (x:=(k:Int)+1) (by omega) (by omega),show (k:Int)+1=((k+1:Nat):Int) by omega,<-Int.natCast_mul,<-Int.natCast_mul,aM (by omega) (by omega),aM (by omega) (by omega)]
 unfold cutf
 rw [if_pos (by rw [ig];omega),Option.bind_some]
 refine ⟨_,rfl,?_,?_⟩
 ·rw [List.length_drop,List.length_take,ig]
  omega
 ·intro n hn
  unfold gt
  rw [List.getD_eq_getElem?_getD,List.getElem?_drop,List.getElem?_take_of_lt (by omega),Int.toNat_natCast,zL hn (by omega)]
  rfl
theorem cutf_end {x:List Int} (hk0:0<=k) (hk:k<=x.length):∃ y,cutf x k (x.length:Int)=some y/\(y.length:Int)=x.length - k/\∀ n:Nat,gt y n=gt x (k.toNat+n):=by
 unfold cutf
 rw [if_pos (by omega)]
 refine ⟨_,rfl,?_,?_⟩
 ·rw [List.length_drop,List.length_take];omega
 ·intro n
  unfold gt
  rw [List.getD_eq_getElem?_getD,List.getD_eq_getElem?_getD,List.getElem?_drop,Int.toNat_natCast,List.take_length]
theorem idx_155 {y:List Int} (hy:y.length<=1000):∀ (n g:Nat) (i:Int),y.length - i=n->n<g->0<=i ->
  ∃ r,cJ.pl13 F g y y.length i=some r/\(r>=0↔∃ a:Int,i<=a/\a<y.length/\gt y a.toNat≠0):=by
 intro n
 induction n with
 | zero=>
  intro g i hn hg hi
  obtain ⟨g,rfl⟩:∃ g',g=g'+1:=⟨g - 1,by omega⟩
  rw [cJ.pl13,show decide (i<(y.length:Int))=false from decide_eq_false (by omega),cond_false]
  exact ⟨_,rfl,⟨λh=>absurd h (by decide),λ⟨a,h1,h2,_⟩=>by omega⟩⟩
 | succ n ih=>
  intro g i hn hg hi
  obtain ⟨g,rfl⟩:∃ g',g=g'+1:=⟨g - 1,by omega⟩
  rw [cJ.pl13,show decide (i<(y.length:Int))=true from decide_eq_true (by omega),cond_true]
  unfold ix hO.p
  rw [if_pos (by omega),Option.bind_some,Option.bind_some]
  by_cases h:gt y i.toNat=0
  ·rw [h,show ((0:Int) != 0)=false from rfl,cond_false,aM (by omega) (by omega)]
   obtain ⟨r,e,hr⟩:=ih g (i+1) (by omega) (by omega) (by omega)
   refine ⟨r,e,hr.trans ⟨λ⟨a,h1,h2,h3⟩=>⟨a,by omega,h2,h3⟩,λ⟨a,h1,h2,h3⟩=>?_⟩⟩
   by_cases e:a=i
   ·subst e;exact absurd h h3
   ·exact ⟨a,by omega,h2,h3⟩
  ·rw [show (gt y i.toNat != 0)=true from bne_iff_ne.2 h,cond_true]
   exact ⟨_,rfl,⟨λ_=>⟨i,by omega,by omega,h⟩,λ_=>hi⟩⟩
theorem isClear_l (hR:R<=1000) (hC:C<=1000) (hF:5000000<F) (hk:0<=k) (hkR:k<R) (hkC:k<C):∀ (n g:Nat) (i:Int),R - i=n->n<g->k<i ->
  ∃ b:Bool,bW.pl29 F g k R C (mk R C A) i=some b/\(b=true↔(∀ a:Int,i<=a->a<R->A a k=0)/\(∀ a:Int,k<a->a<C->A k a=0)):=by
 intro n
 induction n with
 | zero=>
  intro g i hn hg hi
  obtain ⟨g,rfl⟩:∃ g',g=g'+1:=⟨g - 1,by omega⟩
  rw [bW.pl29,show decide (i<(R:Int))=false from decide_eq_false (by omega),cond_false]
  unfold bW.pj1
  obtain ⟨x,ex,xl,xg⟩:=cutf_row (F:=F) (A:=A) hR hC hk hkR
  rw [ex,Option.bind_some,aM (by omega) (by omega)]
  obtain ⟨y,ey,yl,yg⟩:=cutf_end (x:=x) (k:=k+1) (by omega) (by omega)
  rw [ey,Option.bind_some]
  unfold fN.p cJ.p
  obtain ⟨r,er,hr⟩:=idx_155 (F:=F) (y:=y) (by omega) y.length F 0 (by omega) (by omega) (by omega)
  rw [er,Option.bind_some,Option.bind_some]
  refine ⟨_,rfl,?_⟩
  have:(!decide (r>=0))=true↔¬ (r>=0):=by simp
  rw [this,hr]
  constructor
  ·intro h
   refine ⟨λa h1 h2=>by omega,λa h1 h2=>?_⟩
   refine Classical.byContradiction λhne=>h ⟨a - (k+1),by omega,by omega,?_⟩
   rw [yg,show (k+1).toNat+(a - (k+1)).toNat=a.toNat by omega,xg _ (by omega),Int.toNat_of_nonneg (by omega)]
   exact hne
  ·rintro ⟨_,h⟩ ⟨a,h1,h2,h3⟩
   apply h3
   rw [yg,xg _ (by omega),show (((k+1).toNat+a.toNat:Nat):Int)=k+1+a by omega]
   exact h _ (by omega) (by omega)
 | succ n ih=>
  intro g i hn hg hi
  obtain ⟨g,rfl⟩:∃ g',g=g'+1:=⟨g - 1,by omega⟩
  rw [bW.pl29,show decide (i<(R:Int))=true from decide_eq_true (by omega),cond_true]
  simp (disch:=omega) only [eY,fJ,Option.bind_some]
  by_cases h:A i k=0
  ·rw [h,show ((0:Int) != 0)=false from rfl,cond_false,aM (by omega) (by omega)]
   obtain ⟨b,e,hb⟩:=ih g (i+1) (by omega) (by omega) (by omega)
   refine ⟨b,e,hb.trans ⟨λ⟨h1,h2⟩=>⟨λa h3 h4=>?_,h2⟩,λ⟨h1,h2⟩=>⟨λa h3 h4=>h1 a (by omega) h4,h2⟩⟩⟩
   by_cases e:a=i
   ·subst e;exact h
   ·exact h1 a (by omega) h4
  ·rw [show (A i k != 0)=true from bne_iff_ne.2 h,cond_true]
   exact ⟨_,rfl,⟨λh=>(by cases h),λ⟨h1,_⟩=>absurd (h1 i (by omega) (by omega)) h⟩⟩
theorem specClear_in (hR:R<=1000) (hC:C<=1000) (hk:0<=k) (hkR:k<R) (hkC:k<C):∀ (n g:Nat) (j:Int),C - j=n->n<g->k<j ->
  ∃ b:Bool,iO.pl29 F g C (mk R C A) k j=some b/\(b=true↔(∀ a:Int,j<=a->a<C->A k a=0)):=by
 intro n
 induction n with
 | zero=>
  intro g i hn hg hi
  obtain ⟨g,rfl⟩:∃ g',g=g'+1:=⟨g - 1,by omega⟩
  rw [iO.pl29,show decide (i<(C:Int))=false from decide_eq_false (by omega),cond_false]
  exact ⟨_,rfl,⟨λ_ a h1 h2=>by omega,λ_=>rfl⟩⟩
 | succ n ih=>
  intro g i hn hg hi
  obtain ⟨g,rfl⟩:∃ g',g=g'+1:=⟨g - 1,by omega⟩
  rw [iO.pl29,show decide (i<(C:Int))=true from decide_eq_true (by omega),cond_true]
  simp (disch:=omega) only [at_mk,Option.bind_some]
  by_cases h:A k i=0
  ·rw [h,show ((0:Int) != 0)=false from rfl,cond_false,aM (by omega) (by omega)]
   obtain ⟨b,e,hb⟩:=ih g (i+1) (by omega) (by omega) (by omega)
   refine ⟨b,e,hb.trans ⟨λh1 a h3 h4=>?_,λh1 a h3 h4=>h1 a (by omega) h4⟩⟩
   by_cases e:a=i
   ·subst e;exact h
   ·exact h1 a (by omega) h4
  ·rw [show (A k i != 0)=true from bne_iff_ne.2 h,cond_true]
   exact ⟨_,rfl,⟨λh=>(by cases h),λh1=>absurd (h1 i (by omega) (by omega)) h⟩⟩
theorem specClear_l (hR:R<=1000) (hC:C<=1000) (hF:5000000<F) (hk:0<=k) (hkR:k<R) (hkC:k<C):∀ (n g:Nat) (i:Int),R - i=n->n<g->k<i ->
  ∃ b:Bool,iO.pl13 F g R C (mk R C A) k i=some b/\(b=true↔(∀ a:Int,i<=a->a<R->A a k=0)/\(∀ a:Int,k<a->a<C->A k a=0)):=by
 intro n
 induction n with
 | zero=>
  intro g i hn hg hi
  obtain ⟨g,rfl⟩:∃ g',g=g'+1:=⟨g - 1,by omega⟩
  rw [iO.pl13,show decide (i<(R:Int))=false from decide_eq_false (by omega),cond_false]
  unfold iO.pj1
  rw [aM (by omega) (by omega)]
  obtain ⟨b,e,hb⟩:=specClear_in (F:=F) (A:=A) hR hC hk hkR hkC (C - (k+1)).toNat F (k+1) (by omega) (by omega) (by omega)
  exact ⟨b,e,hb.trans ⟨λh=>⟨λa h1 h2=>by omega,λa h1 h2=>h a (by omega) h2⟩,λ⟨_,h⟩ a h1 h2=>h a (by omega) h2⟩⟩
 | succ n ih=>
  intro g i hn hg hi
  obtain ⟨g,rfl⟩:∃ g',g=g'+1:=⟨g - 1,by omega⟩
  rw [iO.pl13,show decide (i<(R:Int))=true from decide_eq_true (by omega),cond_true]
  simp (disch:=omega) only [at_mk,Option.bind_some]
  by_cases h:A i k=0
  ·rw [h,show ((0:Int) != 0)=false from rfl,cond_false,aM (by omega) (by omega)]
   obtain ⟨b,e,hb⟩:=ih g (i+1) (by omega) (by omega) (by omega)
   refine ⟨b,e,hb.trans ⟨λ⟨h1,h2⟩=>⟨λa h3 h4=>?_,h2⟩,λ⟨h1,h2⟩=>⟨λa h3 h4=>h1 a (by omega) h4,h2⟩⟩⟩
   by_cases e:a=i
   ·subst e;exact h
   ·exact h1 a (by omega) h4
  ·rw [show (A i k != 0)=true from bne_iff_ne.2 h,cond_true]
   exact ⟨_,rfl,⟨λh=>(by cases h),λ⟨h1,_⟩=>absurd (h1 i (by omega) (by omega)) h⟩⟩
theorem clear_both (hR:R<=1000) (hC:C<=1000) (hF:5000000<F) (hk:0<=k) (hkR:k<R) (hkC:k<C) :
  ∃ b:Bool,bW.p F R C (mk R C A) k=some b/\iO.p F R C (mk R C A) k=some b/\(b=true↔(∀ a:Int,k<a->a<R->A a k=0)/\(∀ a:Int,k<a->a<C->A k a=0)):=by
 obtain ⟨b,e,hb⟩:=isClear_l (F:=F) (A:=A) hR hC hF hk hkR hkC (R - (k+1)).toNat F (k+1) (by omega) (by omega) (by omega)
 obtain ⟨c,e',hc⟩:=specClear_l (F:=F) (A:=A) hR hC hF hk hkR hkC (R - (k+1)).toNat F (k+1) (by omega) (by omega) (by omega)
 have:b=c:=by rw [Bool.eq_iff_iff,hb,hc]
 subst this
 unfold bW.p iO.p
 rw [aM (by omega) (by omega)]
 exact ⟨b,e,e',hb⟩
theorem idx_156 {y:List Int} (hR:R<=1000) (hC:C<=1000) (hk:0<=k) (hkR:k<R) (hkC:k<C) (hp:A k k≠0) (hy:y.length<=1000):∀ (n g:Nat) (i:Int),y.length - i=n->n<g->0<=i ->
  ∃ r,cK.pl13 F g y C (mk R C A) k y.length i=some r/\(r>=0↔∃ a:Int,i<=a/\a<y.length/\Int.tmod (gt y a.toNat) (A k k)≠0):=by
 intro n
 induction n with
 | zero=>
  intro g i hn hg hi
  obtain ⟨g,rfl⟩:∃ g',g=g'+1:=⟨g - 1,by omega⟩
  rw [cK.pl13,show decide (i<(y.length:Int))=false from decide_eq_false (by omega),cond_false]
  exact ⟨_,rfl,⟨λh=>absurd h (by decide),λ⟨a,h1,h2,_⟩=>by omega⟩⟩
 | succ n ih=>
  intro g i hn hg hi
  obtain ⟨g,rfl⟩:∃ g',g=g'+1:=⟨g - 1,by omega⟩
  rw [cK.pl13,show decide (i<(y.length:Int))=true from decide_eq_true (by omega),cond_true]
  unfold fW.p
  rw [eY hR hC hk hkR hk hkC]
  unfold ix
  rw [if_pos (by omega),Option.bind_some,Option.bind_some,fJ hk hkR hk hkC,if_neg hp,Option.bind_some]
  by_cases h:Int.tmod (gt y i.toNat) (A k k)=0
  ·rw [h,show ((0:Int) != 0)=false from rfl,cond_false,aM (by omega) (by omega)]
   obtain ⟨r,e,hr⟩:=ih g (i+1) (by omega) (by omega) (by omega)
   refine ⟨r,e,hr.trans ⟨λ⟨a,h1,h2,h3⟩=>⟨a,by omega,h2,h3⟩,λ⟨a,h1,h2,h3⟩=>?_⟩⟩
   by_cases e:a=i
   ·subst e;exact absurd h h3
   ·exact ⟨a,by omega,h2,h3⟩
  ·rw [show (Int.tmod (gt y i.toNat) (A k k) != 0)=true from bne_iff_ne.2 h,cond_true]
   exact ⟨_,rfl,⟨λ_=>⟨i,by omega,by omega,h⟩,λ_=>hi⟩⟩
theorem specOdd_in (hR:R<=1000) (hC:C<=1000) (hk:0<=k) (hkR:k<R) (hkC:k<C) (hp:A k k≠0) (hi:k<i) (hiR:i<R) {pC}:∀ (n g:Nat) (j:Int),C - j=n->n<g->k<j ->
  ((∃ b:Int,j<=b/\b<C/\Int.tmod (A i b) (A k k)≠0)/\gU.pl213 F pC g R C (mk R C A) k i j=some i) \/
  ((∀ b:Int,j<=b->b<C->Int.tmod (A i b) (A k k)=0)/\gU.pl213 F pC g R C (mk R C A) k i j=pC R C (mk R C A) k (i+1)):=by
 intro n
 induction n with
 | zero=>
  intro g j hn hg hj
  obtain ⟨g,rfl⟩:∃ g',g=g'+1:=⟨g - 1,by omega⟩
  rw [gU.pl213,show decide (j<(C:Int))=false from decide_eq_false (by omega),cond_false]
  unfold gU.pj4 gU.pj3
  rw [aM (by omega) (by omega)]
  exact .inr ⟨λb h1 h2=>by omega,rfl⟩
 | succ n ih=>
  intro g j hn hg hj
  obtain ⟨g,rfl⟩:∃ g',g=g'+1:=⟨g - 1,by omega⟩
  rw [gU.pl213,show decide (j<(C:Int))=true from decide_eq_true (by omega),cond_true]
  simp (disch:=omega) only [at_mk,Option.bind_some]
  rw [if_neg hp]
  by_cases h:Int.tmod (A i j) (A k k)=0
  ·rw [h,show ((0:Int) != 0)=false from rfl,cond_false,aM (by omega) (by omega)]
   rcases ih g (j+1) (by omega) (by omega) (by omega) with ⟨⟨b,h1,h2,h3⟩,e⟩ | ⟨h1,e⟩
   ·exact .inl ⟨⟨b,by omega,h2,h3⟩,e⟩
   ·refine .inr ⟨λb h3 h4=>?_,e⟩
    by_cases e:b=j
    ·subst e;exact h
    ·exact h1 b (by omega) h4
  ·rw [show (Int.tmod (A i j) (A k k) != 0)=true from bne_iff_ne.2 h,cond_true]
   exact .inl ⟨⟨j,by omega,by omega,h⟩,rfl⟩
theorem odd_l (hR:R<=1000) (hC:C<=1000) (hF:5000000<F) (hk:0<=k) (hkR:k<R) (hkC:k<C) (hp:A k k≠0):∀ (n g h:Nat) (i:Int),R - i=n->n<g->n<h->k<i ->
  ∃ r:Int,cl.pl29 F g k R C (mk R C A) i=some r/\gU.pl13 F h R C (mk R C A) k i=some r/\((r=-1/\∀ a b:Int,i<=a->a<R->k<b->b<C->Int.tmod (A a b) (A k k)=0)\/(k<r/\r<R/\∃ b:Int,k<b/\b<C/\Int.tmod (A r b) (A k k)≠0)):=by
 intro n
 induction n with
 | zero=>
  intro g h i hn hg hh hi
  obtain ⟨g,rfl⟩:∃ g',g=g'+1:=⟨g - 1,by omega⟩
  obtain ⟨h,rfl⟩:∃ g',h=g'+1:=⟨h - 1,by omega⟩
  rw [cl.pl29,gU.pl13,show decide (i<(R:Int))=false from decide_eq_false (by omega),cond_false,cond_false]
  exact ⟨-1,rfl,rfl,.inl ⟨rfl,λa b h1 h2=>by omega⟩⟩
 | succ n ih=>
  intro g h i hn hg hh hi
  obtain ⟨g,rfl⟩:∃ g',g=g'+1:=⟨g - 1,by omega⟩
  obtain ⟨h,rfl⟩:∃ g',h=g'+1:=⟨h - 1,by omega⟩
  rw [cl.pl29,gU.pl13,show decide (i<(R:Int))=true from decide_eq_true (by omega),cond_true,cond_true]
  obtain ⟨x,ex,xl,xg⟩:=cutf_row (F:=F) (A:=A) (k:=i) hR hC (by omega) (by omega)
  rw [ex,Option.bind_some,aM (x:=k+1) (by omega) (by omega)]
  obtain ⟨y,ey,yl,yg⟩:=cutf_end (x:=x) (k:=k+1) (by omega) (by omega)
  rw [ey,Option.bind_some]
  unfold fX.p cK.p
  obtain ⟨r,er,hr⟩:=idx_156 (F:=F) (y:=y) hR hC hk hkR hkC hp (by omega) y.length F 0 (by omega) (by omega) (by omega)
  rw [er,Option.bind_some,Option.bind_some]
  have yv:∀ a:Int,0<=a->a<y.length->gt y a.toNat=A i (k+1+a):=by
   intro a h1 h2
   rw [yg,xg _ (by omega),show (((k+1).toNat+a.toNat:Nat):Int)=k+1+a by omega]
  rcases specOdd_in (F:=F) (pC:=gU.pl13 F h) hR hC hk hkR hkC hp hi (by omega) (C - (k+1)).toNat F (k+1) (by omega) (by omega) (by omega) with ⟨⟨b,h1,h2,h3⟩,e⟩ | ⟨h1,e⟩
  ·have:r>=0:=hr.2 ⟨b - (k+1),by omega,by omega,by rw [yv _ (by omega) (by omega),show k+1+(b - (k+1))=b by omega];exact h3⟩
   rw [decide_eq_true this,cond_true,e]
   exact ⟨i,rfl,rfl,.inr ⟨hi,by omega,b,by omega,h2,h3⟩⟩
  ·have:¬ r>=0:=by
    rw [hr]
    rintro ⟨a,h2,h3,h4⟩
    rw [yv a h2 h3] at h4
    exact h4 (h1 _ (by omega) (by omega))
   rw [decide_eq_false this,cond_false,e,aM (by omega) (by omega)]
   obtain ⟨s,f1,f2,f3⟩:=ih g h (i+1) (by omega) (by omega) (by omega) (by omega)
   refine ⟨s,f1,f2,f3.imp (λ⟨q,hq⟩=>⟨q,λa b h3 h4 h5 h6=>?_⟩) id⟩
   by_cases ea:a=i
   ·rw [ea];exact h1 b (by omega) h6
   ·exact hq a b (by omega) h4 h5 h6
theorem odd_both (hR:R<=1000) (hC:C<=1000) (hF:5000000<F) (hk:0<=k) (hkR:k<R) (hkC:k<C) (hp:A k k≠0) :
  ∃ r:Int,cl.p F R C (mk R C A) k=some r/\gU.p F R C (mk R C A) k=some r/\((r=-1/\∀ a b:Int,k+1<=a->a<R->k<b->b<C->Int.tmod (A a b) (A k k)=0)\/(k<r/\r<R/\∃ b:Int,k<b/\b<C/\Int.tmod (A r b) (A k k)≠0)):=by
 unfold cl.p gU.p
 rw [aM (by omega) (by omega)]
 exact odd_l hR hC hF hk hkR hkC hp (R - (k+1)).toNat F F (k+1) (by omega) (by omega) (by omega) (by omega)
end Go.Proofs.Ytokekkacliomkaa.AE
end
section
namespace Go.Proofs.Ytokekkacliomkaa.AE
open Go Go.AE Go.Proofs
variable {R C F:Nat} {A:Mat} {i j k:Int}
abbrev ir (F g R C:Nat) (u:St) (bad:Bool) (k:Int):=aR.pl3 F g R (mk R R u.l) R R (mk R R u.m) R C (mk R C u.d) C C (mk C C u.r) C (mk C C u.s) bad k
abbrev sr (F R C:Nat) (u:St) (k:Int):=eN.p F R C (mk R C u.d) R (mk R R u.l) R R (mk R R u.m) C C (mk C C u.r) C (mk C C u.s) false k
theorem ir_bad {g:Nat} {l m d r s:List Int} {c1 c3 c4 c6 c7 c9 c10 c13 k:Int}:aR.pl3 F (g+1) c1 l c3 c4 m c6 c7 d c9 c10 r c13 s true k=some (l,m,d,r,s,true):=by
 rw [aR.pl3];rfl
def Ust (R C:Nat) (k:Int) (u:St) (P:Int):Prop:=u.d k k=P/\(∀ a:Int,k<a->a<R->u.d a k=0)/\∃ b:Int,k<b/\b<C/\Int.tmod (u.d k b) P≠0
def HasLt (R C:Nat) (k:Int) (u:St) (P:Int):Prop:=∃ a b:Int,k<=a/\a<R/\k<=b/\b<C/\u.d a b≠0/\ab (u.d a b)<P
def Same (k:Int) (u v:St):Prop:=∀ a:Int,0<=a->a<k->v.d a a=u.d a a
theorem pv_same {u:St} {p q k:Int} (hp:k<=p) (hq:k<=q):Same k u (pvS u p q k):=by
 intro a _ h2
 have e:(swS u p q k).d a a=u.d a a:=by
  show swC (swR u.d p k) q k a a=_
  unfold swC swR sw
  rw [if_neg (by omega),if_neg (by omega),if_neg (by omega),if_neg (by omega)]
 unfold pvS
 split
 ·show (ngS (swS u p q k) k).d a a=_
  rw [<- e]
  unfold ngS
  simp only
  first | rw [ngR_ne (by omega)] | (unfold ngR;rw [if_neg (by omega)])
 ·exact e
theorem round_both (hR:R<=1000) (hC:C<=1000) (hF:5000000<F) (hk:0<=k) (hkR:k<R) (hkC:k<C) {u:St} (hu:u.good R C) (g:Nat) :
  ((∀ a b,k<=a->a<R->k<=b->b<C->u.d a b=0)/\ir F (g+1) R C u false k=some (mk R R u.l,mk R R u.m,mk R C u.d,mk C C u.r,mk C C u.s,false)/\sr F R C u k=some (true,true,mk R C u.d,mk R R u.l,mk R R u.m,mk C C u.r,mk C C u.s,false)) \/
  ∃ p q,SI k C u.d R k (some (p,q)) /\
   (((∃ l m d r s,ir F (g+2) R C u false k=some (l,m,d,r,s,true))/\(∃ l m d r s,sr F R C u k=some (false,false,d,l,m,r,s,true))) \/
   (∃ v:St,v.good R C/\ir F (g+1) R C u false k=ir F g R C v false k/\sr F R C u k=some (false,false,mk R C v.d,mk R R v.l,mk R R v.m,mk C C v.r,mk C C v.s,false) /\
    Same k u v/\Rch R C k u v/\(HasLt R C k v (ab (u.d p q))\/(Ust R C k v (ab (u.d p q))/\∀ b:Int,k<b->b<C->(pvS u p q k).d k b % ab (u.d p q)=0))) \/
   (∃ v:St,v.good R C/\ir F (g+1) R C u false k=ir F g R C v false (k+1)/\sr F R C u k=some (true,false,mk R C v.d,mk R R v.l,mk R R v.m,mk C C v.r,mk C C v.s,false)/\0<v.d k k/\Same k u v/\Rch R C k u v/\Clr R C k v)):=by
 unfold ir sr eN.p
 have hmin:k<(if (C:Int)<R then (C:Int) else R):=by split <;> omega
 rcases pivot_both hR hC hF hu hk hkR hkC with ⟨h0,e1,e2⟩ | ⟨p,q,hs,w,hw,hwg,hwk,e1,e2⟩
 ·left
  refine ⟨h0,?_,?_⟩
  ·rw [aR.pl3,decide_eq_true hmin]
   simp only [Bool.not_false,cond_true]
   rw [e2,Option.bind_some]
   rfl
  ·rw [e1,Option.bind_some]
   rfl
 ·right
  refine ⟨p,q,hs,?_⟩
  have hP:0<ab (u.d p q):=ab_pos.2 hs.2.1
  rw [e1,Option.bind_some]
  simp only [Bool.not_true,cond_false]
  have hI:∀ g,aR.pl3 F (g+1) R (mk R R u.l) R R (mk R R u.m) R C (mk R C u.d) C C (mk C C u.r) C (mk C C u.s) false k =
    (aA.p F R (mk R R w.l) R R (mk R R w.m) R C (mk R C w.d) C C (mk C C w.r) C (mk C C w.s) false k).bind λr3=>(bif r3.1 then (aR.pj4 F (aR.pl3 F g) R r3.2.1 R R r3.2.2.1 R C r3.2.2.2.1 C C r3.2.2.2.2.1 C r3.2.2.2.2.2 r3.1 k) else ((bW.p F R C r3.2.2.2.1 k).bind λr7=>(bif (!r7) then (aR.pj4 F (aR.pl3 F g) R r3.2.1 R R r3.2.2.1 R C r3.2.2.2.1 C C r3.2.2.2.2.1 C r3.2.2.2.2.2 r3.1 k) else ((cl.p F R C r3.2.2.2.1 k).bind λr12=>(bif (decide (r12>=0)) then ((dG.p F R r3.2.1 R R r3.2.2.1 C r3.2.2.2.1 r3.1 k r12 1).bind λr16=>aR.pj6 F (aR.pl3 F g) R r16.1 R R r16.2.1 R C r16.2.2.1 C C r3.2.2.2.2.1 C r3.2.2.2.2.2 r16.2.2.2 k) else (aR.pj6 F (aR.pl3 F g) R r3.2.1 R R r3.2.2.1 R C r3.2.2.2.1 C C r3.2.2.2.2.1 C r3.2.2.2.2.2 r3.1 (IntKind.i64.wrap (k+1)))))))):=by
   intro g
   rw [aR.pl3,decide_eq_true hmin]
   simp only [Bool.not_false,cond_true]
   rw [e2,Option.bind_some]
   rfl
  have hpv:Same k u w:=by rw [hw];exact pv_same hs.1.1 hs.1.2.1
  have hpr:Rch R C k u w:=by
   rw [hw]
   obtain ⟨s1,s2,s3,s4⟩:=hs.1
   exact .piv u p q k s1 (by omega) s2 s3 (Int.le_refl _) hkR hkC
  rcases clr_both hR hC hF hk hkR hkC hP hwg hwk with ⟨v,hv,hvr,hv0,hvk,hva,hvb,c1,c2⟩ | ⟨⟨l,m,d,r,s,c1⟩,⟨l',m',d',r',s',c2⟩⟩
  ·have c2:eN.pl29 F F R C (mk R C w.d) R (mk R R w.l) R R (mk R R w.m) C C (mk C C w.r) C (mk C C w.s) false k (IntKind.i64.wrap (k+1))=_:=c2
   rw [c2]
   simp only [c1,Option.bind_some,cond_false] at hI
   obtain ⟨b,d1,d2,hb⟩:=clear_both (F:=F) (A:=v.d) hR hC hF hk hkR hkC
   unfold s1 eN.pj1
   simp only [cond_false]
   rw [d2,Option.bind_some]
   simp only [d1,Option.bind_some] at hI
   cases b with
   | false=>
    right;left
    refine ⟨v,hv,hI g,rfl,λa h1 h2=>(hv0 a a h2 h2).trans (hpv a h1 h2),hpr.trans hvr,.inl ?_⟩
    have hn:¬ ((∀ a:Int,k<a->a<R->v.d a k=0)/\(∀ a:Int,k<a->a<C->v.d k a=0)):=λh=>by have:=hb.2 h;cases this
    rcases Classical.not_and_iff_not_or_not.1 hn with h | h
    ·obtain ⟨a,h⟩:=Classical.not_forall.1 h
     have h:=not_imp.1 h
     obtain ⟨h1,h⟩:=h
     obtain ⟨h2,h3⟩:=not_imp.1 h
     refine ⟨a,k,by omega,h2,by omega,hkC,h3,?_⟩
     have:=hva a h1 h2
     have g1:=Int.emod_nonneg (w.d a k) (Int.ne_of_gt hP)
     have g2:=Int.emod_lt_of_pos (w.d a k) hP
     unfold ab at *
     rw [if_neg (by omega)];omega
    ·obtain ⟨a,h⟩:=Classical.not_forall.1 h
     have h:=not_imp.1 h
     obtain ⟨h1,h⟩:=h
     obtain ⟨h2,h3⟩:=not_imp.1 h
     refine ⟨k,a,by omega,hkR,by omega,h2,h3,?_⟩
     have:=hvb a h1 h2
     have g1:=Int.emod_nonneg (w.d k a) (Int.ne_of_gt hP)
     have g2:=Int.emod_lt_of_pos (w.d k a) hP
     unfold ab at *
     rw [if_neg (by omega)];omega
   | true=>
    obtain ⟨z1,z2⟩:=hb.1 rfl
    obtain ⟨r,f1,f2,hr⟩:=odd_both (F:=F) (A:=v.d) hR hC hF hk hkR hkC (by rw [hvk];omega)
    simp only [Bool.not_true,cond_false]
    rw [f2,Option.bind_some]
    simp only [Bool.not_true,cond_false,f1,Option.bind_some] at hI
    rcases hr with ⟨rfl,hdv⟩ | ⟨r1,r2,b,r3,r4,r5⟩
    ·right;right
     refine ⟨v,hv,?_,rfl,by rw [hvk];exact hP,λa h1 h2=>(hv0 a a h2 h2).trans (hpv a h1 h2),hpr.trans hvr,⟨z1,z2,λa b h1 h2 h3 h4=>Int.dvd_of_tmod_eq_zero (hdv a b (by omega) h2 h3 h4)⟩⟩
     rw [hI g,show decide ((-1:Int)>=0)=false from rfl,cond_false,aM (by omega) (by omega)]
     rfl
    ·rw [decide_eq_false (show ¬ r<0 by omega),cond_false]
     simp only [decide_eq_true (show r>=0 by omega),cond_true] at hI
     obtain ⟨bad',t1,⟨x,y,z,t2,t3⟩,t4⟩:=row_both (q:=-1) hR hC hF hv hk hkR (by omega:0<=r) r2 (by omega) (by decide) (by decide)
     rw [show (- -1:Int)=1 from rfl] at *
     rw [t2,Option.bind_some]
     simp only [t1,Option.bind_some] at hI
     cases bad' with
     | true=>
      left
      refine ⟨?_,⟨_,_,_,_,_,rfl⟩⟩
      rw [hI (g+1)]
      unfold aR.pj6 aR.pj5
      exact ⟨_,_,_,_,_,ir_bad⟩
     | false=>
      obtain ⟨rfl,rfl,rfl⟩:=t3 rfl
      have t4:=t4 rfl
      right;left
      refine ⟨rowS v k r 1,rowS_good hv _ _ _,hI g,rfl,?_,(hpr.trans hvr).trans (Rch.row v k r 1 (by omega) hkR (by omega) r2 (by omega) t4.1 t4.2.1 t4.2.2),.inr ⟨⟨?_,?_,?_⟩,?_⟩⟩
      all_goals
       have key:∀ b:Int,0<=b->b<C->(rowS v k r 1).d k b=v.d k b+v.d r b * 1:=by
        intro b h1 h2
        show adR v.d k r 1 k b=_
        unfold adR
        rw [if_pos rfl]
        apply ad_fit
        exact Classical.byContradiction λhh=>t4.1 ⟨b,h1,h2,hh⟩
       have oth:∀ a b,a≠k->(rowS v k r 1).d a b=v.d a b:=by
        intro a b h1
        show adR v.d k r 1 a b=_
        unfold adR
        rw [if_neg h1]
      ·exact λa h1 h2=>(oth a a (by omega)).trans ((hv0 a a h2 h2).trans (hpv a h1 h2))
      ·rw [key k hk hkC,hvk,z1 r r1 r2];omega
      ·intro a h1 h2
       rw [oth a k (by omega)]
       exact z1 a h1 h2
      ·refine ⟨b,r3,r4,?_⟩
       rw [key b (by omega) r4,z2 b r3 r4,<-hvk]
       rw [show 0+v.d r b * 1=v.d r b by omega]
       exact r5
      ·intro b h1 h2
       rw [<- hw,<-hvb b h1 h2]
       exact z2 b h1 h2
  ·left
   have c2:eN.pl29 F F R C (mk R C w.d) R (mk R R w.l) R R (mk R R w.m) C C (mk C C w.r) C (mk C C w.s) false k (IntKind.i64.wrap (k+1))=_:=c2
   rw [c2,hI (g+1),c1,Option.bind_some]
   unfold aR.pj4
   simp only [cond_true]
   exact ⟨⟨_,_,_,_,_,ir_bad⟩,⟨_,_,_,_,_,rfl⟩⟩
end Go.Proofs.Ytokekkacliomkaa.AE
end
section
namespace Go.Proofs.Ytokekkacliomkaa.AE
open Go Go.AE Go.Proofs
variable {R C F:Nat} {A:Mat} {i j k:Int}
abbrev sd (F:Nat) pC (g R C:Nat) (u:St) (k:Int):=fq.pl938 F pC g R C R C (mk R C u.d) R R (mk R R u.l) R R (mk R R u.m) C C (mk C C u.r) C C (mk C C u.s) false k false false
abbrev sO (F g R C:Nat) (u:St) (k:Int):=fq.pl29 F g R C R C (mk R C u.d) R R (mk R R u.l) R R (mk R R u.m) C C (mk C C u.r) C C (mk C C u.s) false k
def RBad (x:Option (List Int×List Int×List Int×List Int×List Int×Bool)):Prop:=∃ l m d r s,x=some (l,m,d,r,s,true)
def SBad (x:Option (Int×Int×List Int×Int×Int×List Int×Int×Int×List Int×Int×Int×List Int×Int×Int×List Int×Bool)):Prop:=∃ a1 a2 d a3 a4 l a5 a6 m a7 a8 r a9 a10 s,x=some (a1,a2,d,a3,a4,l,a5,a6,m,a7,a8,r,a9,a10,s,true)
theorem sd_bad {pC} {g:Nat} {l m d r s:List Int} {c1 c2 a1 a2 a3 a4 a5 a6 a7 a8 a9 a10 k:Int}:SBad (fq.pl938 F pC (g+1) c1 c2 a1 a2 d a3 a4 l a5 a6 m a7 a8 r a9 a10 s true k false false):=by
 rw [fq.pl938]
 exact ⟨_,_,_,_,_,_,_,_,_,_,_,_,_,_,_,rfl⟩
theorem inner_both (hR:R<=1000) (hC:C<=1000) (hF:5000000<F) (hk:0<=k) (hkR:k<R) (hkC:k<C) {pC}:∀ (m:Nat) (u:St) (g h:Nat),u.good R C->HasLt R C k u (m+1)->2 * m+3<=g->2 * m+3<=h ->
  (RBad (ir F g R C u false k)/\SBad (sd F pC h R C u k)) \/
  (∃ v:St,v.good R C/\0<v.d k k/\Same k u v/\Rch R C k u v/\Clr R C k v/\∃ g',g<=g'+(2 * m+2)/\ir F g R C u false k=ir F g' R C v false (k+1)/\sd F pC h R C u k=pC R C R C (mk R C v.d) R R (mk R R v.l) R R (mk R R v.m) C C (mk C C v.r) C C (mk C C v.s) false (k+1)):=by
 intro m
 induction m using Nat.strongRecOn with
 | _ m ih=>
 intro u g h hu hlt hg hh
 have stepS:∀ (u:St) (h:Nat),sd F pC (h+1) R C u k=(sr F R C u k).bind λr2=>fq.pl938 F pC h R C R C r2.2.2.1 R R r2.2.2.2.1 R R r2.2.2.2.2.1 C C r2.2.2.2.2.2.1 C C r2.2.2.2.2.2.2.1 r2.2.2.2.2.2.2.2 k r2.1 r2.2.1:=by
  intro u h
  unfold sd
  rw [fq.pl938]
  rfl
 have done:∀ (v:St) (h:Nat),fq.pl938 F pC (h+1) R C R C (mk R C v.d) R R (mk R R v.l) R R (mk R R v.m) C C (mk C C v.r) C C (mk C C v.s) false k true false=pC R C R C (mk R C v.d) R R (mk R R v.l) R R (mk R R v.m) C C (mk C C v.r) C C (mk C C v.s) false (k+1):=by
  intro v h
  rw [fq.pl938]
  unfold fq.pj4 fq.pj3
  simp only [Bool.not_true,cond_false]
  rw [aM (by omega) (by omega)]
 obtain ⟨g,rfl⟩:∃ g',g=g'+3:=⟨g - 3,by omega⟩
 obtain ⟨h,rfl⟩:∃ g',h=g'+3:=⟨h - 3,by omega⟩
 rcases round_both hR hC hF hk hkR hkC hu (g+2) with ⟨h0,_,_⟩ | ⟨p,q,hs,hcase⟩
 ·obtain ⟨a,b,h1,h2,h3,h4,h5,_⟩:=hlt
  exact absurd (h0 a b h1 h2 h3 h4) h5
 ·have hP:0<ab (u.d p q):=ab_pos.2 hs.2.1
  have hPm:ab (u.d p q)<m+1:=by
   obtain ⟨a,b,h1,h2,h3,h4,h5,h6⟩:=hlt
   have:=(hs.2.2 a b ⟨h1,h3,h4,.inl h2⟩ h5).1
   omega
  generalize ab (u.d p q)=P at hP hPm hcase
  have rec_:∀ (v:St) (g h:Nat),v.good R C->HasLt R C k v P->2 * m+1<=g->2 * m+1<=h ->
    (RBad (ir F g R C v false k)/\SBad (sd F pC h R C v k)) \/
    (∃ w:St,w.good R C/\0<w.d k k/\Same k v w/\Rch R C k v w/\Clr R C k w/\∃ g',g<=g'+2 * m/\ir F g R C v false k=ir F g' R C w false (k+1)/\sd F pC h R C v k=pC R C R C (mk R C w.d) R R (mk R R w.l) R R (mk R R w.m) C C (mk C C w.r) C C (mk C C w.s) false (k+1)):=by
   intro v g h hv hl hg hh
   rcases ih (P.toNat - 1) (by omega) v g h hv (by rw [show (((P.toNat - 1:Nat):Int)+1)=P by omega];exact hl) (by omega) (by omega) with hb | ⟨w,hw,hw0,hw1,hwr,hwc,g',h1,h2,h3⟩
   ·exact .inl hb
   ·exact .inr ⟨w,hw,hw0,hw1,hwr,hwc,g',by omega,h2,h3⟩
  rcases hcase with ⟨⟨l,m',d,r,s,e1⟩,⟨l',m'',d',r',s',e2⟩⟩ | ⟨v,hv,e1,e2,hsm,hrc,hprog⟩ | ⟨v,hv,e1,e2,hpos,hsm,hrc,hcl⟩
  ·left
   refine ⟨?_,?_⟩
   ·rcases round_both hR hC hF hk hkR hkC hu (g+1) with ⟨h0,_,_⟩ | ⟨p1,q1,hs1,hcase⟩
    ·obtain ⟨a,b,h1,h2,h3,h4,h5,_⟩:=hlt
     exact absurd (h0 a b h1 h2 h3 h4) h5
    ·rcases hcase with ⟨⟨l,m',d,r,s,e1⟩,_⟩ | ⟨v,hv,_,e3,_⟩ | ⟨v,hv,_,e3,_⟩
     ·exact ⟨_,_,_,_,_,e1⟩
     ·rw [e2] at e3;simp at e3
     ·rw [e2] at e3;simp at e3
   ·rw [stepS,e2,Option.bind_some]
    exact sd_bad
  ·rw [e1,stepS,e2,Option.bind_some]
   rcases hprog with hl | ⟨⟨k1,k2,b,k3,k4,k5⟩,_⟩
   ·rcases rec_ v (g+2) (h+2) hv hl (by omega) (by omega) with hb | ⟨w,hw,hw0,hw1,hwr,hwc,g',h1,h2,h3⟩
    ·exact .inl hb
    ·exact .inr ⟨w,hw,hw0,λa h1 h2=>(hw1 a h1 h2).trans (hsm a h1 h2),hrc.trans hwr,hwc,g',by omega,h2,h3⟩
   ·by_cases hl:HasLt R C k v P
    ·rcases rec_ v (g+2) (h+2) hv hl (by omega) (by omega) with hb | ⟨w,hw,hw0,hw1,hwr,hwc,g',h1,h2,h3⟩
     ·exact .inl hb
     ·exact .inr ⟨w,hw,hw0,λa h1 h2=>(hw1 a h1 h2).trans (hsm a h1 h2),hrc.trans hwr,hwc,g',by omega,h2,h3⟩
    ·have hkk:v.d k k≠0:=by omega
     have abP:ab P=P:=by unfold ab;rw [if_neg (by omega)]
     rcases round_both hR hC hF hk hkR hkC hv (g+1) with ⟨h0,_,_⟩ | ⟨p1,q1,hs1,hcase⟩
     ·exact absurd (h0 k k (by omega) hkR (by omega) hkC) hkk
     ·obtain ⟨s1,s2,s3⟩:=hs1
      obtain ⟨t1,t2,t3,t4⟩:=s1
      have hkk3:=s3 k k ⟨by omega,by omega,hkC,.inl hkR⟩ hkk
      have hge:¬ ab (v.d p1 q1)<P:=λhh=>hl ⟨p1,q1,t1,by omega,t2,t3,s2,hh⟩
      have hpq:p1=k/\q1=k:=by
       refine Classical.byContradiction λhne=>?_
       have:=hkk3.2 (by omega)
       rw [k1,abP] at this
       exact hge this
      obtain ⟨hp1,hq1⟩:=hpq
      rw [hp1,hq1] at hcase
      have hPP:ab (v.d k k)=P:=by rw [k1,abP]
      rw [hPP] at hcase
      have hpv:pvS v k k k=swS v k k k:=by
       unfold pvS
       rw [if_neg]
       show ¬ swC (swR v.d k k) k k k k<0
       unfold swC swR sw
       simp only [if_true]
       omega
      rcases hcase with ⟨⟨l,m',d,r,s,f1⟩,⟨l',m'',d',r',s',f2⟩⟩ | ⟨w,hw,f1,f2,hsm2,hrc2,hprog⟩ | ⟨w,hw,f1,f2,hpos2,hsm2,hrc2,hcl2⟩
      ·left
       refine ⟨?_,?_⟩
       ·rcases round_both hR hC hF hk hkR hkC hv g with ⟨h0,_,_⟩ | ⟨p2,q2,hs1,hcase⟩
        ·exact absurd (h0 _ _ (by omega) hkR (by omega) hkC) hkk
        ·rcases hcase with ⟨⟨l,m',d,r,s,e1⟩,_⟩ | ⟨v,hv,_,e3,_⟩ | ⟨v,hv,_,e3,_⟩
         ·exact ⟨_,_,_,_,_,e1⟩
         ·rw [f2] at e3;simp at e3
         ·rw [f2] at e3;simp at e3
       ·show SBad (sd F pC (h+1+1) R C v k)
        rw [stepS,f2,Option.bind_some]
        exact sd_bad
      ·rcases hprog with hl2 | ⟨_,hz⟩
       ·have hx:sd F pC (h+2) R C v k=sd F pC (h+1) R C w k:=by
         show sd F pC (h+1+1) R C v k=_
         rw [stepS,f2,Option.bind_some]
        rcases rec_ w (g+1) (h+1) hw hl2 (by omega) (by omega) with hb | ⟨x,hx',hx0,hx1,hxr,hxc,g',h1,h2,h3⟩
        ·left
         refine ⟨?_,?_⟩
         ·show RBad (ir F (g+1+1) R C v false k)
          rw [f1];exact hb.1
         ·show SBad (sd F pC (h+2) R C v k)
          rw [hx];exact hb.2
        ·right
         refine ⟨x,hx',hx0,λa h1 h2=>(hx1 a h1 h2).trans ((hsm2 a h1 h2).trans (hsm a h1 h2)),(hrc.trans hrc2).trans hxr,hxc,g',by omega,?_,?_⟩
         ·exact f1.trans h2
         ·exact hx.trans h3
       ·exfalso
        have:=hz b k3 k4
        rw [hpv] at this
        have e:(swS v k k k).d k b=v.d k b:=by
         show swC (swR v.d k k) k k k b=_
         unfold swC swR sw
         grind
        rw [e] at this
        exact k5 (Int.tmod_eq_zero_of_dvd (Int.dvd_of_emod_eq_zero this))
      ·right
       refine ⟨w,hw,hpos2,λa h1 h2=>(hsm2 a h1 h2).trans (hsm a h1 h2),hrc.trans hrc2,hcl2,g+1,by omega,f1,?_⟩
       show sd F pC (h+1+1) R C v k=_
       rw [stepS,f2,Option.bind_some]
       exact done w h
  ·right
   refine ⟨v,hv,hpos,hsm,hrc,hcl,g+2,by omega,e1,?_⟩
   rw [stepS,e2,Option.bind_some]
   exact done v (h+1)
theorem run_both (hR:R<=1000) (hC:C<=1000) (hF:2000000000100<=F):∀ (n:Nat) (k:Int) (u:St) (g h:Nat),u.good R C->Stg R C k u->0<=k->(if (C:Int)<R then (C:Int) else R) - k=n->n * 2000000000100+1<=g->n+1<=h ->
  (RBad (ir F g R C u false k)/\SBad (sO F h R C u k)) \/
  (∃ v:St,v.good R C/\Same k u v/\((∀ A,Red R C A u->Red R C A v)/\Rch R C k u v)/\Dia R C v.d/\(∀ a:Int,k<=a->a<R->a<C->0<=v.d a a)/\ir F g R C u false k=some (mk R R v.l,mk R R v.m,mk R C v.d,mk C C v.r,mk C C v.s,false) /\
   sO F h R C u k=some ((R:Int),(C:Int),mk R C v.d,(R:Int),(R:Int),mk R R v.l,(R:Int),(R:Int),mk R R v.m,(C:Int),(C:Int),mk C C v.r,(C:Int),(C:Int),mk C C v.s,false)):=by
 intro n
 induction n with
 | zero=>
  intro k u g h hu hs hk hn hg hh
  obtain ⟨g,rfl⟩:∃ g',g=g'+1:=⟨g - 1,by omega⟩
  obtain ⟨h,rfl⟩:∃ g',h=g'+1:=⟨h - 1,by omega⟩
  right
  refine ⟨u,hu,λ_ _ _=>rfl,⟨λ_ h=>h,.refl _⟩,hs.dia hk (by by_cases c:(R:Int)<=k;exact .inl c;exact .inr (.inl (by split at hn <;> omega))),λa h1 h2 h3=>by split at hn <;> omega,?_,?_⟩
  ·unfold ir
   rw [aR.pl3,decide_eq_false (by omega)]
   rfl
  ·unfold sO
   rw [fq.pl29,decide_eq_false (by omega)]
   rfl
 | succ n ih=>
  intro k u g h hu hs hk hn hg hh
  obtain ⟨g,rfl⟩:∃ g',g=g'+1:=⟨g - 1,by omega⟩
  obtain ⟨h,rfl⟩:∃ g',h=g'+1:=⟨h - 1,by omega⟩
  have hkC:k<C:=by split at hn <;> omega
  have hkR:k<R:=by split at hn <;> omega
  have hS:sO F (h+1) R C u k=sd F (fq.pl29 F h) F R C u k:=by
   unfold sO sd
   rw [fq.pl29,decide_eq_true (by omega),cond_true]
  rw [hS]
  by_cases hz:∀ a b,k<=a->a<R->k<=b->b<C->u.d a b=0
  ·rcases round_both (F:=F) hR hC (by omega) hk hkR hkC hu g with ⟨h0,e1,e2⟩ | ⟨p1,q1,⟨⟨t1,t2,t3,t4⟩,s2,s3⟩,hcase⟩
   ·right
    refine ⟨u,hu,λ_ _ _=>rfl,⟨λ_ h=>h,.refl _⟩,hs.dia hk (.inr (.inr hz)),λa h1 h2 h3=>by rw [hz a a h1 h2 h1 h3];omega,e1,?_⟩
    obtain ⟨f,rfl⟩:∃ g',F=g'+2:=⟨F - 2,by omega⟩
    unfold sd
    rw [fq.pl938]
    simp only [Bool.not_false,cond_true]
    have e2:eN.p (f+2) R C (mk R C u.d) R (mk R R u.l) R R (mk R R u.m) C C (mk C C u.r) C (mk C C u.s) false k=_:=e2
    rw [e2,Option.bind_some]
    rw [fq.pl938]
    rfl
   ·exact absurd (hz p1 q1 t1 (by omega) t2 t3) s2
  ·obtain ⟨M,hM⟩:∃ M:Nat,M=1000000000000:=⟨_,rfl⟩
   have hl:HasLt R C k u ((M:Int)+1):=by
    refine Classical.byContradiction λhne=>hz λa b h1 h2 h3 h4=>?_
    refine Classical.byContradiction λh5=>hne ⟨a,b,h1,h2,h3,h4,h5,?_⟩
    have:=hu.1.ab (i:=a) (j:=b) (by omega) h2 (by omega) h4
    omega
   rcases inner_both (F:=F) (pC:=fq.pl29 F h) hR hC (by omega) hk hkR hkC M u (g+1) F hu hl (by omega) (by omega) with ⟨hb1,hb2⟩ | ⟨v,hv,hv0,hv1,hvr,hvc,g',h1,h2,h3⟩
   ·exact .inl ⟨hb1,hb2⟩
   ·rw [h2,h3]
    have q1:n * 2000000000100+1<=g':=by
     rw [Nat.succ_mul] at hg
     generalize n * 2000000000100=N at *
     omega
    have q2:(if (C:Int)<R then (C:Int) else R) - (k+1)=n:=by omega
    have q3:n+1<=h:=by omega
    rcases ih (k+1) v g' h hv ((hvr.stg hk hs).next hk hkR hkC hvc (by omega)) (by omega) q2 q1 q3 with hb | ⟨w,hw,hw1,hwr,hwd,hw2,e⟩
    ·exact .inl hb
    ·refine .inr ⟨w,hw,λa h1 h2=>(hw1 a h1 (by omega)).trans (hv1 a h1 h2),⟨λA h=>hwr.1 A (hvr.red hk h),hvr.trans (hwr.2.mono (by omega))⟩,hwd,λa h1 h2 h3=>?_,e⟩
     by_cases ea:a=k
     ·subst ea;rw [hw1 a hk (by omega)];omega
     ·exact hw2 a (by omega) h2 h3
end Go.Proofs.Ytokekkacliomkaa.AE
end
section
namespace Go.Proofs.Ytokekkacliomkaa.AE
open Go Go.AE Go.Proofs
variable {R C F:Nat} {A:Mat} {i j k:Int}
theorem ix_of {l:List Int} (h0:0<=i) (h:i<l.length):ix l i=some i.toNat:=by
 unfold ix;rw [if_pos ⟨h0,h⟩]
def InR (x a b:Int):Prop:=a<=x/\x<=b
instance (x a b:Int):Decidable (InR x a b):=by unfold InR;infer_instance
theorem Dn {x a b:Int}:fT.p F x a b=some (decide (InR x a b)):=by
 unfold fT.p InR
 by_cases h:x>=a
 ·rw [decide_eq_true h,cond_true];congr 1;simp only [ge_iff_le] at h;simp [h]
 ·rw [decide_eq_false h,cond_false];congr 1;simp only [ge_iff_le] at h;simp [h]
theorem Do {x a b:Int}:fE.p F x a b=some (decide (InR x a b)):=by
 unfold fE.p InR
 by_cases h:a<=x
 ·rw [decide_eq_true h,cond_true];congr 1;simp [h]
 ·rw [decide_eq_false h,cond_false];congr 1;simp [h]
end Go.Proofs.Ytokekkacliomkaa.AE
end
section
namespace Go.Proofs.Ytokekkacliomkaa.AE
open Go Go.AE Go.Proofs
variable {R C F:Nat} {A:Mat} {i j k:Int}
def okL (l:List Int) (i:Int):Prop:=∀ a:Nat,i<=a->a<l.length->InR (gt l a) (-1000000000000) 1000000000000
theorem specM_l {l:List Int} (hl:l.length<=2000000):∀ (n g:Nat) (i:Int),l.length - i=n->n<g->0<=i->∃ b,cw.pl29 F g l i=some b/\(b=true↔okL l i):=by
 intro n
 induction n with
 | zero=>
  intro g i hn hg hi
  obtain ⟨g,rfl⟩:∃ g',g=g'+1:=⟨g - 1,by omega⟩
  rw [cw.pl29,decide_eq_false (by omega),cond_false]
  exact ⟨_,rfl,⟨λ_ a h1 h2=>by omega,λ_=>rfl⟩⟩
 | succ n ih=>
  intro g i hn hg hi
  obtain ⟨g,rfl⟩:∃ g',g=g'+1:=⟨g - 1,by omega⟩
  rw [cw.pl29,decide_eq_true (by omega),cond_true,ix_of hi (by omega),Option.bind_some,Dn,Option.bind_some]
  by_cases h:InR (gt l i.toNat) (-1000000000000) 1000000000000
  ·rw [decide_eq_true h,Bool.not_true,cond_false,aM (by omega) (by omega)]
   obtain ⟨b,e,hb⟩:=ih g (i+1) (by omega) (by omega) (by omega)
   refine ⟨b,e,hb.trans ⟨λh1 a h3 h4=>?_,λh1 a h3 h4=>h1 a (by omega) h4⟩⟩
   by_cases e:a=i.toNat
   ·subst e;exact h
   ·exact h1 a (by omega) h4
  ·rw [decide_eq_false h,Bool.not_false,cond_true]
   exact ⟨_,rfl,⟨λh=>(by cases h),λh1=>absurd (h1 i.toNat (by omega) (by omega)) h⟩⟩
theorem implM_l {l:List Int} (hl:l.length<=2000000):∀ (n g:Nat) (i:Int),l.length - i=n->n<g->0<=i->∃ r:Int,cH.pl13 F g l l.length i=some r/\(¬ r>=0↔okL l i):=by
 intro n
 induction n with
 | zero=>
  intro g i hn hg hi
  obtain ⟨g,rfl⟩:∃ g',g=g'+1:=⟨g - 1,by omega⟩
  rw [cH.pl13,decide_eq_false (by omega),cond_false]
  exact ⟨_,rfl,⟨λ_ a h1 h2=>by omega,λ_=>by decide⟩⟩
 | succ n ih=>
  intro g i hn hg hi
  obtain ⟨g,rfl⟩:∃ g',g=g'+1:=⟨g - 1,by omega⟩
  unfold cH.pl13 fS.p
  rw [decide_eq_true (by omega),cond_true,ix_of hi (by omega),Option.bind_some,Do,Option.bind_some,Option.bind_some]
  by_cases h:InR (gt l i.toNat) (-1000000000000) 1000000000000
  ·rw [decide_eq_true h,Bool.not_true,cond_false,aM (by omega) (by omega)]
   obtain ⟨b,e,hb⟩:=ih g (i+1) (by omega) (by omega) (by omega)
   refine ⟨b,e,hb.trans ⟨λh1 a h3 h4=>?_,λh1 a h3 h4=>h1 a (by omega) h4⟩⟩
   by_cases e:a=i.toNat
   ·subst e;exact h
   ·exact h1 a (by omega) h4
  ·rw [decide_eq_false h,Bool.not_false,cond_true]
   exact ⟨_,rfl,⟨λh=>absurd hi h,λh1=>absurd (h1 i.toNat (by omega) (by omega)) h⟩⟩
theorem isMatrix_both {a b:Int} {l:List Int} (hF:5000000<F) (hl:l.length<=2000000) :
  ∃ v:Bool,cw.p F a b l=some v/\cO.p F a b l=some v/\(v=true->∃ (R C:Nat) (A:Mat),a=R/\b=C/\R<=48/\C<=48/\l=mk R C A/\Bd R C A):=by
 unfold cw.p cO.p
 rw [Dn,Dn,Do,Do]
 simp only [Option.bind_some]
 by_cases ha:InR a 0 48
 ·rw [decide_eq_true ha]
  simp only [Bool.not_true,cond_false,cond_true]
  by_cases hb:InR b 0 48
  ·rw [decide_eq_true hb]
   simp only [Bool.not_true,cond_false,cond_true]
   unfold ii.p
   rw [Option.bind_some]
   obtain ⟨ha0,ha1⟩:=ha
   obtain ⟨hb0,hb1⟩:=hb
   obtain ⟨R,rfl⟩:=Int.eq_ofNat_of_zero_le ha0
   obtain ⟨C,rfl⟩:=Int.eq_ofNat_of_zero_le hb0
   have hm:R * C<=48 * 48:=Nat.mul_le_mul (by omega) (by omega)
   rw [<- Int.natCast_mul,aM (by omega) (by omega)]
   by_cases h:(l.length:Int)=((R * C:Nat):Int)
   ·rw [h,bne_self_eq_false,cond_false,beq_self_eq_true,cond_true]
    unfold f_.p cH.p
    obtain ⟨v,e1,h1⟩:=specM_l (F:=F) hl l.length F 0 (by omega) (by omega) (by omega)
    obtain ⟨r,e2,h2⟩:=implM_l (F:=F) hl l.length F 0 (by omega) (by omega) (by omega)
    rw [e1,e2,Option.bind_some,Option.bind_some]
    have:(!decide (r>=0))=v:=by
     rw [Bool.eq_iff_iff,h1,<-h2];simp
    rw [this]
    refine ⟨v,rfl,rfl,λhv=>⟨R,C,_,rfl,rfl,by omega,by omega,OL (by omega),?_⟩⟩
    intro i j hi0 hi hj0 hj
    obtain ⟨x,y,rfl,rfl,g1,g2,g3,g4,g5⟩:=zK hi0 hi hj0 hj
    show InR (gt l ((x:Int) * C+y).toNat) (-1000000000000) 1000000000000
    rw [g3]
    exact h1.1 hv _ (by omega) (by omega)
   ·rw [show ((l.length:Int) != ((R * C:Nat):Int))=true from bne_iff_ne.2 h,show ((l.length:Int)==((R * C:Nat):Int))=false from beq_eq_false_iff_ne.2 h]
    exact ⟨false,rfl,rfl,λh=>(by cases h)⟩
  ·rw [decide_eq_false hb]
   exact ⟨false,rfl,rfl,λh=>(by cases h)⟩
 ·rw [decide_eq_false ha]
  exact ⟨false,rfl,rfl,λh=>(by cases h)⟩
end Go.Proofs.Ytokekkacliomkaa.AE
end
section
namespace Go.Proofs.Ytokekkacliomkaa.AE
open Go Go.AE Go.Proofs
variable {F n:Nat}
abbrev DS:=Int->Int->List Int->Int->Int->Int->Option Int
abbrev DI:=Int->Int->List Int->Int->Int->Int->Int->Option (Int×List Int)
abbrev DS2:=Int->Int->List Int->Int->Int->Int->Int->Option Int
abbrev DI2:=Int->Int->List Int->Int->Int->Int->Int->Int->Int->Option (Int×List Int)
theorem pivot_v {C:DS} {C':DI} {M:Mat} (hn:n<=48) {s l k:Int} (k0:0<=k) (hk:k<n):∀ (d g:Nat) (p:Int),n - p=d->d<g->k<=p->p<=n->(∀ i:Int,k<=i->i<p->M i k=0) ->
  ∃ p':Int,k<=p'/\p'<=n/\(∀ i:Int,k<=i->i<p'->M i k=0)/\(p'<n->M p' k≠0)/\aj.pl4010 F C g n n (mk n n M) s l k p=aj.pj17 F C n n (mk n n M) s l k p' /\
   ag.pl3766 F C' g n n (mk n n M) s l n k k p=ag.pj21 F C' n n (mk n n M) s l k p' n k:=by
 intro d
 induction d with
 | zero=>
  intro g p hd hg hp hp2 hz
  obtain ⟨g,rfl⟩:∃ g',g=g'+1:=⟨g - 1,by omega⟩
  refine ⟨p,hp,hp2,hz,λq=>by omega,?_,?_⟩
  ·rw [aj.pl4010,decide_eq_false (by omega),cond_false]
  ·rw [ag.pl3766,decide_eq_false (by omega),cond_false]
 | succ d ih=>
  intro g p hd hg hp hp2 hz
  obtain ⟨g,rfl⟩:∃ g',g=g'+1:=⟨g - 1,by omega⟩
  rw [aj.pl4010,decide_eq_true (by omega),cond_true,at_mk (by omega) (by omega) (by omega) (by omega) k0 hk,Option.bind_some,ag.pl3766,decide_eq_true (by omega),cond_true,eY (by omega) (by omega) (by omega) (by omega) k0 hk,Option.bind_some,fJ (by omega) (by omega) k0 hk,aM (x:=p+1) (by omega) (by omega)]
  by_cases c:M p k=0
  ·rw [c,beq_self_eq_true,cond_true,cond_true]
   exact ih g (p+1) (by omega) (by omega) (by omega) (by omega) λi a b=>by
    by_cases e:i=p
    ·rw [e];exact c
    ·exact hz i a (by omega)
  ·rw [show (M p k==0)=false from beq_eq_false_iff_ne.mpr c,cond_false,cond_false]
   exact ⟨p,hp,hp2,hz,λ_=>c,rfl,rfl⟩
theorem swap_v {C':DI} (hn:n<=48) {s l k p:Int} (k0:0<=k) (hk:k<n) (p0:0<=p) (hp:p<n):∀ (d g:Nat) (A:Mat) (j:Int),n - j=d->d<g->0<=j ->
  ag.pl241131 F C' g n n (mk n n A) s l n k k p n j=ag.pj19 F C' n n (mk n n λa b=>if j<=b then A (sw p k a) b else A a b) s l k n k:=by
 intro d
 induction d with
 | zero=>
  intro g A j hd hg hj
  obtain ⟨g,rfl⟩:∃ g',g=g'+1:=⟨g - 1,by omega⟩
  rw [ag.pl241131,decide_eq_false (by omega),cond_false]
  congr 1
  apply cX
  intro a b _ _ _ _
  rw [if_neg (by omega)]
 | succ d ih=>
  intro g A j hd hg hj
  obtain ⟨g,rfl⟩:∃ g',g=g'+1:=⟨g - 1,by omega⟩
  rw [ag.pl241131,decide_eq_true (by omega),cond_true]
  simp (disch:=omega) only [eY,fJ,jt,Option.bind_some,aM]
  rw [ih _ _ _ (by omega) (by omega) (by omega)]
  congr 1
  apply cX
  intro a b _ _ _ _
  unfold upd sw
  grind
def rowM (n:Nat) (M W:Mat) (k i j:Int):Mat:=λa b=>if k<a/\k<b/\b<n/\(a<i\/a=i/\b<j) then W a b else M a b
abbrev In9 (x:Int):Prop:=-1000000000<=x/\x<=1000000000
theorem cell_v {a b c d l w:Int} (ha:In9 a) (hb:In9 b) (hc:In9 c) (hd:In9 d) (hw:In9 w) (hl:l≠0) (e:a * b - c * d=l * w):IntKind.i64.wrap (Int.tdiv (IntKind.i64.wrap (IntKind.i64.wrap (a * b) - IntKind.i64.wrap (c * d))) l)=w:=by
 have h1:=mul_in ha hb
 have h2:=mul_in hc hd
 rw [aM (x:=a * b) (by omega) (by omega),aM (x:=c * d) (by omega) (by omega),aM (x:=a * b - c * d) (by omega) (by omega),e,Int.mul_tdiv_cancel_left _ hl,aM (by omega) (by omega)]
section
variable {M W:Mat} {s l k:Int} (hn:n<=48) (k0:0<=k) (hl:l≠0)
 (hM:∀ a b:Int,k<=a->a<n->k<=b->b<n->In9 (M a b)) (hW:∀ a b:Int,k<a->a<n->k<b->b<n->In9 (W a b))
 (hE:∀ a b:Int,k<a->a<n->k<b->b<n->M a b * M k k - M a k * M k b=l * W a b)
include hn k0 hl hM hW hE
theorem row_v {C:DS} {C':DI} {C2:DS2} {C2':DI2} {i:Int} (hi:k<i) (hi2:i<n):∀ (d g:Nat) (j:Int),n - j=d->d<g->k<j ->
  aj.pl1027029 F C C2 g n n (mk n n (rowM n M W k i j)) s l k i j=C2 n n (mk n n (rowM n M W k (i+1) (k+1))) s l k (i+1) /\
   ag.pl964565 F C' C2' g n n (mk n n (rowM n M W k i j)) s l n k k i j=C2' n n (mk n n (rowM n M W k (i+1) (k+1))) s l n k k (i+1):=by
 intro d
 induction d with
 | zero=>
  intro g j hd hg hj
  obtain ⟨g,rfl⟩:∃ g',g=g'+1:=⟨g - 1,by omega⟩
  have e:rowM n M W k i j=rowM n M W k (i+1) (k+1):=by
   funext a b
   unfold rowM
   by_cases h:k<a/\k<b/\b<n/\(a<i\/a=i/\b<j)
   ·rw [if_pos h,if_pos (by omega)]
   ·rw [if_neg h,if_neg (by omega)]
  rw [e,aj.pl1027029,decide_eq_false (by omega),cond_false,ag.pl964565,decide_eq_false (by omega),cond_false]
  unfold aj.pj15 aj.pj14 ag.pj17 ag.pj16
  rw [aM (x:=i+1) (by omega) (by omega)]
  exact ⟨rfl,rfl⟩
 | succ d ih=>
  intro g j hd hg hj
  obtain ⟨g,rfl⟩:∃ g',g=g'+1:=⟨g - 1,by omega⟩
  have r1:rowM n M W k i j i j=M i j:=if_neg (by omega)
  have r2:rowM n M W k i j k k=M k k:=if_neg (by omega)
  have r3:rowM n M W k i j i k=M i k:=if_neg (by omega)
  have r4:rowM n M W k i j k j=M k j:=if_neg (by omega)
  have c:=cell_v (hM i j (by omega) hi2 (by omega) (by omega)) (hM k k (by omega) (by omega) (by omega) (by omega)) (hM i k (by omega) hi2 (by omega) (by omega)) (hM k j (by omega) (by omega) (by omega) (by omega)) (hW i j hi hi2 hj (by omega)) hl (hE i j hi hi2 hj (by omega))
  have u:upd (rowM n M W k i j) i j (W i j)=rowM n M W k i (j+1):=by
   funext a b
   unfold upd rowM
   by_cases h:a=i/\b=j
   ·rw [if_pos h,if_pos (by omega),h.1,h.2]
   ·rw [if_neg h]
    by_cases h2:k<a/\k<b/\b<n/\(a<i\/a=i/\b<j)
    ·rw [if_pos h2,if_pos (by omega)]
    ·rw [if_neg h2,if_neg (by omega)]
  have ihh:=ih g (j+1) (by omega) (by omega) (by omega)
  rw [aj.pl1027029,decide_eq_true (by omega),cond_true,ag.pl964565,decide_eq_true (by omega),cond_true,aM (x:=j+1) (by omega) (by omega)]
  rw [at_mk (i:=i) (j:=j) (by omega) (by omega) (by omega) (by omega) (by omega) (by omega),Option.bind_some,at_mk (i:=k) (j:=k) (by omega) (by omega) (by omega) (by omega) (by omega) (by omega),Option.bind_some,
   at_mk (i:=i) (j:=k) (by omega) (by omega) (by omega) (by omega) (by omega) (by omega),Option.bind_some,at_mk (i:=k) (j:=j) (by omega) (by omega) (by omega) (by omega) (by omega) (by omega),Option.bind_some,if_neg hl,
   eY (i:=i) (j:=j) (by omega) (by omega) (by omega) (by omega) (by omega) (by omega),Option.bind_some,Option.bind_some,Option.bind_some,Option.bind_some,
   eY (i:=k) (j:=k) (by omega) (by omega) (by omega) (by omega) (by omega) (by omega),Option.bind_some,eY (i:=i) (j:=k) (by omega) (by omega) (by omega) (by omega) (by omega) (by omega),Option.bind_some,
   eY (i:=k) (j:=j) (by omega) (by omega) (by omega) (by omega) (by omega) (by omega),Option.bind_some,if_neg hl,Option.bind_some,
   fJ (i:=i) (j:=j) (by omega) (by omega) (by omega) (by omega),fJ (i:=k) (j:=k) (by omega) (by omega) (by omega) (by omega),fJ (i:=i) (j:=k) (by omega) (by omega) (by omega) (by omega),fJ (i:=k) (j:=j) (by omega) (by omega) (by omega) (by omega),
   r1,r2,r3,r4,c,jt (by omega) (by omega) (by omega) (by omega),u]
  exact ihh
theorem rows_v {C:DS} {C':DI} (hk:k<n) (hF:1000<F):∀ (d g:Nat) (i:Int),n - i=d->d<g->k<i->i<=n ->
  aj.pl64189 F C g n n (mk n n (rowM n M W k i (k+1))) s l k i=C n n (mk n n (rowM n M W k n (k+1))) s (M k k) (k+1) /\
   ag.pl60285 F C' g n n (mk n n (rowM n M W k i (k+1))) s l n k k i=C' n n (mk n n (rowM n M W k n (k+1))) s (M k k) n (k+1):=by
 intro d
 induction d with
 | zero=>
  intro g i hd hg hi hi2
  obtain ⟨g,rfl⟩:∃ g',g=g'+1:=⟨g - 1,by omega⟩
  obtain rfl:i=n:=by omega
  have r2:rowM n M W k n (k+1) k k=M k k:=if_neg (by omega)
  rw [aj.pl64189,decide_eq_false (by omega),cond_false,ag.pl60285,decide_eq_false (by omega),cond_false]
  unfold aj.pj13 aj.pj12 ag.pj15 ag.pj14
  rw [at_mk (by omega) (by omega) k0 hk k0 hk,Option.bind_some,eY (by omega) (by omega) k0 hk k0 hk,Option.bind_some,fJ k0 hk k0 hk,r2,aM (x:=k+1) (by omega) (by omega)]
  exact ⟨rfl,rfl⟩
 | succ d ih=>
  intro g i hd hg hi hi2
  obtain ⟨g,rfl⟩:∃ g',g=g'+1:=⟨g - 1,by omega⟩
  obtain ⟨a1,a2⟩:=row_v (F:=F) (s:=s) hn k0 hl hM hW hE (C:=C) (C':=C') (C2:=aj.pl64189 F C g) (C2':=ag.pl60285 F C' g) hi (by omega) (n - (k+1)).toNat F (k+1) (by omega) (by omega) (by omega)
  rw [aj.pl64189,decide_eq_true (by omega),cond_true,ag.pl60285,decide_eq_true (by omega),cond_true,aM (x:=k+1) (by omega) (by omega),a1,a2]
  exact ih g (i+1) (by omega) (by omega) (by omega) (by omega)
end
theorem in9 {x:Int} (h:ab0 x<=1000000000):In9 x:=by unfold ab0 at h;split at h <;> constructor <;> omega
theorem det_v (hn:n<=48) (hF:1000<F) {A0:Mat}:∀ (d g k:Nat) (B M:Mat) (s:Int),n - k=d->d<g->k<=n->(s=1\/s=-1)->det n A0=s * det n B->Pi n (mx n B)<=1000000000->det k B≠0 ->
  (∀ i j:Int,k<=i->i<n->k<=j->j<n->M i j=bm B k i j) ->
  aj.pl125 F g n n (mk n n M) s (det k B) k=some (det n A0)/\∃ z,ag.pl29 F g n n (mk n n M) s (det k B) n k=some (det n A0,z):=by
 intro d
 induction d with
 | zero=>
  intro g k B M s hd hg hk hs h0 hV hl hM
  obtain ⟨g,rfl⟩:∃ g',g=g'+1:=⟨g - 1,by omega⟩
  obtain rfl:k=n:=by omega
  have hb:=in9 (Int.le_trans det_bound hV)
  rw [aj.pl125,decide_eq_false (by omega),cond_false,ag.pl29,decide_eq_false (by omega),cond_false]
  unfold aj.pj9 ag.pj11
  have e:IntKind.i64.wrap (s * det k B)=det k A0:=by
   rw [h0]
   rcases hs with e | e <;> subst e <;> exact aM (by omega) (by omega)
  rw [e]
  exact ⟨rfl,_,rfl⟩
 | succ d ih=>
  intro g k B M s hd hg hk hs h0 hV hl hM
  obtain ⟨g,rfl⟩:∃ g',g=g'+1:=⟨g - 1,by omega⟩
  have hk':k<n:=by omega
  -- the rows below,whatever the pivot's row was
  have go:∀ (B M:Mat) (s:Int),(s=1\/s=-1)->det n A0=s * det n B->Pi n (mx n B)<=1000000000->det k B≠0 ->
    (∀ i j:Int,k<=i->i<n->k<=j->j<n->M i j=bm B k i j)->M k k≠0 ->
    aj.pl64189 F (aj.pl125 F g) F n n (mk n n M) s (det k B) k (k+1)=some (det n A0)/\∃ z,ag.pl60285 F (ag.pl29 F g) F n n (mk n n M) s (det k B) n k k (k+1)=some (det n A0,z):=by
   intro B M s hs h0 hV hl hM hp
   have e0:rowM n M (bm B (k+1)) k ((k:Int)+1) ((k:Int)+1)=M:=by
    funext a b;exact if_neg (by omega)
   have hMk:M k k=det (k+1) B:=by rw [hM k k (by omega) (by omega) (by omega) (by omega),bm_kk]
   obtain ⟨a1,a2⟩:=rows_v (F:=F) (M:=M) (W:=bm B (k+1)) (s:=s) (l:=det k B) (k:=k) hn (by omega) hl
    (λa b h1 h2 h3 h4=>by rw [hM a b h1 h2 h3 h4];exact in9 (Int.le_trans (bm_bound h1 h2 h3 h4) hV))
    (λa b h1 h2 h3 h4=>in9 (Int.le_trans (bm_bound (by omega) h2 (by omega) h4) hV))
    (λa b h1 h2 h3 h4=>by
     rw [hM a b (by omega) h2 (by omega) h4,hM k k (by omega) (by omega) (by omega) (by omega),hM a k (by omega) h2 (by omega) (by omega),hM k b (by omega) (by omega) (by omega) h4]
     exact (sylv h1 h3 hl).symm)
    (C:=aj.pl125 F g) (C':=ag.pl29 F g) (by omega) hF (n - (k+1)) F ((k:Int)+1) (by omega) (by omega) (by omega) (by omega)
   rw [e0] at a1 a2
   rw [a1,a2,hMk]
   exact ih g (k+1) B _ s (by omega) (by omega) (by omega) hs h0 hV (by rw [<- hMk];exact hp) λi j h1 h2 h3 h4=>if_pos (by omega)
  obtain ⟨p,p1,p2,p3,p4,p5,p6⟩:=pivot_v (F:=F) (C:=aj.pl125 F g) (C':=ag.pl29 F g) (M:=M) hn (s:=s) (l:=det k B) (k:=k) (by omega) (by omega) (n - k) F k (by omega) (by omega) (by omega) (by omega) λi a b=>by omega
  rw [aj.pl125,decide_eq_true (by omega),cond_true,p5,ag.pl29,decide_eq_true (by omega),cond_true,p6]
  unfold aj.pj17 ag.pj21
  by_cases c:p=n
  ·rw [show (p==(n:Int))=true from beq_iff_eq.mpr c,cond_true,cond_true]
   have z:det n B=0:=no_pivot hk' hl λi h1 h2=>by
    rw [<- hM i k h1 h2 (by omega) (by omega)];exact p3 i h1 (by omega)
   rw [h0,z,Int.mul_zero]
   exact ⟨rfl,_,rfl⟩
  ·rw [show (p==(n:Int))=false from beq_eq_false_iff_ne.mpr c,cond_false,cond_false]
   have hp:=p4 (by omega)
   by_cases c2:p=k
   ·rw [show (p != (k:Int))=false by simp;omega,cond_false,cond_false]
    unfold aj.pj16 ag.pj20
    rw [aM (x:=(k:Int)+1) (by omega) (by omega)]
    exact go B M s hs h0 hV hl hM (by rw [<- c2] at hp ⊢;exact hp)
   ·rw [show (p != (k:Int))=true by simp;omega,cond_true,cond_true]
    rw [zo (by omega) (by omega) (by omega) (by omega) (by omega) (by omega) (by omega),Option.bind_some]
    have sv:=swap_v (F:=F) (C':=ag.pl29 F g) hn (s:=IntKind.i64.wrap (0 - s)) (l:=det k B) (k:=k) (p:=p) (by omega) (by omega) (by omega) (by omega) n F M 0 (by omega) (by omega) (by omega)
    have e1:(mk n n λa b=>if (0:Int)<=b then M (sw p k a) b else M a b)=mk n n (swR M p k):=cX λa b _ _ h _=>if_pos h
    rw [sv,e1]
    unfold aj.pj16 ag.pj19 ag.pj18
    rw [aM (x:=(k:Int)+1) (by omega) (by omega)]
    have es:IntKind.i64.wrap (0 - s)=-s:=by rcases hs with e | e <;> subst e <;> rfl
    rw [es,<-det_lo_sw (B:=B) (k:=k) p1]
    refine go (swR B p k) (swR M p k) (-s) (by omega) ?_ ?_ (by rw [det_lo_sw p1];exact hl) (λi j h1 h2 h3 h4=>?_) ?_
    ·rw [det_ml.swp B p k ⟨by omega,by omega⟩ ⟨by omega,by omega⟩ c2,Int.neg_mul_neg];exact h0
    ·rw [vol_sw ⟨by omega,by omega⟩ ⟨by omega,by omega⟩];exact hV
    ·have q:=sw_hi (N:=n) p1 (by omega) (Int.le_refl (k:Int)) (by omega) h1 h2
     rw [bm_sw p1 h1]
     exact hM _ j q.1 q.2 h3 h4
    ·show M (sw p k k) k≠0
     have:sw p k k=p:=by unfold sw;rw [if_neg (by omega),if_pos rfl]
     rw [this];exact hp
theorem det_s (hn:n<=48) (hF:1000<F) {A:Mat} (hV:Pi n (mx n A)<=1000000000):aj.p F n (mk n n A)=some (det n A)/\∃ z,ag.p F n n (mk n n A)=some (det n A,z):=by
 have hm:n * n<=48 * 48:=Nat.mul_le_mul hn hn
 obtain ⟨h1,h2⟩:=det_v (F:=F) (A0:=A) hn hF n F 0 A A 1 (by omega) (by omega) (by omega) (.inl rfl) (by rw [Int.one_mul]) hV (by show (1:Int)≠0;omega) λi j _ _ _ _=>bm_zero.symm
 refine ⟨?_,h2⟩
 unfold aj.p
 have:apn ([]:List Int) (mk n n A)=some (mk n n A):=by unfold apn;rw [if_pos (by rw [ig];simp;omega)];rfl
 rw [this,Option.bind_some]
 exact h1
end Go.Proofs.Ytokekkacliomkaa.AE
end
section
namespace Go.Proofs.Ytokekkacliomkaa.AE
open Go Go.AE Go.Proofs
variable {R C F:Nat} {A:Mat} {i j k:Int}
theorem idM_bd {n:Nat}:Bd n n idM:=by
 intro a b _ _ _ _
 unfold idM;split <;> decide
theorem one_l {n:Nat} (hn:n<=1000):∀ (m g:Nat) (A:Mat) (i:Int),n - i=m->m<g->0<=i->(∀ a b:Int,0<=a->a<n->0<=b->b<n->A a b=if a<i then idM a b else 0) ->
  lx.pl29 F g n n n (mk n n A) i=some ((n:Int),(n:Int),mk n n idM):=by
 intro m
 induction m with
 | zero=>
  intro g A i hm hg hi hA
  obtain ⟨g,rfl⟩:∃ g',g=g'+1:=⟨g - 1,by omega⟩
  rw [lx.pl29,decide_eq_false (by omega),cond_false]
  rw [cX (A:=A) (B:=idM) (λa b h1 h2 h3 h4=>by rw [hA a b h1 h2 h3 h4,if_pos (by omega)])]
 | succ m ih=>
  intro g A i hm hg hi hA
  obtain ⟨g,rfl⟩:∃ g',g=g'+1:=⟨g - 1,by omega⟩
  rw [lx.pl29,decide_eq_true (by omega),cond_true]
  simp (disch:=omega) only [eY,jt,Option.bind_some,aM]
  refine ih g _ (i+1) (by omega) (by omega) (by omega) λa b h1 h2 h3 h4=>?_
  have:=hA a b h1 h2 h3 h4
  unfold upd idM at *
  grind
theorem mk_zero (n m:Nat):List.replicate (n * m) (0:Int)=mk n m λ_ _=>0:=by
 apply List.ext_getElem
 ·rw [ig,List.length_replicate]
 ·intro a h1 h2
  simp [mk]
theorem Hf {n:Nat} (hn:n<=1000) (hF:5000000<F):lx.p F n=some ((n:Int),(n:Int),mk n n idM):=by
 have hm:n * n<=1000 * 1000:=Nat.mul_le_mul hn hn
 unfold lx.p fZ.p mkn
 rw [<- Int.natCast_mul,aM (by omega) (by omega),if_pos (by omega),Option.bind_some,Option.bind_some,Int.toNat_natCast,mk_zero]
 exact one_l hn n F _ 0 (by omega) (by omega) (by omega) λa b h1 _ _ _=>by rw [if_neg (by omega)]
theorem id_l {n:Nat} (hn:n<=1000):∀ (m g:Nat) (A:Mat) (i:Int),n - i=m->m<g->0<=i->(∀ a b:Int,0<=a->a<n->0<=b->b<n->A a b=if a<i then idM a b else 0) ->
  cn.pl29 F g n n (mk n n A) n i=some ((n:Int),(n:Int),mk n n idM):=by
 intro m
 induction m with
 | zero=>
  intro g A i hm hg hi hA
  obtain ⟨g,rfl⟩:∃ g',g=g'+1:=⟨g - 1,by omega⟩
  rw [cn.pl29,decide_eq_false (by omega),cond_false]
  rw [cX (A:=A) (B:=idM) (λa b h1 h2 h3 h4=>by rw [hA a b h1 h2 h3 h4,if_pos (by omega)])]
 | succ m ih=>
  intro g A i hm hg hi hA
  obtain ⟨g,rfl⟩:∃ g',g=g'+1:=⟨g - 1,by omega⟩
  rw [cn.pl29,decide_eq_true (by omega),cond_true]
  simp (disch:=omega) only [eY,jt,Option.bind_some,aM]
  refine ih g _ (i+1) (by omega) (by omega) (by omega) λa b h1 h2 h3 h4=>?_
  have:=hA a b h1 h2 h3 h4
  unfold upd idM at *
  grind
theorem Hg {n:Nat} (hn:n<=1000) (hF:5000000<F):cn.p F n=some ((n:Int),(n:Int),mk n n idM):=by
 have hm:n * n<=1000 * 1000:=Nat.mul_le_mul hn hn
 unfold cn.p eU.p mkn
 rw [<- Int.natCast_mul,aM (by omega) (by omega),if_pos (by omega),Option.bind_some,Option.bind_some,Int.toNat_natCast,mk_zero]
 exact id_l hn n F _ 0 (by omega) (by omega) (by omega) λa b h1 _ _ _=>by rw [if_neg (by omega)]
theorem smith_both (hR:R<=48) (hC:C<=48) (hF:1000000000000000<=F) (hb:Bd R C A) :
  (fz.p F R C (mk R C A)=some (0,0,([]:List Int),0,0,([]:List Int),0,0,([]:List Int),0,0,([]:List Int),0,0,([]:List Int),3)/\SBad (fq.p F R C (mk R C A))) \/
  (∃ v:St,v.good R C/\(Red R C A v/\Rch R C 0 ⟨A,idM,idM,idM,idM⟩ v)/\Dia R C v.d/\(∀ a:Int,0<=a->a<R->a<C->0<=v.d a a)/\fz.p F R C (mk R C A)=some ((R:Int),(R:Int),mk R R v.l,(R:Int),(R:Int),mk R R v.m,(R:Int),(C:Int),mk R C v.d,(C:Int),(C:Int),mk C C v.r,(C:Int),(C:Int),mk C C v.s,0) /\
   fq.p F R C (mk R C A)=some ((R:Int),(C:Int),mk R C v.d,(R:Int),(R:Int),mk R R v.l,(R:Int),(R:Int),mk R R v.m,(C:Int),(C:Int),mk C C v.r,(C:Int),(C:Int),mk C C v.s,false)):=by
 have hm:R * C<=48 * 48:=Nat.mul_le_mul hR hC
 unfold fz.p fq.p e_.p ij.p apn aR.p
 rw [if_pos (by rw [ig];simp;omega),List.nil_append,Hf (by omega) (by omega),Hf (by omega) (by omega),Hg (by omega) (by omega),Hg (by omega) (by omega)]
 simp only [Option.bind_some]
 obtain ⟨n,hn⟩:∃ n:Nat,(if (C:Int)<R then (C:Int) else R) - 0=n:=⟨(if (C:Int)<R then (C:Int) else R).toNat,by split <;> omega⟩
 have hn48:n<=48:=by split at hn <;> omega
 have q1:n * 2000000000100+1<=F:=by omega
 rcases run_both (F:=F) (R:=R) (C:=C) (by omega) (by omega) (by omega) n 0 ⟨A,idM,idM,idM,idM⟩ F F ⟨hb,idM_bd,idM_bd,idM_bd,idM_bd⟩ Stg.zero (by omega) hn q1 (by omega) with ⟨⟨l,m,d,r,s,e1⟩,e2⟩ | ⟨v,hv,_,hre,hdi,hv2,e1,e2⟩
 ·left
  have e1:aR.pl3 F F R (mk R R idM) R R (mk R R idM) R C (mk R C A) C C (mk C C idM) C (mk C C idM) false 0=_:=e1
  rw [e1]
  exact ⟨rfl,e2⟩
 ·right
  have e1:aR.pl3 F F R (mk R R idM) R R (mk R R idM) R C (mk R C A) C C (mk C C idM) C (mk C C idM) false 0=_:=e1
  rw [e1]
  exact ⟨v,hv,⟨hre.1 A Red.start,hre.2⟩,hdi,λa h1 h2 h3=>hv2 a h1 h2 h3,rfl,e2⟩
end Go.Proofs.Ytokekkacliomkaa.AE
end
section
namespace Go.Proofs.Ytokekkacliomkaa.AE
open Go Go.AE Go.Proofs
variable {F n:Nat} {A:Mat}
theorem rs_le (hb:Bd n n A) {i:Int} (i0:0<=i) (i1:i<n):∀ m:Nat,m<=n->0<=Sg m (λj=>ab0 (A i j))/\Sg m (λj=>ab0 (A i j))<=1000000000000 * m
 | 0,_=>by show (0:Int)<=0/\(0:Int)<=_;omega
 | m+1,h=>by
  have h1:=rs_le hb i0 i1 m (by omega)
  have h2:=hb i m i0 i1 (by omega) (by omega)
  have h3:0<=ab0 (A i m)/\ab0 (A i m)<=1000000000000:=by unfold ab0;split <;> omega
  show 0<=Sg m (λj=>ab0 (A i j))+ab0 (A i m)/\Sg m (λj=>ab0 (A i j))+ab0 (A i m)<=1000000000000 * ((m+1:Nat):Int)
  omega
theorem abs_i {x:Int} (h:-1000000000000<=x/\x<=1000000000000):cv.p F x=some (ab0 x):=by
 unfold cv.p ab0
 by_cases c:x<0
 ·rw [decide_eq_true c,cond_true,if_pos c,aM (by omega) (by omega),show 0 - x=-x by omega]
 ·rw [decide_eq_false c,cond_false,if_neg c]
theorem abs_s {x:Int} (h:-1000000000000<=x/\x<=1000000000000):eT.p F x=some (ab0 x):=by
 unfold eT.p ab0
 rw [aM (by omega) (by omega)]
 congr 1
 split <;> split <;> omega
theorem vrow_i (hn:n<=48) (hb:Bd n n A) {pC} {w x y i:Int} {l r:List Int} (i0:0<=i) (i1:i<n) (hr:r.length=n) (hg:∀ m:Nat,m<n->gt r m=A i m):∀ (d g m:Nat),n - m=d->d<g->m<=n ->
  bh.pl7533 F pC g w l x y i (Sg m λj=>ab0 (A i j)) r n m=bh.pj4 F pC w l x (rsum n A i) y i:=by
 intro d
 induction d with
 | zero=>
  intro g m hd hgg hm
  obtain ⟨g,rfl⟩:∃ g',g=g'+1:=⟨g - 1,by omega⟩
  obtain rfl:m=n:=by omega
  rw [bh.pl7533,decide_eq_false (by omega),cond_false];rfl
 | succ d ih=>
  intro g m hd hgg hm
  obtain ⟨g,rfl⟩:∃ g',g=g'+1:=⟨g - 1,by omega⟩
  have h1:=rs_le hb i0 i1 m hm
  have h2:=hb i m i0 i1 (by omega) (by omega)
  have h3:0<=ab0 (A i m)/\ab0 (A i m)<=1000000000000:=by unfold ab0;split <;> omega
  have hix:ix r (m:Int)=some m:=by unfold ix;rw [if_pos (by omega)];congr 1
  rw [bh.pl7533,decide_eq_true (by omega),cond_true,hix,Option.bind_some,hg m (by omega),abs_i h2,Option.bind_some,aM (x:=(m:Int)+1) (by omega) (by omega),aM (by omega) (by omega)]
  exact ih g (m+1) (by omega) (by omega) (by omega)
theorem vol_i (hn:n<=48) (hF:1000<F) (hb:Bd n n A):∀ (d g i:Nat),n - i=d->d<g->i<=n->Pi i (mx n A)<=1000000000 ->
  ∃ v,bh.pl29 F g n (mk n n A) (Pi i (mx n A)) n i=some v/\(v<=1000000000↔Pi n (mx n A)<=1000000000):=by
 intro d
 induction d with
 | zero=>
  intro g i hd hgg hi hp
  obtain ⟨g,rfl⟩:∃ g',g=g'+1:=⟨g - 1,by omega⟩
  obtain rfl:i=n:=by omega
  rw [bh.pl29,decide_eq_false (by omega),cond_false]
  exact ⟨_,rfl,Iff.rfl⟩
 | succ d ih=>
  intro g i hd hgg hi hp
  obtain ⟨g,rfl⟩:∃ g',g=g'+1:=⟨g - 1,by omega⟩
  obtain ⟨r,e1,e2,e3⟩:=cutf_row (F:=F) (A:=A) (R:=n) (C:=n) (k:=(i:Int)) (by omega) (by omega) (by omega) (by omega)
  have hv:=vrow_i (F:=F) (pC:=bh.pl29 F g) (w:=(n:Int)) (x:=Pi i (mx n A)) (y:=(n:Int)) (l:=mk n n A) hn hb (i:=(i:Int)) (by omega) (by omega) e2 e3 n F 0 (by omega) (by omega) (by omega)
  rw [bh.pl29,decide_eq_true (by omega),cond_true,e1,Option.bind_some,e2]
  have h0:(Sg 0 λj=>ab0 (A i j))=0:=rfl
  rw [h0] at hv
  rw [show ((0:Nat):Int)=0 from rfl] at hv
  rw [hv]
  have h1:=rs_le hb (i:=(i:Int)) (by omega) (by omega) n (Nat.le_refl n)
  have hp1:=Pi_pos (f:=mx n A) (λx=>(mx_le x).2) i
  have hm:=mx_le (n:=n) (B:=A) i
  unfold bh.pj4
  obtain ⟨t,ht⟩:∃ t,t=(if 1>(if 1000000001<rsum n A i then 1000000001 else rsum n A i) then 1 else (if 1000000001<rsum n A i then 1000000001 else rsum n A i)):=⟨_,rfl⟩
  rw [<- ht]
  have ht1:1<=t/\t<=1000000001:=by rw [ht];split <;> (try split) <;> omega
  have hpt:1 * 1<=Pi i (mx n A) * t/\Pi i (mx n A) * t<=1000000000 * 1000000001:=⟨Int.mul_le_mul hp1 ht1.1 (by omega) (by omega),Int.mul_le_mul hp ht1.2 (by omega) (by omega)⟩
  rw [aM (x:=Pi i (mx n A) * t) (by omega) (by omega)]
  have hnext:Pi (i+1) (mx n A)=Pi i (mx n A) * mx n A i:=rfl
  have up:Pi (i+1) (mx n A)<=Pi n (mx n A):=by
   rw [hnext];exact Pi_pick (λx=>(mx_le x).2) (Int.le_refl _) (by omega)
  by_cases c:rsum n A i<=1000000000
  ·have et:t=mx n A i:=by rw [ht];unfold mx;split <;> split <;> (try split) <;> omega
   rw [et,<-hnext]
   by_cases q:Pi (i+1) (mx n A)>1000000000
   ·rw [decide_eq_true q,cond_true]
    exact ⟨_,rfl,by omega⟩
   ·rw [decide_eq_false q,cond_false]
    unfold bh.pj3
    rw [aM (x:=(i:Int)+1) (by omega) (by omega)]
    exact ih g (i+1) (by omega) (by omega) (by omega) (by omega)
  ·have et:t=1000000001:=by rw [ht];split <;> (try split) <;> omega
   have k1:1 * 1000000001<=Pi i (mx n A) * t:=Int.mul_le_mul hp1 (by omega) (by omega) (by omega)
   have k2:1 * 1000000001<=Pi i (mx n A) * mx n A i:=Int.mul_le_mul hp1 (by omega) (by omega) (by omega)
   rw [decide_eq_true (by omega),cond_true]
   exact ⟨_,rfl,by omega⟩
theorem vrow_s (hn:n<=48) (hb:Bd n n A) {pC} {x i:Int} (i0:0<=i) (i1:i<n):∀ (d g m:Nat),n - m=d->d<g->m<=n ->
  bi.pl1877 F pC g n n (mk n n A) x i (Sg m λj=>ab0 (A i j)) m=bi.pj4 F pC n n (mk n n A) x i (rsum n A i):=by
 intro d
 induction d with
 | zero=>
  intro g m hd hgg hm
  obtain ⟨g,rfl⟩:∃ g',g=g'+1:=⟨g - 1,by omega⟩
  obtain rfl:m=n:=by omega
  rw [bi.pl1877,decide_eq_false (by omega),cond_false];rfl
 | succ d ih=>
  intro g m hd hgg hm
  obtain ⟨g,rfl⟩:∃ g',g=g'+1:=⟨g - 1,by omega⟩
  have h1:=rs_le hb i0 i1 m hm
  have h2:=hb i m i0 i1 (by omega) (by omega)
  have h3:0<=ab0 (A i m)/\ab0 (A i m)<=1000000000000:=by unfold ab0;split <;> omega
  rw [bi.pl1877,decide_eq_true (by omega),cond_true,at_mk (by omega) (by omega) i0 i1 (by omega) (by omega),Option.bind_some,abs_s h2,Option.bind_some,aM (x:=(m:Int)+1) (by omega) (by omega),aM (by omega) (by omega)]
  exact ih g (m+1) (by omega) (by omega) (by omega)
theorem vol_s (hn:n<=48) (hF:1000<F) (hb:Bd n n A):∀ (d g i:Nat),n - i=d->d<g->i<=n ->
  bi.pl29 F g n n (mk n n A) (1000000000 / Pi i (mx n A)) i=some (decide (Pi n (mx n A)<=1000000000)):=by
 intro d
 induction d with
 | zero=>
  intro g i hd hgg hi
  obtain ⟨g,rfl⟩:∃ g',g=g'+1:=⟨g - 1,by omega⟩
  obtain rfl:i=n:=by omega
  rw [bi.pl29,decide_eq_false (by omega),cond_false]
  have hp1:=Pi_pos (f:=mx i A) (λx=>(mx_le x).2) i
  have h:=Int.le_ediv_iff_mul_le (a:=1) (b:=1000000000) (c:=Pi i (mx i A)) (by omega)
  rw [Int.one_mul] at h
  congr 1
  rw [decide_eq_decide]
  exact ⟨λq=>h.1 q,λq=>h.2 q⟩
 | succ d ih=>
  intro g i hd hgg hi
  obtain ⟨g,rfl⟩:∃ g',g=g'+1:=⟨g - 1,by omega⟩
  have hv:=vrow_s (F:=F) (pC:=bi.pl29 F g) (x:=1000000000 / Pi i (mx n A)) hn hb (i:=(i:Int)) (by omega) (by omega) n F 0 (by omega) (by omega) (by omega)
  have h0:(Sg 0 λj=>ab0 (A i j))=0:=rfl
  rw [h0,show ((0:Nat):Int)=0 from rfl] at hv
  rw [bi.pl29,decide_eq_true (by omega),cond_true,hv]
  have hp1:=Pi_pos (f:=mx n A) (λx=>(mx_le x).2) i
  unfold bi.pj4 bi.pj3
  have em:(if rsum n A i>1 then rsum n A i else 1)=mx n A i:=by unfold mx;split <;> split <;> omega
  have hm:=mx_le (n:=n) (B:=A) i
  have q0:0<=1000000000 / Pi i (mx n A):=Int.ediv_nonneg (by omega) (by omega)
  have q1:1000000000 / Pi i (mx n A)<=1000000000:=Int.ediv_le_self _ (by omega)
  rw [em,if_neg (by omega),Int.tdiv_eq_ediv_of_nonneg q0,Int.ediv_ediv_of_nonneg (by omega)]
  have r0:0<=1000000000 / (Pi i (mx n A) * mx n A i):=Int.ediv_nonneg (by omega) (Int.mul_nonneg (by omega) (by omega))
  have r1:1000000000 / (Pi i (mx n A) * mx n A i)<=1000000000:=Int.ediv_le_self _ (by omega)
  rw [aM (by omega) (by omega),aM (x:=(i:Int)+1) (by omega) (by omega)]
  exact ih g (i+1) (by omega) (by omega) (by omega)
theorem dets (hn:n<=48) (hF:5000000<F) (hb:Bd n n A) (hi:cO.p F n n (mk n n A)=some true) (hs:cw.p F n n (mk n n A)=some true) :
  (¬ Pi n (mx n A)<=1000000000/\dX.p F n n (mk n n A)=some (0,3)/\eK.p F n n (mk n n A)=some (0,3)) \/
  (Pi n (mx n A)<=1000000000/\dX.p F n n (mk n n A)=some (det n A,0)/\eK.p F n n (mk n n A)=some (det n A,0)):=by
 have hm:n * n<=48 * 48:=Nat.mul_le_mul hn hn
 unfold dX.p eK.p
 rw [hi,hs,Option.bind_some,Option.bind_some,Bool.not_true,cond_false,cond_false,bne_self_eq_false,cond_false,cond_false]
 unfold bh.p bi.p
 obtain ⟨v,e1,h1⟩:=vol_i (F:=F) hn (by omega) hb n F 0 (by omega) (by omega) (by omega) (by show (1:Int)<=_;omega)
 have e2:=vol_s (F:=F) hn (by omega) hb n F 0 (by omega) (by omega) (by omega)
 rw [show Pi 0 (mx n A)=1 from rfl,show ((0:Nat):Int)=0 from rfl] at e1 e2
 rw [show (1000000000:Int) / 1=1000000000 from by decide] at e2
 rw [e1,e2,Option.bind_some,Option.bind_some]
 by_cases c:Pi n (mx n A)<=1000000000
 ·obtain ⟨d1,z,d2⟩:=det_s (F:=F) (A:=A) hn (by omega) c
  unfold e_.p ij.p
  have ha:apn ([]:List Int) (mk n n A)=some (mk n n A):=by unfold apn;rw [if_pos (by rw [ig];simp;omega)];rfl
  have h2:=h1.2 c
  rw [decide_eq_true c,decide_eq_false (by omega),Bool.not_true,cond_false,cond_false,ha,Option.bind_some,Option.bind_some,d1,Option.bind_some]
  simp only []
  rw [d2]
  exact .inr ⟨c,rfl,trivial⟩
 ·have h2:=λq=>c (h1.1 q)
  rw [decide_eq_false c,decide_eq_true (by omega),Bool.not_false,cond_true,cond_true]
  exact .inl ⟨c,rfl,rfl⟩
end Go.Proofs.Ytokekkacliomkaa.AE
end
section
namespace Go.Proofs.Ytokekkacliomkaa.AE
open Go Go.AE Go.Proofs
variable {R C F:Nat} {A:Mat}
structure FV (R C:Nat) (A:Mat) (y:List Int):Prop where
 r:y.length<=R
 c:y.length<=C
 v:∀ a:Nat,a<y.length->y[a]?=some (A a a)/\0<A a a/\A a a<=1000000000000
 z:∀ a:Int,(y.length:Int)<=a->a<R->a<C->A a a=0
theorem facs_0 (hR:R<=48) (hC:C<=48) {n0:Int} (hn:n0=if (C:Int)<R then (C:Int) else R) {x:List Int}:∀ (m g:Nat) (i:Int),n0 - i=m->m<g->0<=i->(∀ a:Int,i<=a->a<R->a<C->A a a=0) ->
  bD.pl125 F g C (mk R C A) x n0 i=some (x,0):=by
 intro m
 induction m with
 | zero=>
  intro g i hm hg hi hz
  obtain ⟨g,rfl⟩:∃ g',g=g'+1:=⟨g - 1,by omega⟩
  rw [bD.pl125,decide_eq_false (by omega),cond_false]
 | succ m ih=>
  intro g i hm hg hi hz
  obtain ⟨g,rfl⟩:∃ g',g=g'+1:=⟨g - 1,by omega⟩
  have h48:n0<=C/\n0<=R:=by rw [hn];split <;> omega
  rw [bD.pl125,decide_eq_true (by omega),cond_true]
  simp (disch:=omega) only [eY,fJ,Option.bind_some]
  rw [hz i (by omega) (by omega) (by omega),show ((0:Int) != 0)=false from rfl,cond_false]
  unfold bD.pj2
  rw [aM (by omega) (by omega)]
  exact ih g (i+1) (by omega) (by omega) (by omega) λa h1=>hz a (by omega)
theorem facs_l (hR:R<=48) (hC:C<=48) (hD:Dia R C A) (hb:Bd R C A) {n0:Int} (hn:n0=if (C:Int)<R then (C:Int) else R):∀ (m g:Nat) (x:List Int),n0 - x.length=m->m<g ->
  (∀ a:Nat,a<x.length->x[a]?=some (A a a)/\0<A a a/\A a a<=1000000000000)->∃ y,bD.pl125 F g C (mk R C A) x n0 x.length=some (y,0)/\FV R C A y:=by
 intro m
 have h48:n0<=C/\n0<=R/\((C:Int)<=n0\/(R:Int)<=n0):=by rw [hn];split <;> omega
 induction m with
 | zero=>
  intro g x hm hg hx
  obtain ⟨g,rfl⟩:∃ g',g=g'+1:=⟨g - 1,by omega⟩
  rw [bD.pl125,decide_eq_false (by omega),cond_false]
  exact ⟨x,rfl,by omega,by omega,hx,λa h1 h2 h3=>by omega⟩
 | succ m ih=>
  intro g x hm hg hx
  by_cases h0:A x.length x.length=0
  ·refine ⟨x,?_,by omega,by omega,hx,λa h1 h2 h3=>?_⟩
   ·refine facs_0 hR hC hn (m+1) g x.length hm hg (by omega) λa h1 h2 h3=>?_
    have:=hD.c x.length a (by omega) h1 h2 h3
    rw [h0] at this;exact Int.zero_dvd.1 this
   ·have:=hD.c x.length a (by omega) h1 h2 h3
    rw [h0] at this;exact Int.zero_dvd.1 this
  ·obtain ⟨g,rfl⟩:∃ g',g=g'+1:=⟨g - 1,by omega⟩
   rw [bD.pl125,decide_eq_true (by omega),cond_true]
   simp (disch:=omega) only [eY,fJ,Option.bind_some]
   rw [show (A x.length x.length != 0)=true from bne_iff_ne.2 h0,cond_true]
   unfold apn
   rw [if_pos (by simp;omega),Option.bind_some]
   unfold bD.pj2
   have hl:((x++[A x.length x.length]).length:Int)=x.length+1:=by simp
   rw [aM (by omega) (by omega),<-hl]
   refine ih g (x++[A x.length x.length]) (by omega) (by omega) λa ha=>?_
   rw [List.length_append,List.length_singleton] at ha
   by_cases e:a=x.length
   ·subst e
    have h1:=hD.n x.length (by omega) (by omega) (by omega)
    have h2:=hb x.length x.length (by omega) (by omega) (by omega) (by omega)
    exact ⟨by rw [List.getElem?_append_right (Nat.le_refl _),Nat.sub_self];rfl,by omega,h2.2⟩
   ·rw [List.getElem?_append_left (by omega)]
    exact hx a (by omega)
theorem factors_r (hR:R<=48) (hC:C<=48) (hF:1000000000000000<=F) (hb:Bd R C A) :
  bD.p F R C (mk R C A)=some ([],3)\/∃ y v,Red R C A v/\Rch R C 0 ⟨A,idM,idM,idM,idM⟩ v/\Dia R C v.d/\FV R C v.d y/\bD.p F R C (mk R C A)=some (y,0):=by
 unfold bD.p
 rcases smith_both hR hC hF hb with ⟨e1,_⟩ | ⟨v,hv,hr,hd,_,e1,_⟩
 ·left;rw [e1];rfl
 ·right
  rw [e1]
  simp only [Option.bind_some]
  rw [show ((0:Int) != 0)=false from rfl,cond_false]
  obtain ⟨y,h1,h2⟩:=facs_l (F:=F) hR hC hd hv.1 rfl (if (C:Int)<R then (C:Int) else R).toNat F [] (by simp;split <;> omega) (by split <;> omega) λa ha=>by simp at ha
  exact ⟨y,v,hr.1,hr.2,hd,h2,h1⟩
end Go.Proofs.Ytokekkacliomkaa.AE
end
section
namespace Go.Proofs.Ytokekkacliomkaa.AE.SS
open Go Go.AE Go.Proofs
variable {F:Nat}
theorem ix_of {α:Type} {l:List α} {i:Int} (h0:0<=i) (h:i<l.length):ix l i=some i.toNat:=by
 unfold ix;rw [if_pos ⟨h0,h⟩]
structure Src (c:List Int) (a s:Int):Prop where
 b:∀ n:Nat,0<=gt c n/\gt c n<=255
 l:c.length<=1000000
 a0:0<=a
 a1:a<=c.length
 s0:0<=s
 s1:s<2147483647
theorem seed_ok {s:Int} (h0:0<=s) (h1:s<2147483647):∃ t,Int.tmod (IntKind.i64.wrap ((IntKind.i64.wrap (s * 48271))+11)) 2147483647=t/\0<=t/\t<2147483647:=by
 rw [aM (x:=s * 48271) (by omega) (by omega),aM (by omega) (by omega)]
 refine ⟨_,rfl,?_⟩
 rw [Int.tmod_eq_emod_of_nonneg (by omega)]
 constructor <;> omega
theorem mod_ok {x n:Int} (hx:0<=x) (hn:1<n):∃ r,Int.tmod x n=r/\0<=r/\r<n:=by
 refine ⟨_,rfl,?_⟩
 rw [Int.tmod_eq_emod_of_nonneg hx]
 exact ⟨Int.emod_nonneg _ (by omega),Int.emod_lt_of_pos _ (by omega)⟩
theorem next {c:List Int} {a s n:Int} (h:Src c a s):∃ r a' s',bo.p F c a s n=some (r,a',s')/\Src c a' s'/\0<=r/\(n<=1->r=0)/\(1<n->r<n):=by
 obtain ⟨h1,h2,h3,h4,h5,h6⟩:=h
 unfold bo.p
 by_cases hn:n<=1
 ·rw [decide_eq_true hn,cond_true]
  exact ⟨0,a,s,rfl,⟨h1,h2,h3,h4,h5,h6⟩,Int.le_refl _,λ_=>rfl,λq=>by omega⟩
 ·rw [decide_eq_false hn,cond_false]
  obtain ⟨t,e,t0,t1⟩:=seed_ok h5 h6
  simp only [e]
  have td:0<=Int.tdiv t 11/\Int.tdiv t 11<=t:=by
   rw [Int.tdiv_eq_ediv_of_nonneg t0];constructor <;> omega
  unfold bo.pj2 bo.pj1 bo.pj3
  have n0:¬ n=0:=by omega
  simp only [if_neg n0]
  by_cases ha:a<c.length
  ·rw [decide_eq_true ha,cond_true]
   have ix0:ix c a=some a.toNat:=ix_of h3 ha
   have gb:=h1 a.toNat
   rw [ix0,Option.bind_some,aM (x:=a+1) (by omega) (by omega),aM (x:=a+1 - 1) (by omega) (by omega),show a+1 - 1=a by omega,ix0,Option.bind_some,aM (x:=gt c a.toNat) (by omega) (by omega),aM (x:=Int.tdiv t 11) (by omega) (by omega),aM (x:=Int.tdiv t 11+gt c a.toNat) (by omega) (by omega)]
   have S:Src c (a+1) t:=⟨h1,h2,by omega,by omega,t0,t1⟩
   obtain ⟨r1,m1,m2,m3⟩:=mod_ok (x:=gt c a.toNat) (n:=n) gb.1 (by omega)
   obtain ⟨r2,m4,m5,m6⟩:=mod_ok (x:=Int.tdiv t 11+gt c a.toNat) (n:=n) (by omega) (by omega)
   rw [m1,m4]
   cases decide (n<=256) <;> cases (Int.tmod (a+1) 2==0) <;> simp only [cond_true,cond_false]
   ·exact ⟨r2,_,_,rfl,S,m5,λq=>absurd q hn,λ_=>m6⟩
   ·exact ⟨r2,_,_,rfl,S,m5,λq=>absurd q hn,λ_=>m6⟩
   ·exact ⟨r2,_,_,rfl,S,m5,λq=>absurd q hn,λ_=>m6⟩
   ·exact ⟨r1,_,_,rfl,S,m2,λq=>absurd q hn,λ_=>m3⟩
  ·rw [decide_eq_false ha,cond_false,aM (x:=Int.tdiv t 11) (by omega) (by omega)]
   obtain ⟨r2,m4,m5,m6⟩:=mod_ok (x:=Int.tdiv t 11) (n:=n) (by omega) (by omega)
   rw [m4]
   exact ⟨r2,_,_,rfl,⟨h1,h2,h3,h4,t0,t1⟩,m5,λq=>absurd q hn,λ_=>m6⟩
theorem from_l {c:List Int} (hc:c.length<=1000000) (hb:∀ n:Nat,0<=gt c n/\gt c n<=255):∀ (n g:Nat) (s i:Int),c.length - i=n->n<g->0<=i->0<=s->s<2147483647->∃ t,cI.pl29 F g c 0 s i=some (c,0,t)/\0<=t/\t<2147483647:=by
 intro n
 induction n with
 | zero=>
  intro g s i hn hg hi h0 h1
  obtain ⟨g,rfl⟩:∃ g',g=g'+1:=⟨g - 1,by omega⟩
  rw [cI.pl29,decide_eq_false (by omega),cond_false]
  exact ⟨s,rfl,h0,h1⟩
 | succ n ih=>
  intro g s i hn hg hi h0 h1
  obtain ⟨g,rfl⟩:∃ g',g=g'+1:=⟨g - 1,by omega⟩
  rw [cI.pl29,decide_eq_true (by omega),cond_true]
  cases decide (i<64) with
  | false=>exact ⟨s,rfl,h0,h1⟩
  | true=>
   have gb:=hb i.toNat
   rw [cond_true,ix_of hi (by omega),Option.bind_some,aM (x:=gt c i.toNat) (by omega) (by omega),aM (x:=s * 37) (by omega) (by omega),aM (x:=s * 37+gt c i.toNat) (by omega) (by omega),aM (x:=i+1) (by omega) (by omega)]
   obtain ⟨r,m1,m2,m3⟩:=mod_ok (x:=s * 37+gt c i.toNat) (n:=2147483647) (by omega) (by omega)
   rw [m1]
   exact ih g r (i+1) (by omega) (by omega) (by omega) m2 m3
theorem from_ {c:List Int} (hF:5000000<F) (hc:c.length<=1000000) (hb:∀ n:Nat,0<=gt c n/\gt c n<=255):∃ t,cI.p F c=some (c,0,t)/\Src c 0 t:=by
 unfold cI.p
 obtain ⟨t,e,h0,h1⟩:=from_l (F:=F) hc hb c.length F 97531 0 (by omega) (by omega) (by omega) (by omega) (by omega)
 exact ⟨t,e,hb,hc,Int.le_refl _,by omega,h0,h1⟩
theorem nx {c:List Int} {a s n:Int} (h:Src c a s) (hn:1<=n):∃ r a' s',bo.p F c a s n=some (r,a',s')/\Src c a' s'/\0<=r/\r<n:=by
 obtain ⟨r,a',s',e,h',r0,r1,r2⟩:=next (F:=F) (n:=n) h
 refine ⟨r,a',s',e,h',r0,?_⟩
 by_cases c:n<=1
 ·have:=r1 c;omega
 ·exact r2 (by omega)
end Go.Proofs.Ytokekkacliomkaa.AE.SS
end
section
namespace Go.Proofs.Ytokekkacliomkaa.AE
open Go Go.AE Go.Proofs
variable {F:Nat} {c:List Int}
theorem mem_set {l:List Int} {n:Nat} {x y:Int} (h:y∈l.set n x):y∈l\/y=x:=List.mem_or_eq_of_mem_set h
theorem ixk {α:Type} {l:List α} {i:Int} (h0:0<=i) (h:i<l.length):ix l i=some i.toNat:=SS.ix_of h0 h
theorem zero_l {a b:Int} (ha:0<=a) (ha':a<=1000) (hb:0<=b) (hb':b<=1000):fZ.p F a b=some (a,b,List.replicate (a * b).toNat 0):=by
 have h0:0<=a * b:=Int.mul_nonneg ha hb
 have h1:a * b<=1000 * 1000:=Int.mul_le_mul ha' hb' hb (by omega)
 unfold fZ.p mkn
 rw [aM (by omega) (by omega),if_pos (by omega)];rfl
theorem size_l {R C w:Int} (hw:1<=w) (hw6:w<=6):∀ (n g:Nat) (a s:Int) (l:List Int) (i:Int),l.length - i=n->n<g->0<=i->l.length<=1000000->(∀ x∈l,-6<=x/\x<=6)->SS.Src c a s ->
  ∃ l' a' s',bI.pl61 F g c a s R C l w i=some (R,C,l',a',s')/\l'.length=l.length/\(∀ x∈l',-6<=x/\x<=6)/\SS.Src c a' s':=by
 intro n
 induction n with
 | zero=>
  intro g a s l i hn hg hi hl hx hs
  obtain ⟨g,rfl⟩:∃ g',g=g'+1:=⟨g - 1,by omega⟩
  rw [bI.pl61,decide_eq_false (by omega),cond_false]
  exact ⟨l,a,s,rfl,rfl,hx,hs⟩
 | succ n ih=>
  intro g a s l i hn hg hi hl hx hs
  obtain ⟨g,rfl⟩:∃ g',g=g'+1:=⟨g - 1,by omega⟩
  rw [bI.pl61,decide_eq_true (by omega),cond_true]
  obtain ⟨r,a1,s1,e1,h1,r0,r1⟩:=SS.nx (F:=F) (n:=3) hs (by omega)
  rw [e1,Option.bind_some]
  simp only []
  unfold bI.pj2
  rw [aM (x:=i+1) (by omega) (by omega)]
  cases decide (r>0) with
  | false=>rw [cond_false];exact ih g a1 s1 l (i+1) (by omega) (by omega) (by omega) hl hx h1
  | true=>
   rw [cond_true,aM (x:=2 * w) (by omega) (by omega),aM (x:=2 * w+1) (by omega) (by omega)]
   obtain ⟨q,a2,s2,e2,h2,q0,q1⟩:=SS.nx (F:=F) (n:=2 * w+1) h1 (by omega)
   rw [e2,Option.bind_some,ixk hi (by omega),Option.bind_some,Option.bind_some]
   simp only []
   rw [aM (x:=q - w) (by omega) (by omega)]
   obtain ⟨l',a',s',e,k1,k2,k3⟩:=ih g a2 s2 (l.set i.toNat (q - w)) (i+1) (by rw [List.length_set];omega) (by omega) (by omega) (by rw [List.length_set];omega) (λx hx'=>by
    rcases mem_set hx' with h | h
    ·exact hx x h
    ·omega) h2
   exact ⟨l',a',s',e,by rw [k1,List.length_set],k2,k3⟩
theorem draw_size {R C a s:Int} (hF:5000000<F) (hR:0<=R) (hR':R<=100) (hC:0<=C) (hC':C<=100) (hs:SS.Src c a s) :
  ∃ l a' s',bI.p F c a s R C=some (R,C,l,a',s')/\l.length=(R * C).toNat/\(∀ x∈l,-6<=x/\x<=6)/\SS.Src c a' s':=by
 unfold bI.p
 have h0:0<=R * C:=Int.mul_nonneg hR hC
 have h1:R * C<=100 * 100:=Int.mul_le_mul hR' hC' hC (by omega)
 rw [zero_l hR (by omega) hC (by omega),Option.bind_some]
 obtain ⟨w,a1,s1,e1,k1,w0,w1⟩:=SS.nx (F:=F) (n:=6) hs (by omega)
 rw [e1,Option.bind_some]
 simp only []
 rw [aM (by omega) (by omega)]
 obtain ⟨l,a',s',e,q1,q2,q3⟩:=size_l (F:=F) (c:=c) (R:=R) (C:=C) (w:=1+w) (by omega) (by omega) (R * C).toNat F a1 s1 (List.replicate (R * C).toNat 0) 0 (by rw [List.length_replicate];omega) (by omega) (by omega) (by rw [List.length_replicate];omega) (λx hx=>by rw [List.eq_of_mem_replicate hx];omega) k1
 exact ⟨l,a',s',e,by rw [q1,List.length_replicate],q2,q3⟩
theorem draw_matrix {a s:Int} (hF:5000000<F) (hs:SS.Src c a s):∃ x y l a' s',ft.p F c a s=some (x,y,l,a',s')/\List.length l<=100/\SS.Src c a' s':=by
 unfold ft.p
 obtain ⟨x,a1,s1,e1,h1,x0,x1⟩:=SS.nx (F:=F) (n:=5) hs (by omega)
 obtain ⟨y,a2,s2,e2,h2,y0,y1⟩:=SS.nx (F:=F) (n:=5) h1 (by omega)
 obtain ⟨l,a3,s3,e3,l1,_,h3⟩:=draw_size (F:=F) (R:=x) (C:=y) hF x0 (by omega) y0 (by omega) h2
 obtain ⟨r,a4,s4,e4,h4,r0,r1⟩:=SS.nx (F:=F) (n:=24) h3 (by omega)
 have k0:0<=x * y:=Int.mul_nonneg x0 y0
 have k1:x * y<=5 * 5:=Int.mul_le_mul (by omega) (by omega) y0 (by omega)
 rw [e1,Option.bind_some]
 simp only []
 rw [e2,Option.bind_some]
 simp only []
 rw [e3,Option.bind_some]
 simp only []
 rw [e4,Option.bind_some]
 simp only []
 cases (r==0) with
 | true=>rw [cond_true];exact ⟨_,_,_,_,_,rfl,by omega,h4⟩
 | false=>
  cases (r==1) with
  | true=>
   have hap:apn l [(0:Int)]=some (l++[0]):=by unfold apn;rw [if_pos (by simp;omega)]
   rw [cond_false,cond_true,hap];exact ⟨_,_,_,_,_,rfl,by simp;omega,h4⟩
  | false=>
   cases (r==2) with
   | true=>
    simp only [cond_false,cond_true]
    by_cases hl:(l.length:Int)>0
    ·obtain ⟨k,a5,s5,e5,h5,p0,p1⟩:=SS.nx (F:=F) (n:=(l.length:Int)) h4 (by omega)
     obtain ⟨q,a6,s6,e6,h6,q0,q1⟩:=SS.nx (F:=F) (n:=5) h5 (by omega)
     rw [decide_eq_true hl,cond_true,e5,Option.bind_some]
     simp only []
     rw [e6,Option.bind_some]
     simp only []
     rw [ixk q0 (by simpa using q1),Option.bind_some,ixk p0 p1,Option.bind_some,Option.bind_some]
     exact ⟨_,_,_,_,_,rfl,by rw [List.length_set];omega,h6⟩
    ·rw [decide_eq_false hl,cond_false]
     exact ⟨_,_,_,_,_,rfl,by omega,h4⟩
   | false=>
    simp only [cond_false]
    cases (r==3) with
    | true=>
     obtain ⟨k,a5,s5,e5,h5,p0,p1⟩:=SS.nx (F:=F) (n:=3) h4 (by omega)
     rw [cond_true,e5,Option.bind_some]
     simp only []
     rw [ixk p0 (by simpa using p1),Option.bind_some]
     exact ⟨_,_,_,_,_,rfl,by simp,h5⟩
    | false=>rw [cond_false];exact ⟨_,_,_,_,_,rfl,by omega,h4⟩
end Go.Proofs.Ytokekkacliomkaa.AE
end
section
namespace Go.Proofs.Ytokekkacliomkaa.AE
open Go Go.AE Go.Proofs
section
variable {R C F:Nat} {A:Mat}
theorem isM_true (hR:R<=48) (hC:C<=48) (hF:5000000<F) (hb:Bd R C A):cO.p F R C (mk R C A)=some true:=by
 have hm:R * C<=48 * 48:=Nat.mul_le_mul hR hC
 unfold cO.p fE.p ii.p f_.p cH.p
 rw [decide_eq_true (show (0:Int)<=R by omega),decide_eq_true (show (R:Int)<=48 by omega)]
 simp only [cond_true,Option.bind_some]
 rw [decide_eq_true (show (0:Int)<=C by omega),decide_eq_true (show (C:Int)<=48 by omega)]
 simp only [cond_true,Option.bind_some]
 rw [<- Int.natCast_mul,aM (by omega) (by omega),ig,beq_self_eq_true,cond_true]
 obtain ⟨r,e,h⟩:=implM_l (F:=F) (l:=mk R C A) (by rw [ig];omega) (mk R C A).length F 0 (by omega) (by rw [ig];omega) (by omega)
 rw [ig] at e
 rw [e,Option.bind_some,Option.bind_some]
 have:¬ r>=0:=h.2 λa _ ha=>by
  rw [ig] at ha
  have hC0:0<C:=by
   rcases Nat.eq_zero_or_pos C with q | q
   ·subst q;simp at ha
   ·exact q
  have h1:a / C<R:=(Nat.div_lt_iff_lt_mul hC0).2 ha
  have h2:=Nat.mod_lt a hC0
  have e2:gt (mk R C A) a=A ((a / C:Nat):Int) ((a % C:Nat):Int):=by
   unfold gt mk
   rw [List.getD_eq_getElem?_getD,List.getElem?_map,List.getElem?_range ha];rfl
  rw [e2]
  exact hb _ _ (Int.natCast_nonneg _) (Int.ofNat_lt.2 h1) (Int.natCast_nonneg _) (Int.ofNat_lt.2 h2)
 rw [decide_eq_false this];rfl
theorem isS_true (hR:R<=48) (hC:C<=48) (hF:5000000<F) (hb:Bd R C A):cw.p F R C (mk R C A)=some true:=by
 have hm:R * C<=48 * 48:=Nat.mul_le_mul hR hC
 obtain ⟨v,e1,e2,_⟩:=isMatrix_both (F:=F) (a:=R) (b:=C) (l:=mk R C A) hF (by rw [ig];omega)
 rw [isM_true hR hC hF hb] at e2
 rw [e1,<-Option.some.inj e2]
end
variable {F n:Nat} {A:Mat} {c:List Int}
def trM (A:Mat) (i j:Int):Mat:=λa b=>if b<i\/b=i/\a<j then A b a else 0
theorem tr_in (hn:n<=48) {i:Int} (i0:0<=i) (i1:i<n) {pC}:∀ (d g:Nat) (j:Int),n - j=d->d<g->0<=j->j<=n ->
  aY.pl3931 F pC g n (mk n n A) n n (mk n n (trM A i j)) n i i n j=pC n (mk n n A) n n (mk n n (trM A (i+1) 0)) n (i+1):=by
 intro d
 induction d with
 | zero=>
  intro g j hd hg hj hj2
  obtain ⟨g,rfl⟩:∃ g',g=g'+1:=⟨g - 1,by omega⟩
  rw [aY.pl3931,decide_eq_false (by omega),cond_false]
  unfold aY.pj4 aY.pj3
  rw [aM (x:=i+1) (by omega) (by omega)]
  have e:mk n n (trM A i j)=mk n n (trM A (i+1) 0):=cX λa b a0 a1 b0 b1=>by
   unfold trM
   by_cases h:b<i\/b=i/\a<j
   ·rw [if_pos h,if_pos (by omega)]
   ·rw [if_neg h,if_neg (by omega)]
  rw [e]
 | succ d ih=>
  intro g j hd hg hj hj2
  obtain ⟨g,rfl⟩:∃ g',g=g'+1:=⟨g - 1,by omega⟩
  rw [aY.pl3931,decide_eq_true (by omega),cond_true,eY (i:=j) (j:=i) (by omega) (by omega) (by omega) (by omega) i0 i1,Option.bind_some,eY (i:=i) (j:=j) (by omega) (by omega) i0 i1 (by omega) (by omega),Option.bind_some,Option.bind_some,
   fJ (i:=i) (j:=j) i0 i1 (by omega) (by omega),jt (i:=j) (j:=i) (by omega) (by omega) i0 i1,aM (x:=j+1) (by omega) (by omega)]
  have e:upd (trM A i j) j i (A i j)=trM A i (j+1):=by
   funext a b
   unfold upd trM
   by_cases h:a=j/\b=i
   ·rw [if_pos h,if_pos (by omega),h.1,h.2]
   ·rw [if_neg h]
    by_cases h2:b<i\/b=i/\a<j
    ·rw [if_pos h2,if_pos (by omega)]
    ·rw [if_neg h2,if_neg (by omega)]
  rw [e]
  exact ih g (j+1) (by omega) (by omega) (by omega) (by omega)
theorem tr_out (hn:n<=48) (hF:1000<F):∀ (d g:Nat) (i:Int),n - i=d->d<g->0<=i->i<=n ->
  aY.pl61 F g n (mk n n A) n n (mk n n (trM A i 0)) n i=some ((n:Int),(n:Int),mk n n (tr A)):=by
 intro d
 induction d with
 | zero=>
  intro g i hd hg hi hi2
  obtain ⟨g,rfl⟩:∃ g',g=g'+1:=⟨g - 1,by omega⟩
  rw [aY.pl61,decide_eq_false (by omega),cond_false]
  have e:mk n n (trM A i 0)=mk n n (tr A):=cX λa b a0 a1 b0 b1=>if_pos (by omega)
  rw [e]
 | succ d ih=>
  intro g i hd hg hi hi2
  obtain ⟨g,rfl⟩:∃ g',g=g'+1:=⟨g - 1,by omega⟩
  rw [aY.pl61,decide_eq_true (by omega),cond_true,tr_in hn hi (by omega) n F 0 (by omega) (by omega) (by omega) (by omega)]
  exact ih g (i+1) (by omega) (by omega) (by omega) (by omega)
theorem transp (hn:n<=48) (hF:5000000<F) (hb:Bd n n A):aY.p F n n (mk n n A)=some ((n:Int),(n:Int),mk n n (tr A)):=by
 have hm:n * n<=48 * 48:=Nat.mul_le_mul hn hn
 unfold aY.p eU.p mkn
 rw [isM_true hn hn hF hb,Option.bind_some,Bool.not_true,cond_false,<-Int.natCast_mul,aM (by omega) (by omega),if_pos (by omega),Option.bind_some,Option.bind_some,Int.toNat_natCast,mk_zero]
 simp only []
 have e:mk n n (λ_ _=>0)=mk n n (trM A 0 0):=cX λa b a0 a1 b0 b1=>(if_neg (by omega)).symm
 rw [e]
 exact tr_out hn (by omega) n F 0 (by omega) (by omega) (by omega) (by omega)
theorem loop_any {y:List Int} {n dt:Int} (hy:y.length<=1000):∀ (d g:Nat) (p i:Int),y.length - i=d->d<g->0<=i->∃ w,bp.pl16381 F g n dt y p i=bp.pj2 F n dt y w:=by
 intro d
 induction d with
 | zero=>
  intro g p i hd hg hi
  obtain ⟨g,rfl⟩:∃ g',g=g'+1:=⟨g - 1,by omega⟩
  rw [bp.pl16381,decide_eq_false (by omega),cond_false]
  exact ⟨_,rfl⟩
 | succ d ih=>
  intro g p i hd hg hi
  obtain ⟨g,rfl⟩:∃ g',g=g'+1:=⟨g - 1,by omega⟩
  rw [bp.pl16381,decide_eq_true (by omega),cond_true,ixk hi (by omega),Option.bind_some,aM (x:=i+1) (by omega) (by omega)]
  exact ih g _ (i+1) (by omega) (by omega) (by omega)
theorem loop_v {y:List Int} {dt:Int} {f:Int->Int} (hn:n<=48) (hy:y.length=n) (hf:∀ i:Int,1<=f i) (hv:∀ a:Nat,a<n->gt y a=f a) (hp:Pi n f<=1000000000):∀ (d g i:Nat),n - i=d->d<g->i<=n ->
  bp.pl16381 F g n dt y (Pi i f) i=bp.pj2 F n dt y (Pi n f):=by
 intro d
 induction d with
 | zero=>
  intro g i hd hg hi
  obtain ⟨g,rfl⟩:∃ g',g=g'+1:=⟨g - 1,by omega⟩
  obtain rfl:i=n:=by omega
  rw [bp.pl16381,decide_eq_false (by omega),cond_false]
 | succ d ih=>
  intro g i hd hg hi
  obtain ⟨g,rfl⟩:∃ g',g=g'+1:=⟨g - 1,by omega⟩
  rw [bp.pl16381,decide_eq_true (by omega),cond_true,ixk (i:=(i:Int)) (by omega) (by omega),Option.bind_some,aM (x:=(i:Int)+1) (by omega) (by omega),Int.toNat_natCast,hv i (by omega)]
  have h1:Pi i f * f i<=Pi n f:=Pi_pick hf (Int.le_refl _) (by omega)
  have h2:=Pi_pos hf (i+1)
  have e:Pi (i+1) f=Pi i f * f i:=rfl
  rw [aM (x:=Pi i f * f i) (by omega) (by omega),<-e]
  exact ih g (i+1) (by omega) (by omega) (by omega)
theorem abs_w {x:Int} (h:In9 x):(if IntKind.i64.wrap (0 - x)>x then IntKind.i64.wrap (0 - x) else x)=ab0 x:=by
 rw [aM (by omega) (by omega)]
 unfold ab0
 split <;> split <;> omega
theorem prod_ok (hn:n<=48) (hF:1000<F) {v:St} {y:List Int} (hch:Rch n n 0 ⟨A,idM,idM,idM,idM⟩ v) (hd:Dia n n v.d) (hy:FV n n v.d y) (hV:Pi n (mx n A)<=1000000000) :
  bp.pl16381 F F n (det n A) y 1 0=some true:=by
 have hb:=Int.le_trans det_bound hV
 have h9:=in9 hb
 have hdet:det n v.d=Pi n λi=>v.d i i:=det_diag λi j a b c d e=>hd.o i j a b c d e
 have hs:det n v.d=det n A\/det n v.d=- det n A:=Rch.det (Int.le_refl 0) hch
 have hyr:=hy.r
 by_cases hl:y.length=n
 ·obtain ⟨f,hf⟩:∃ f:Int->Int,f=λi:Int=>if 0<=i/\i<(n:Int) then v.d i i else 1:=⟨_,rfl⟩
  have f1:∀ i:Int,1<=f i:=λi=>by
   rw [hf]
   by_cases q:0<=i/\i<n
   ·obtain ⟨a,rfl⟩:=Int.eq_ofNat_of_zero_le q.1
    have:=(hy.v a (by omega)).2.1
    dsimp only
    rw [if_pos q];omega
   ·dsimp only
    rw [if_neg q];omega
  have hP:Pi n f=Pi n λi=>v.d i i:=Pi_congr λi a b=>by rw [hf];exact if_pos ⟨a,b⟩
  have p1:=Pi_pos f1 n
  have hab:Pi n f=ab0 (det n A):=by
   rw [hP,<-hdet] at *
   unfold ab0
   split <;> omega
  have lv:=loop_v (F:=F) (dt:=det n A) hn hl f1 (λa ha=>by
   have h:=(hy.v a (by omega)).1
   rw [hf]
   dsimp only
   rw [if_pos ⟨by omega,by omega⟩]
   unfold gt
   rw [List.getD_eq_getElem?_getD,h];rfl) (by omega) n F 0 (by omega) (by omega) (by omega)
  rw [show Pi 0 f=1 from rfl,show ((0:Nat):Int)=0 from rfl] at lv
  rw [lv]
  unfold bp.pj2 bp.pj1
  rw [decide_eq_false (by omega),cond_false,abs_w h9,hab,beq_self_eq_true]
 ·obtain ⟨w,e⟩:=loop_any (F:=F) (n:=(n:Int)) (dt:=det n A) (y:=y) (by omega) y.length F 1 0 (by omega) (by omega) (by omega)
  have z:det n A=0:=by
   have h0:=hy.z y.length (by omega) (by omega) (by omega)
   have:Pi n (λi=>v.d i i)=0:=by
    rw [Pi_out (f:=λi=>v.d i i) (i:=(y.length:Int)) (by omega) (by omega)]
    show v.d y.length y.length * _=0
    rw [h0,Int.zero_mul]
   omega
  rw [e]
  unfold bp.pj2 bp.pj1
  rw [decide_eq_true (by omega),cond_true,abs_w h9,z];rfl
theorem draw_det (hF:5000000<F) (hc:c.length<=1000000) (hb:∀ m:Nat,0<=gt c m/\gt c m<=255):∃ a b l,eO.p F c=some (a,b,l)/\List.length l<=2000000:=by
 unfold eO.p
 obtain ⟨t,e0,h0⟩:=SS.from_ (F:=F) (by omega) hc hb
 rw [e0,Option.bind_some]
 simp only []
 obtain ⟨q,a1,s1,e1,h1,q0,q1⟩:=SS.nx (F:=F) (n:=8) h0 (by omega)
 rw [e1,Option.bind_some]
 simp only []
 cases (q==0) with
 | true=>
  obtain ⟨x,y,l,a2,s2,e2,l2,_⟩:=draw_matrix (F:=F) (by omega) h1
  rw [cond_true,e2,Option.bind_some]
  exact ⟨x,y,l,rfl,by omega⟩
 | false=>
  obtain ⟨r,a2,s2,e2,h2,r0,r1⟩:=SS.nx (F:=F) (n:=6) h1 (by omega)
  obtain ⟨l,a3,s3,e3,l1,_,h3⟩:=draw_size (F:=F) (R:=r) (C:=r) hF r0 (by omega) r0 (by omega) h2
  have k0:0<=r * r:=Int.mul_nonneg r0 r0
  have k1:r * r<=6 * 6:=Int.mul_le_mul (by omega) (by omega) r0 (by omega)
  rw [cond_false,e2,Option.bind_some]
  simp only []
  rw [e3,Option.bind_some]
  simp only []
  by_cases c1:r>0
  ·have k2:1 * 1<=r * r:=Int.mul_le_mul (by omega) (by omega) (by omega) (by omega)
   obtain ⟨z,a4,s4,e4,h4,z0,z1⟩:=SS.nx (F:=F) (n:=10) h3 (by omega)
   rw [decide_eq_true c1,cond_true,e4,Option.bind_some]
   simp only []
   cases (z==0) with
   | true=>
    obtain ⟨u,a5,s5,e5,h5,u0,u1⟩:=SS.nx (F:=F) (n:=12) h4 (by omega)
    rw [cond_true,e5,Option.bind_some,ixk (l:=l) (i:=0) (by omega) (by omega),Option.bind_some,Option.bind_some]
    exact ⟨_,_,_,rfl,by rw [List.length_set];omega⟩
   | false=>
    rw [cond_false]
    exact ⟨_,_,_,rfl,by omega⟩
  ·rw [decide_eq_false c1,cond_false]
   exact ⟨_,_,_,rfl,by omega⟩
theorem FnDeterminant_pure:∀ (bL:List Int),bL.length<=maxLen->(∀ x∈bL,(Lit.int .u8 x).wf=true)->∃ F,bp.p F bL=some true:=by
 intro c _ hx
 obtain ⟨F,hF⟩:∃ F:Nat,F=1000000000000000:=⟨_,rfl⟩
 refine ⟨F,?_⟩
 unfold bp.p gp.p
 rw [Option.bind_some]
 by_cases hb:(c.length:Int)>4096
 ·rw [decide_eq_true hb,cond_true]
 rw [decide_eq_false hb,cond_false]
 have hby:∀ m:Nat,0<=gt c m/\gt c m<=255:=λm=>by
  by_cases hm:m<c.length
  ·have h1:gt c m=c[m]:=by unfold gt;simp [hm]
   have:=hx _ (List.getElem_mem hm)
   rw [h1]
   have h2:IntKind.u8.min<=c[m]/\c[m]<=IntKind.u8.max:=by simpa [Lit.wf] using this
   have h3:IntKind.u8.min=0:=by decide
   have h4:IntKind.u8.max=255:=by decide
   omega
  ·have h1:gt c m=0:=by unfold gt;rw [List.getD_eq_getElem?_getD,List.getElem?_eq_none (by omega)];rfl
   rw [h1];omega
 obtain ⟨a,b,l,e1,hl⟩:=draw_det (F:=F) (by omega) (by omega) hby
 rw [e1,Option.bind_some]
 simp only []
 obtain ⟨v,m1,m2,hv⟩:=isMatrix_both (F:=F) (a:=a) (b:=b) (by omega) hl
 cases v with
 | false=>
  have d1:dX.p F a b l=some (0,1):=by unfold dX.p;rw [m2];rfl
  have d2:eK.p F a b l=some (0,1):=by unfold eK.p;rw [m1];rfl
  rw [d1,d2];rfl
 | true=>
  obtain ⟨R,C,A,rfl,rfl,hR,hC,rfl,hbd⟩:=hv rfl
  by_cases hRC:R=C
  ·subst hRC
   have hbt:Bd R R (tr A):=λi j i0 i1 j0 j1=>hbd j i j0 j1 i0 i1
   rcases dets (F:=F) hR (by omega) hbd m2 m1 with ⟨_,d1,d2⟩ | ⟨hV,d1,d2⟩
   ·rw [d1,d2];rfl
   ·have fac:=factors_r (F:=F) hR hR (by omega) hbd
    have inv:eW.p F R R (mk R R A)=bD.p F R R (mk R R A):=by
     unfold eW.p
     rw [m2,Option.bind_some,Bool.not_true,cond_false]
     cases bD.p F R R (mk R R A) <;> rfl
    have dt:=dets (F:=F) hR (by omega) hbt (isM_true hR hR (by omega) hbt) (isS_true hR hR (by omega) hbt)
    have po:∀ {v:St} {y:List Int},Rch R R 0 ⟨A,idM,idM,idM,idM⟩ v->Dia R R v.d->FV R R v.d y->bp.pl16381 F F R (det R A) y 1 0=some true:=λh1 h2 h3=>prod_ok hR (by omega) h1 h2 h3 hV
    rw [d1,d2,transp hR (by omega) hbd,inv]
    simp only [Option.bind_some,bne_self_eq_false,cond_false]
    rcases dt with ⟨_,t1,_⟩ | ⟨_,t1,_⟩
    ·rw [t1,Option.bind_some]
     simp only []
     rw [show ((3:Int)==0)=false from rfl]
     rcases fac with f1 | ⟨y,v,_,f2,f3,f4,f5⟩
     ·rw [f1];rfl
     ·rw [f5,Option.bind_some]
      simp only [bne_self_eq_false,cond_false]
      exact po f2 f3 f4
    ·rw [t1,Option.bind_some,det_tr]
     simp only [beq_self_eq_true,bne_self_eq_false,cond_true,cond_false]
     rcases fac with f1 | ⟨y,v,_,f2,f3,f4,f5⟩
     ·rw [f1];rfl
     ·rw [f5,Option.bind_some]
      simp only [bne_self_eq_false,cond_false]
      exact po f2 f3 f4
  ·have hne:((R:Int) != (C:Int))=true:=by simp;omega
   have d1:dX.p F R C (mk R C A)=some (0,2):=by unfold dX.p;rw [m2,Option.bind_some,Bool.not_true,cond_false,hne];rfl
   have d2:eK.p F R C (mk R C A)=some (0,2):=by unfold eK.p;rw [m1,Option.bind_some,Bool.not_true,cond_false,hne];rfl
   rw [d1,d2];rfl
end Go.Proofs.Ytokekkacliomkaa.AE
end
