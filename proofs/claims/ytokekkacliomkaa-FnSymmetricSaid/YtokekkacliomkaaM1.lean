import Derived.Test.YtokekkacliomkaaP2
import Derived.Test.YtokekkacliomkaaE2
set_option linter.unusedVariables false
set_option linter.unusedSimpArgs false
section
set_option linter.unusedVariables false
set_option maxRecDepth 4000
namespace Go.Proofs.Ytokekkacliomkaa.AE
open Go Go.AE Go.Proofs
def rP.pl29 (F:Nat) :Nat->Int->Int->Int->List Int->Int->List Int->Int->Int->Int->Int->Option (Int×Bool)
 | 0,_,_,_,_,_,_,_,_,_,_=>none
 | k+1,adb,nK,adc,TV,ade,TW,adf,adg,adh,KB=>(bif (decide (KB<adh)) then ((ix TV (IntKind.i64.wrap ((IntKind.i64.wrap (adb * adc))+KB))).bind λn2=>(ix TW (IntKind.i64.wrap ((IntKind.i64.wrap (KB * ade))+nK))).bind λn5=>(fX.p F (gt TV n2) (gt TW n5) 1000000000000).bind λr7=>(cW.p F r7.1).bind λr9=>(bif (!r7.2) then (some (0,false)) else ((bif (decide ((IntKind.i64.wrap (adg+r9))>1000000000000)) then (some (0,false)) else (rP.pl29 F k adb nK adc TV ade TW (IntKind.i64.wrap (adf+r7.1)) (IntKind.i64.wrap (adg+r9)) adh (IntKind.i64.wrap (KB+1))))))) else (some (adf,true)))
def rP.p (F:Nat) (ac:Int) (ar:List Int) (ct:Int) (iN:List Int) (anJ:Int) (anK:Int):Option (Int×Bool):=rP.pl29 F F anJ anK ac ar ct iN 0 0 ac 0
def fM.pj3 (F:Nat) (dV:Int->List Int->Int->List Int->Int->Int->List Int->Int->Int->Option (Int×Int×List Int×Int)) (anL:Int) (anM:List Int) (anN:Int) (anO:List Int) (anP:Int) (anQ:Int) (anR:List Int) (anS:Int) (anT:Int):Option (Int×Int×List Int×Int):=dV anL anM anN anO anP anQ anR anS (IntKind.i64.wrap (anT+1))
def fM.pj4 (F:Nat) (dV:Int->List Int->Int->List Int->Int->Int->List Int->Int->Int->Option (Int×Int×List Int×Int)) (anU:Int) (anV:List Int) (anW:Int) (anX:List Int) (anY:Int) (anZ:Int) (an0:List Int) (an1:Int) (an2:Int):Option (Int×Int×List Int×Int):=fM.pj3 F dV anU anV anW anX anY anZ an0 an1 an2
def fM.pl3931 (F:Nat) (dV:Int->List Int->Int->List Int->Int->Int->List Int->Int->Int->Option (Int×Int×List Int×Int)):Nat->Int->List Int->Int->List Int->Int->Int->List Int->Int->Int->Int->Int->Int->Option (Int×Int×List Int×Int)
 | 0,_,_,_,_,_,_,_,_,_,_,_,_=>none
 | k+1,TX,TY,TZ,T_,adi,Ua,Ub,adk,adl,Uc,adm,KC=>(bif (decide (KC<adm)) then ((rP.p F TX TY TZ T_ Uc KC).bind λr1=>(bif (!r1.2) then (some (0,0,([]:List Int),3)) else ((ix Ub (IntKind.i64.wrap ((IntKind.i64.wrap (Uc * Ua))+KC))).bind λn9=>(some (Ub.set n9 r1.1)).bind λl10=>fM.pl3931 F dV k TX TY TZ T_ adi Ua l10 adk adl Uc adm (IntKind.i64.wrap (KC+1))))) else (fM.pj4 F dV TX TY TZ T_ adi Ua Ub adk adl))
def fM.pl61 (F:Nat) :Nat->Int->List Int->Int->List Int->Int->Int->List Int->Int->Int->Option (Int×Int×List Int×Int)
 | 0,_,_,_,_,_,_,_,_,_=>none
 | k+1,an3,an4,adn,an5,ado,adp,adq,ads,Ud=>(bif (decide (Ud<ads)) then (fM.pl3931 F (fM.pl61 F k) F an3 an4 adn an5 ado adp adq ads Ud Ud adn 0) else (some (ado,adp,adq,0)))
def fM.p (F:Nat) (aa:Int) (ac:Int) (ar:List Int) (au:Int) (ct:Int) (iN:List Int):Option (Int×Int×List Int×Int):=(c_.p F aa ac ar).bind λr4=>(bif (!r4) then (some (0,0,([]:List Int),1)) else ((c_.p F au ct iN).bind λr11=>(bif (!r11) then (some (0,0,([]:List Int),1)) else ((bif (ac != au) then (some (0,0,([]:List Int),2)) else ((cO.p F aa ct).bind λr23=>fM.pl61 F F ac ar ct iN r23.1 r23.2.1 r23.2.2 aa 0))))))
def Bn.p (F:Nat) (aa:Int) (aG:Int) (ga:Int):Option (Int×Bool):=(bif (aa != 0) then ((fW.p F aG).bind λr1=>(fW.p F aa).bind λr3=>(if r3=0 then none else ((bif (decide (r1>(IntKind.i64.wrap (Int.tdiv ga r3)))) then (some (0,false)) else (some ((IntKind.i64.wrap (aa * aG)),true)))))) else (some ((IntKind.i64.wrap (aa * aG)),true)))
def fh.pj11 (F:Nat) (nv:Int->Int->List Int->Int->List Int->Int->Int->List Int->Int->Int->Option (Int×Int×List Int×Bool)) (an6:Int) (an7:Int) (an8:List Int) (an9:Int) (an_:List Int) (aoa:Int) (aob:Int) (aoc:List Int) (aod:Int) (aoe:Int):Option (Int×Int×List Int×Bool):=nv an6 an7 an8 an9 an_ aoa aob aoc aod (IntKind.i64.wrap (aoe+1))
def fh.pj12 (F:Nat) (nv:Int->Int->List Int->Int->List Int->Int->Int->List Int->Int->Int->Option (Int×Int×List Int×Bool)) (aof:Int) (aog:Int) (aoh:List Int) (adt:Int) (aoi:List Int) (aoj:Int) (aok:Int) (adu:List Int) (adv:Int) (adw:Int) (aol:Int):Option (Int×Int×List Int×Bool):=(ix adu (IntKind.i64.wrap ((IntKind.i64.wrap (adv * adt))+adw))).bind λn1=>(some (adu.set n1 aol)).bind λl2=>fh.pj11 F nv aof aog aoh adt aoi aoj aok l2 adv adw
def fh.pl30037 (F:Nat) (aU:Int->Int->List Int->Int->List Int->Int->Int->List Int->Int->Option (Int×Int×List Int×Bool)) (nv:Int->Int->List Int->Int->List Int->Int->Int->List Int->Int->Int->Option (Int×Int×List Int×Bool)):Nat->Int->Int->List Int->Int->List Int->Int->Int->List Int->Int->Int->Int->Int->Int->Option (Int×Int×List Int×Bool)
 | 0,_,_,_,_,_,_,_,_,_,_,_,_,_=>none
 | k+1,adx,KD,Ue,Uf,Ug,ady,adz,adA,Uh,Ui,adB,adD,KE=>(bif (decide (KE<KD)) then ((bJ.p F KD Ue Uh KE).bind λr1=>(bJ.p F Uf Ug KE Ui).bind λr4=>(Bn.p F r1 r4 1000000000000).bind λr6=>(fW.p F r6.1).bind λr8=>(bif (!r6.2) then (some (0,0,([]:List Int),false)) else ((bif (decide ((IntKind.i64.wrap (adD+r8))>1000000000000)) then (some (0,0,([]:List Int),false)) else (fh.pl30037 F aU nv k adx KD Ue Uf Ug ady adz adA Uh Ui (IntKind.i64.wrap (adB+r6.1)) (IntKind.i64.wrap (adD+r8)) (IntKind.i64.wrap (KE+1))))))) else (fh.pj12 F nv adx KD Ue Uf Ug ady adz adA Uh Ui adB))
def fh.pj9 (F:Nat) (aU:Int->Int->List Int->Int->List Int->Int->Int->List Int->Int->Option (Int×Int×List Int×Bool)) (aom:Int) (aon:Int) (aoo:List Int) (aoq:Int) (aor:List Int) (aos:Int) (aot:Int) (aou:List Int) (aov:Int):Option (Int×Int×List Int×Bool):=aU aom aon aoo aoq aor aos aot aou (IntKind.i64.wrap (aov+1))
def fh.pj10 (F:Nat) (aU:Int->Int->List Int->Int->List Int->Int->Int->List Int->Int->Option (Int×Int×List Int×Bool)) (aow:Int) (aox:Int) (aoy:List Int) (aoz:Int) (aoA:List Int) (aoB:Int) (aoC:Int) (aoD:List Int) (aoE:Int):Option (Int×Int×List Int×Bool):=fh.pj9 F aU aow aox aoy aoz aoA aoB aoC aoD aoE
def fh.pl469 (F:Nat) (aU:Int->Int->List Int->Int->List Int->Int->Int->List Int->Int->Option (Int×Int×List Int×Bool)):Nat->Int->Int->List Int->Int->List Int->Int->Int->List Int->Int->Int->Option (Int×Int×List Int×Bool)
 | 0,_,_,_,_,_,_,_,_,_,_=>none
 | k+1,adE,adF,adG,Uj,adH,adI,adJ,adK,adL,adM=>(bif (decide (adM<Uj)) then (fh.pl30037 F aU (fh.pl469 F aU k) F adE adF adG Uj adH adI adJ adK adL adM 0 0 0) else (fh.pj10 F aU adE adF adG Uj adH adI adJ adK adL))
def fh.pl29 (F:Nat) :Nat->Int->Int->List Int->Int->List Int->Int->Int->List Int->Int->Option (Int×Int×List Int×Bool)
 | 0,_,_,_,_,_,_,_,_,_=>none
 | k+1,adN,aoF,aoG,aoH,aoI,adO,adP,adQ,adS=>(bif (decide (adS<adN)) then (fh.pl469 F (fh.pl29 F k) F adN aoF aoG aoH aoI adO adP adQ adS 0) else (some (adO,adP,adQ,true)))
def fh.p (F:Nat) (aa:Int) (ac:Int) (ar:List Int) (ct:Int) (iN:List Int):Option (Int×Int×List Int×Bool):=(cD.p F aa ct).bind λr4=>fh.pl29 F F aa ac ar ct iN r4.1 r4.2.1 r4.2.2 0
def nT.pl29 (F:Nat) :Nat->Int->Int->Int->List Int->Int->Option (Int×Int×List Int)
 | 0,_,_,_,_,_=>none
 | k+1,Uk,rG,qK,nQ,KF=>(bif (decide (KF<Uk)) then ((ix nQ (IntKind.i64.wrap ((IntKind.i64.wrap (KF * Uk))+KF))).bind λn1=>(some (nQ.set n1 1)).bind λl2=>nT.pl29 F k Uk rG qK l2 (IntKind.i64.wrap (KF+1))) else (some (rG,qK,nQ)))
def nT.p (F:Nat) (aa:Int):Option (Int×Int×List Int):=(cD.p F aa aa).bind λr2=>nT.pl29 F F aa r2.1 r2.2.1 r2.2.2 0
def qe.pl7 (F:Nat) :Nat->Int->Int->Int->Int->List Int->Int->Option (List Int)
 | 0,_,_,_,_,_,_=>none
 | k+1,fp,kw,Dk,kX,kY,iC=>(bif (decide (iC<Dk)) then ((bJ.p F kX kY iC fp).bind λr2=>(bJ.p F kX kY iC kw).bind λr6=>(ix kY (IntKind.i64.wrap ((IntKind.i64.wrap (iC * kX))+fp))).bind λn10=>(some (kY.set n10 r6)).bind λl11=>(ix l11 (IntKind.i64.wrap ((IntKind.i64.wrap (iC * kX))+kw))).bind λn13=>(some (l11.set n13 r2)).bind λl14=>qe.pl7 F k fp kw Dk kX l14 (IntKind.i64.wrap (iC+1))) else (some kY))
def qe.p (F:Nat) (aa:Int) (ac:Int) (ar:List Int) (au:Int) (ci:Int):Option (List Int):=qe.pl7 F F au ci aa ac ar 0
def dw.pj10 (F:Nat) (nv:Int->Int->List Int->Int->List Int->Int->Int->List Int->Int->Int->List Int->Int->List Int->Int->Int->Int->Int->Int->Option (Bool×List Int×List Int×List Int×List Int×List Int)) (aQ:Int) (ay:Int) (aZ:List Int) (aE:Int) (bh:List Int) (aF:Int) (aD:Int) (a_:List Int) (aI:Int) (aJ:Int) (bk:List Int) (aK:Int) (bl:List Int) (aoJ:Int) (aoK:Int) (aoL:Int) (aoM:Int) (aoN:Int):Option (Bool×List Int×List Int×List Int×List Int×List Int):=nv aQ ay aZ aE bh aF aD a_ aI aJ bk aK bl aoJ aoK aoL aoM (IntKind.i64.wrap (aoN+1))
def dw.pj8 (F:Nat) (aU:Int->Int->List Int->Int->List Int->Int->Int->List Int->Int->Int->List Int->Int->List Int->Int->Int->Int->Int->Option (Bool×List Int×List Int×List Int×List Int×List Int)) (aQ:Int) (ay:Int) (aZ:List Int) (aE:Int) (bh:List Int) (aF:Int) (aD:Int) (a_:List Int) (aI:Int) (aJ:Int) (bk:List Int) (aK:Int) (bl:List Int) (aoO:Int) (aoP:Int) (aoQ:Int) (aoR:Int):Option (Bool×List Int×List Int×List Int×List Int×List Int):=aU aQ ay aZ aE bh aF aD a_ aI aJ bk aK bl aoO aoP aoQ (IntKind.i64.wrap (aoR+1))
def dw.pj9 (F:Nat) (aU:Int->Int->List Int->Int->List Int->Int->Int->List Int->Int->Int->List Int->Int->List Int->Int->Int->Int->Int->Option (Bool×List Int×List Int×List Int×List Int×List Int)) (aQ:Int) (ay:Int) (aZ:List Int) (aE:Int) (bh:List Int) (aF:Int) (aD:Int) (a_:List Int) (aI:Int) (aJ:Int) (bk:List Int) (aK:Int) (bl:List Int) (aoS:Int) (aoT:Int) (aoU:Int) (aoV:Int):Option (Bool×List Int×List Int×List Int×List Int×List Int):=dw.pj8 F aU aQ ay aZ aE bh aF aD a_ aI aJ bk aK bl aoS aoT aoU aoV
def dw.pl469 (F:Nat) (aU:Int->Int->List Int->Int->List Int->Int->Int->List Int->Int->Int->List Int->Int->List Int->Int->Int->Int->Int->Option (Bool×List Int×List Int×List Int×List Int×List Int)):Nat->Int->Int->List Int->Int->List Int->Int->Int->List Int->Int->Int->List Int->Int->List Int->Int->Int->Int->Int->Int->Option (Bool×List Int×List Int×List Int×List Int×List Int)
 | 0,_,_,_,_,_,_,_,_,_,_,_,_,_,_,_,_,_,_=>none
 | k+1,aQ,ay,aZ,aE,bh,aF,aD,a_,aI,aJ,bk,aK,bl,DZ,D_,KG,tW,tX=>(bif (decide (tX<ay)) then ((bJ.p F ay aZ tW tX).bind λr2=>(fW.p F r2).bind λr5=>(bif (decide (r5>0)) then ((bif (decide (D_<0)) then (dw.pl469 F aU k aQ ay aZ aE bh aF aD a_ aI aJ bk aK bl DZ tW tX tW (IntKind.i64.wrap (tX+1))) else ((bJ.p F ay aZ D_ KG).bind λr8=>(fW.p F r8).bind λr11=>(bif (decide (r5<r11)) then (dw.pj10 F (dw.pl469 F aU k) aQ ay aZ aE bh aF aD a_ aI aJ bk aK bl DZ tW tX tW tX) else (dw.pj10 F (dw.pl469 F aU k) aQ ay aZ aE bh aF aD a_ aI aJ bk aK bl DZ D_ KG tW tX))))) else (dw.pl469 F aU k aQ ay aZ aE bh aF aD a_ aI aJ bk aK bl DZ D_ KG tW (IntKind.i64.wrap (tX+1))))) else (dw.pj9 F aU aQ ay aZ aE bh aF aD a_ aI aJ bk aK bl DZ D_ KG tW))
def dw.pl65515 (F:Nat) :Nat->List Int->Int->List Int->Int->List Int->List Int->List Int->Int->Int->Option (Bool×List Int×List Int×List Int×List Int×List Int)
 | 0,_,_,_,_,_,_,_,_,_=>none
 | k+1,aZ,aE,bh,aD,a_,bk,bl,Ea,Bo=>(bif (decide (Bo<aE)) then ((bJ.p F aE bh Ea Bo).bind λr3=>(ix bh (IntKind.i64.wrap ((IntKind.i64.wrap (Ea * aE))+Bo))).bind λn7=>(some (bh.set n7 (IntKind.i64.wrap (0 - r3)))).bind λl8=>(bJ.p F aD a_ Bo Ea).bind λr12=>(ix a_ (IntKind.i64.wrap ((IntKind.i64.wrap (Bo * aD))+Ea))).bind λn16=>(some (a_.set n16 (IntKind.i64.wrap (0 - r12)))).bind λl17=>dw.pl65515 F k aZ aE l8 aD l17 bk bl Ea (IntKind.i64.wrap (Bo+1))) else (some (true,aZ,bh,a_,bk,bl)))
def dw.pj5 (F:Nat)  (aZ:List Int) (aE:Int) (bh:List Int) (aD:Int) (a_:List Int) (bk:List Int) (bl:List Int) (aoW:Int):Option (Bool×List Int×List Int×List Int×List Int×List Int):=dw.pl65515 F F aZ aE bh aD a_ bk bl aoW 0
def dw.pl65513 (F:Nat) :Nat->Int->List Int->Int->List Int->Int->List Int->List Int->List Int->Int->Int->Option (Bool×List Int×List Int×List Int×List Int×List Int)
 | 0,_,_,_,_,_,_,_,_,_,_=>none
 | k+1,ay,aZ,aE,bh,aD,a_,bk,bl,KH,KI=>(bif (decide (KI<ay)) then ((bJ.p F ay aZ KH KI).bind λr2=>(ix aZ (IntKind.i64.wrap ((IntKind.i64.wrap (KH * ay))+KI))).bind λn6=>(some (aZ.set n6 (IntKind.i64.wrap (0 - r2)))).bind λl7=>dw.pl65513 F k ay l7 aE bh aD a_ bk bl KH (IntKind.i64.wrap (KI+1))) else (dw.pj5 F aZ aE bh aD a_ bk bl KH))
def dw.pj6 (F:Nat)  (aQ:Int) (ay:Int) (aZ:List Int) (aE:Int) (bh:List Int) (aF:Int) (aD:Int) (a_:List Int) (aI:Int) (aJ:Int) (bk:List Int) (aK:Int) (bl:List Int) (rQ:Int) (KJ:Int) (Ul:Int):Option (Bool×List Int×List Int×List Int×List Int×List Int):=(bif (decide (KJ<0)) then (some (false,aZ,bh,a_,bk,bl)) else ((cl.p F ay aZ KJ rQ).bind λr1=>(cl.p F aE bh KJ rQ).bind λr4=>(qe.p F aF aD a_ KJ rQ).bind λr7=>(qe.p F aQ ay r1 Ul rQ).bind λr10=>(qe.p F aI aJ bk Ul rQ).bind λr13=>(cl.p F aK bl Ul rQ).bind λr16=>(bJ.p F ay r10 rQ rQ).bind λr20=>(bif (decide (r20<0)) then (dw.pl65513 F F ay r10 aE r4 aD r7 r13 r16 rQ 0) else (some (true,r10,r4,r7,r13,r16)))))
def dw.pl29 (F:Nat) :Nat->Int->Int->List Int->Int->List Int->Int->Int->List Int->Int->Int->List Int->Int->List Int->Int->Int->Int->Int->Option (Bool×List Int×List Int×List Int×List Int×List Int)
 | 0,_,_,_,_,_,_,_,_,_,_,_,_,_,_,_,_,_=>none
 | k+1,aQ,ay,aZ,aE,bh,aF,aD,a_,aI,aJ,bk,aK,bl,qL,rR,adT,adU=>(bif (decide (adU<aQ)) then (dw.pl469 F (dw.pl29 F k) F aQ ay aZ aE bh aF aD a_ aI aJ bk aK bl qL rR adT adU qL) else (dw.pj6 F aQ ay aZ aE bh aF aD a_ aI aJ bk aK bl qL rR adT))
def dw.p (F:Nat) (ck:Int) (az:Int) (fk:List Int) (bX:Int) (gA:List Int) (bP:Int) (bL:Int) (cP:List Int) (bY:Int) (bZ:Int) (gB:List Int) (b_:Int) (gC:List Int) (ai:Int):Option (Bool×List Int×List Int×List Int×List Int×List Int):=dw.pl29 F F ck az fk bX gA bP bL cP bY bZ gB b_ gC ai (-1) (-1) ai
def KK.p (F:Nat) (aa:Int) (aG:Int):Option (Int):=(if aG=0 then none else ((if aG=0 then none else ((bif (decide ((Int.tmod aa aG)<0)) then (some (IntKind.i64.wrap ((IntKind.i64.wrap (Int.tdiv aa aG)) - 1))) else (some (IntKind.i64.wrap (Int.tdiv aa aG))))))))
def KL.p (F:Nat) (aa:Int) (aG:Int) (ga:Int):Option (Int):=(Bn.p F aG ga 2000000000000).bind λr1=>(bif (!r1.2) then (some 3000000000000) else (some (IntKind.i64.wrap (aa - r1.1))))
def KM.p (F:Nat) (aB:Bool) (au:Int) (ka:List Int) (gH:Int) (gI:Int) (gw:Int):Option (Bool×List Int):=(fW.p F gw).bind λr2=>(bif (decide (r2>1000000000000)) then (some (true,ka)) else ((ix ka (IntKind.i64.wrap ((IntKind.i64.wrap (gH * au))+gI))).bind λn6=>(some (ka.set n6 gw)).bind λl7=>some (aB,l7)))
def mI.pl7 (F:Nat) :Nat->Bool->Int->Int->Int->Int->List Int->Int->Option (Bool×List Int)
 | 0,_,_,_,_,_,_,_=>none
 | k+1,aB,vR,lU,Eb,qM,qf,qg=>(bif (decide (qg<qM)) then ((bif (!aB) then ((bJ.p F qM qf vR qg).bind λr3=>(bJ.p F qM qf lU qg).bind λr8=>(KL.p F r3 Eb r8).bind λr12=>(KM.p F aB qM qf vR qg r12).bind λr16=>mI.pl7 F k r16.1 vR lU Eb qM r16.2 (IntKind.i64.wrap (qg+1))) else (some (aB,qf)))) else (some (aB,qf)))
def mI.p (F:Nat) (aB:Bool) (au:Int) (ka:List Int) (gH:Int) (gI:Int) (gw:Int):Option (Bool×List Int):=mI.pl7 F F aB gH gI gw au ka 0
def mJ.pl7 (F:Nat) :Nat->Bool->Int->Int->Int->Int->Int->List Int->Int->Option (Bool×List Int)
 | 0,_,_,_,_,_,_,_,_=>none
 | k+1,aB,vR,lU,Eb,adV,qM,qf,qg=>(bif (decide (qg<adV)) then ((bif (!aB) then ((bJ.p F qM qf qg vR).bind λr3=>(bJ.p F qM qf qg lU).bind λr8=>(KL.p F r3 Eb r8).bind λr12=>(KM.p F aB qM qf qg vR r12).bind λr16=>mJ.pl7 F k r16.1 vR lU Eb adV qM r16.2 (IntKind.i64.wrap (qg+1))) else (some (aB,qf)))) else (some (aB,qf)))
def mJ.p (F:Nat) (aB:Bool) (ai:Int) (au:Int) (ka:List Int) (gH:Int) (gI:Int) (gw:Int):Option (Bool×List Int):=mJ.pl7 F F aB gH gI gw ai au ka 0
def Ec.p (F:Nat) (az:Int) (fk:List Int) (bX:Int) (gA:List Int) (bP:Int) (bL:Int) (cP:List Int) (aB:Bool) (ai:Int) (cp:Int) (eT:Int):Option (List Int×List Int×List Int×Bool):=(bif (eT != 0) then ((mI.p F aB az fk ai cp eT).bind λr2=>(mI.p F r2.1 bX gA ai cp eT).bind λr5=>(mJ.p F r5.1 bP bL cP cp ai (IntKind.i64.wrap (0 - eT))).bind λr8=>some (r2.2,r5.2,r8.2,r8.1)) else (some (fk,gA,cP,aB)))
def KN.p (F:Nat) (ck:Int) (az:Int) (fk:List Int) (bY:Int) (bZ:Int) (gB:List Int) (b_:Int) (gC:List Int) (aB:Bool) (ai:Int) (cp:Int) (eT:Int):Option (List Int×List Int×List Int×Bool):=(bif (eT != 0) then ((mJ.p F aB ck az fk ai cp eT).bind λr2=>(mJ.p F r2.1 bY bZ gB ai cp eT).bind λr5=>(mI.p F r5.1 b_ gC cp ai (IntKind.i64.wrap (0 - eT))).bind λr8=>some (r2.2,r5.2,r8.2,r8.1)) else (some (fk,gB,gC,aB)))
def kn.pl29 (F:Nat) :Nat->Int->List Int->Int->Int->Option (Bool)
 | 0,_,_,_,_=>none
 | k+1,ay,kb,xw,Um=>(bif (decide (Um<ay)) then ((bJ.p F ay kb xw Um).bind λr1=>(bif (r1 != 0) then (some false) else (kn.pl29 F k ay kb xw (IntKind.i64.wrap (Um+1))))) else (some true))
def kn.pj1 (F:Nat)  (ay:Int) (kb:List Int) (adW:Int):Option (Bool):=kn.pl29 F F ay kb adW (IntKind.i64.wrap (adW+1))
def kn.pl13 (F:Nat) :Nat->Int->Int->List Int->Int->Int->Option (Bool)
 | 0,_,_,_,_,_=>none
 | k+1,aQ,ay,kb,qL,rR=>(bif (decide (rR<aQ)) then ((bJ.p F ay kb rR qL).bind λr1=>(bif (r1 != 0) then (some false) else (kn.pl13 F k aQ ay kb qL (IntKind.i64.wrap (rR+1))))) else (kn.pj1 F ay kb qL))
def kn.p (F:Nat) (ck:Int) (az:Int) (fk:List Int) (ai:Int):Option (Bool):=kn.pl13 F F ck az fk ai (IntKind.i64.wrap (ai+1))
def jn.pj3 (F:Nat) (qc:Int->Int->List Int->Int->Int->Option (Int)) (aQ:Int) (ay:Int) (kb:List Int) (aoX:Int) (aoY:Int):Option (Int):=qc aQ ay kb aoX (IntKind.i64.wrap (aoY+1))
def jn.pj4 (F:Nat) (qc:Int->Int->List Int->Int->Int->Option (Int)) (aQ:Int) (ay:Int) (kb:List Int) (aoZ:Int) (ao0:Int):Option (Int):=jn.pj3 F qc aQ ay kb aoZ ao0
def jn.pl213 (F:Nat) (qc:Int->Int->List Int->Int->Int->Option (Int)):Nat->Int->Int->List Int->Int->Int->Int->Option (Int)
 | 0,_,_,_,_,_,_=>none
 | k+1,aQ,ay,kb,KO,KP,Un=>(bif (decide (Un<ay)) then ((bJ.p F ay kb KP Un).bind λr1=>(bJ.p F ay kb KO KO).bind λr4=>(if r4=0 then none else ((bif ((Int.tmod r1 r4) != 0) then (some KP) else (jn.pl213 F qc k aQ ay kb KO KP (IntKind.i64.wrap (Un+1))))))) else (jn.pj4 F qc aQ ay kb KO KP))
def jn.pl13 (F:Nat) :Nat->Int->Int->List Int->Int->Int->Option (Int)
 | 0,_,_,_,_,_=>none
 | k+1,aQ,ay,kb,qL,rR=>(bif (decide (rR<aQ)) then (jn.pl213 F (jn.pl13 F k) F aQ ay kb qL rR (IntKind.i64.wrap (qL+1))) else (some (-1)))
def jn.p (F:Nat) (ck:Int) (az:Int) (fk:List Int) (ai:Int):Option (Int):=jn.pl13 F F ck az fk ai (IntKind.i64.wrap (ai+1))
def fT.pj1 (F:Nat)  (aQ:Int) (ay:Int) (aZ:List Int) (aE:Int) (bh:List Int) (aF:Int) (aD:Int) (a_:List Int) (bk:List Int) (bl:List Int) (aB:Bool) (Uo:Int):Option (Bool×Bool×List Int×List Int×List Int×List Int×List Int×Bool):=(bif aB then (some (false,false,aZ,bh,a_,bk,bl,aB)) else ((kn.p F aQ ay aZ Uo).bind λr3=>(bif (!r3) then (some (false,false,aZ,bh,a_,bk,bl,aB)) else ((jn.p F aQ ay aZ Uo).bind λr8=>(bif (decide (r8<0)) then (some (true,false,aZ,bh,a_,bk,bl,aB)) else ((Ec.p F ay aZ aE bh aF aD a_ aB Uo r8 (-1)).bind λr13=>some (false,false,r13.1,r13.2.1,r13.2.2.1,bk,bl,r13.2.2.2)))))))
def fT.pl61 (F:Nat) :Nat->Int->Int->List Int->Int->List Int->Int->Int->List Int->Int->Int->List Int->Int->List Int->Bool->Int->Int->Option (Bool×Bool×List Int×List Int×List Int×List Int×List Int×Bool)
 | 0,_,_,_,_,_,_,_,_,_,_,_,_,_,_,_,_=>none
 | k+1,aQ,ay,aZ,aE,bh,aF,aD,a_,aI,aJ,bk,aK,bl,aB,vS,KQ=>(bif (decide (KQ<ay)) then ((bif (!aB) then ((bJ.p F ay aZ vS KQ).bind λr2=>(bJ.p F ay aZ vS vS).bind λr7=>(KK.p F r2 r7).bind λr10=>(KN.p F aQ ay aZ aI aJ bk aK bl aB KQ vS r10).bind λr13=>fT.pl61 F k aQ ay r13.1 aE bh aF aD a_ aI aJ r13.2.1 aK r13.2.2.1 r13.2.2.2 vS (IntKind.i64.wrap (KQ+1))) else (fT.pj1 F aQ ay aZ aE bh aF aD a_ bk bl aB vS))) else (fT.pj1 F aQ ay aZ aE bh aF aD a_ bk bl aB vS))
def fT.pj2 (F:Nat)  (aQ:Int) (ay:Int) (aZ:List Int) (aE:Int) (bh:List Int) (aF:Int) (aD:Int) (a_:List Int) (aI:Int) (aJ:Int) (bk:List Int) (aK:Int) (bl:List Int) (aB:Bool) (nZ:Int):Option (Bool×Bool×List Int×List Int×List Int×List Int×List Int×Bool):=fT.pl61 F F aQ ay aZ aE bh aF aD a_ aI aJ bk aK bl aB nZ (IntKind.i64.wrap (nZ+1))
def fT.pl29 (F:Nat) :Nat->Int->Int->List Int->Int->List Int->Int->Int->List Int->Int->Int->List Int->Int->List Int->Bool->Int->Int->Option (Bool×Bool×List Int×List Int×List Int×List Int×List Int×Bool)
 | 0,_,_,_,_,_,_,_,_,_,_,_,_,_,_,_,_=>none
 | k+1,aQ,ay,aZ,aE,bh,aF,aD,a_,aI,aJ,bk,aK,bl,aB,kV,KR=>(bif (decide (KR<aQ)) then ((bif (!aB) then ((bJ.p F ay aZ KR kV).bind λr2=>(bJ.p F ay aZ kV kV).bind λr7=>(KK.p F r2 r7).bind λr10=>(Ec.p F ay aZ aE bh aF aD a_ aB KR kV r10).bind λr13=>fT.pl29 F k aQ ay r13.1 aE r13.2.1 aF aD r13.2.2.1 aI aJ bk aK bl r13.2.2.2 kV (IntKind.i64.wrap (KR+1))) else (fT.pj2 F aQ ay aZ aE bh aF aD a_ aI aJ bk aK bl aB kV))) else (fT.pj2 F aQ ay aZ aE bh aF aD a_ aI aJ bk aK bl aB kV))
def fT.p (F:Nat) (ck:Int) (az:Int) (fk:List Int) (bX:Int) (gA:List Int) (bP:Int) (bL:Int) (cP:List Int) (bY:Int) (bZ:Int) (gB:List Int) (b_:Int) (gC:List Int) (aB:Bool) (ai:Int):Option (Bool×Bool×List Int×List Int×List Int×List Int×List Int×Bool):=(dw.p F ck az fk bX gA bP bL cP bY bZ gB b_ gC ai).bind λr1=>(bif (!r1.1) then (some (true,true,r1.2.1,r1.2.2.1,r1.2.2.2.1,r1.2.2.2.2.1,r1.2.2.2.2.2,aB)) else (fT.pl29 F F ck az r1.2.1 bX r1.2.2.1 bP bL r1.2.2.2.1 bY bZ r1.2.2.2.2.1 b_ r1.2.2.2.2.2 aB ai (IntKind.i64.wrap (ai+1))))
def gP.pj3 (F:Nat) (aU:Int->Int->Int->Int->List Int->Int->Int->List Int->Int->Int->List Int->Int->Int->List Int->Int->Int->List Int->Bool->Int->Option (Int×Int×List Int×Int×Int×List Int×Int×Int×List Int×Int×Int×List Int×Int×Int×List Int×Bool)) (ao1:Int) (ao2:Int) (ao3:Int) (ao4:Int) (ao5:List Int) (ao6:Int) (ao7:Int) (ao8:List Int) (ao9:Int) (ao_:Int) (apa:List Int) (apb:Int) (apc:Int) (apd:List Int) (ape:Int) (apf:Int) (apg:List Int) (aph:Bool) (api:Int):Option (Int×Int×List Int×Int×Int×List Int×Int×Int×List Int×Int×Int×List Int×Int×Int×List Int×Bool):=aU ao1 ao2 ao3 ao4 ao5 ao6 ao7 ao8 ao9 ao_ apa apb apc apd ape apf apg aph (IntKind.i64.wrap (api+1))
def gP.pj4 (F:Nat) (aU:Int->Int->Int->Int->List Int->Int->Int->List Int->Int->Int->List Int->Int->Int->List Int->Int->Int->List Int->Bool->Int->Option (Int×Int×List Int×Int×Int×List Int×Int×Int×List Int×Int×Int×List Int×Int×Int×List Int×Bool)) (apj:Int) (apk:Int) (Up:Int) (Uq:Int) (Ur:List Int) (Us:Int) (Ut:Int) (Uu:List Int) (Uv:Int) (Uw:Int) (Ux:List Int) (Uy:Int) (Uz:Int) (UA:List Int) (UB:Int) (UC:Int) (UD:List Int) (KS:Bool) (LU:Int) (apl:Bool):Option (Int×Int×List Int×Int×Int×List Int×Int×Int×List Int×Int×Int×List Int×Int×Int×List Int×Bool):=(bif apl then (some (Up,Uq,Ur,Us,Ut,Uu,Uv,Uw,Ux,Uy,Uz,UA,UB,UC,UD,KS)) else ((bif KS then (some (Up,Uq,Ur,Us,Ut,Uu,Uv,Uw,Ux,Uy,Uz,UA,UB,UC,UD,KS)) else (gP.pj3 F aU apj apk Up Uq Ur Us Ut Uu Uv Uw Ux Uy Uz UA UB UC UD KS LU))))
def gP.pl938 (F:Nat) (aU:Int->Int->Int->Int->List Int->Int->Int->List Int->Int->Int->List Int->Int->Int->List Int->Int->Int->List Int->Bool->Int->Option (Int×Int×List Int×Int×Int×List Int×Int×Int×List Int×Int×Int×List Int×Int×Int×List Int×Bool)):Nat->Int->Int->Int->Int->List Int->Int->Int->List Int->Int->Int->List Int->Int->Int->List Int->Int->Int->List Int->Bool->Int->Bool->Bool->Option (Int×Int×List Int×Int×Int×List Int×Int×Int×List Int×Int×Int×List Int×Int×Int×List Int×Bool)
 | 0,_,_,_,_,_,_,_,_,_,_,_,_,_,_,_,_,_,_,_,_,_=>none
 | k+1,UE,UF,KT,KU,UG,UH,KV,UI,KW,KX,UJ,KY,KZ,UK,UL,K_,UM,La,Lb,apm,adX=>(bif (!apm) then ((bif (!La) then ((fT.p F KT KU UG KV UI KW KX UJ KY KZ UK K_ UM La Lb).bind λr2=>gP.pl938 F aU k UE UF KT KU r2.2.2.1 UH KV r2.2.2.2.1 KW KX r2.2.2.2.2.1 KY KZ r2.2.2.2.2.2.1 UL K_ r2.2.2.2.2.2.2.1 r2.2.2.2.2.2.2.2 Lb r2.1 r2.2.1) else (gP.pj4 F aU UE UF KT KU UG UH KV UI KW KX UJ KY KZ UK UL K_ UM La Lb adX))) else (gP.pj4 F aU UE UF KT KU UG UH KV UI KW KX UJ KY KZ UK UL K_ UM La Lb adX))
def gP.pl29 (F:Nat) :Nat->Int->Int->Int->Int->List Int->Int->Int->List Int->Int->Int->List Int->Int->Int->List Int->Int->Int->List Int->Bool->Int->Option (Int×Int×List Int×Int×Int×List Int×Int×Int×List Int×Int×Int×List Int×Int×Int×List Int×Bool)
 | 0,_,_,_,_,_,_,_,_,_,_,_,_,_,_,_,_,_,_,_=>none
 | k+1,UN,UO,adY,adZ,ad0,ad2,ad3,ad4,ad5,ad6,ad7,ad8,ad9,ad_,aea,aeb,aec,aed,aee=>(bif (decide (aee<(if UO<UN then UO else UN))) then (gP.pl938 F (gP.pl29 F k) F UN UO adY adZ ad0 ad2 ad3 ad4 ad5 ad6 ad7 ad8 ad9 ad_ aea aeb aec aed aee false false) else (some (adY,adZ,ad0,ad2,ad3,ad4,ad5,ad6,ad7,ad8,ad9,ad_,aea,aeb,aec,aed)))
def gP.p (F:Nat) (aa:Int) (ac:Int) (ar:List Int):Option (Int×Int×List Int×Int×Int×List Int×Int×Int×List Int×Int×Int×List Int×Int×Int×List Int×Bool):=(apn ([]:List Int) ar).bind λl4=>(nT.p F aa).bind λr7=>(nT.p F aa).bind λr10=>(nT.p F ac).bind λr13=>(nT.p F ac).bind λr16=>gP.pl29 F F aa ac aa ac l4 r7.1 r7.2.1 r7.2.2 r10.1 r10.2.1 r10.2.2 r13.1 r13.2.1 r13.2.2 r16.1 r16.2.1 r16.2.2 false 0
def aef.p (F:Nat) (aa:Int):Option (Bool):=some (aa != 0)
def qh.pl13 (F:Nat) :Nat->List Int->Int->Int->Option (Int)
 | 0,_,_,_=>none
 | k+1,dW,gR,eW=>(bif (decide (eW<gR)) then ((ix dW eW).bind λn1=>(aef.p F (gt dW n1)).bind λr2=>(bif r2 then (some eW) else (qh.pl13 F k dW gR (IntKind.i64.wrap (eW+1))))) else (some (-1)))
def qh.p (F:Nat) (aY:List Int):Option (Int):=qh.pl13 F F aY (aY.length:Int) 0
def UP.p (F:Nat) (aY:List Int):Option (Bool):=(qh.p F aY).bind λr1=>some (decide (r1>=0))
def Lc.p (F:Nat) (aa:Int):Option (Bool):=some (aa==1)
def rS.pl13 (F:Nat) :Nat->List Int->Int->Int->Option (Int)
 | 0,_,_,_=>none
 | k+1,dW,gR,eW=>(bif (decide (eW<gR)) then ((ix dW eW).bind λn1=>(Lc.p F (gt dW n1)).bind λr2=>(bif r2 then (some eW) else (rS.pl13 F k dW gR (IntKind.i64.wrap (eW+1))))) else (some (-1)))
def rS.p (F:Nat) (aY:List Int):Option (Int):=rS.pl13 F F aY (aY.length:Int) 0
def kZ.pj3 (F:Nat) (dV:List Int->Int->Int->Option (List Int)) (apo:List Int) (sb:Int) (apq:Int):Option (List Int):=dV apo sb (IntKind.i64.wrap (apq+1))
def kZ.pj2 (F:Nat)  (apr:List Int) (aps:Int):Option (List Int):=(cutf apr 0 aps).bind λl1=>some l1
def kZ.pl61 (F:Nat) :Nat->List Int->Int->Int->Option (List Int)
 | 0,_,_,_=>none
 | k+1,jX,dS,kc=>(bif (decide (kc<(jX.length:Int))) then ((ix jX kc).bind λn1=>(Lc.p F (gt jX n1)).bind λr2=>(bif (!r2) then ((ix jX dS).bind λn4=>(some (jX.set n4 (gt jX n1))).bind λl5=>kZ.pj3 F (kZ.pl61 F k) l5 (IntKind.i64.wrap (dS+1)) kc) else (kZ.pj3 F (kZ.pl61 F k) jX dS kc))) else (kZ.pj2 F jX dS))
def kZ.p (F:Nat) (aY:List Int):Option (List Int):=(rS.p F aY).bind λr2=>(bif (r2==(-1)) then (some aY) else (kZ.pl61 F F aY r2 (IntKind.i64.wrap (r2+1))))
def UQ.p (F:Nat) (aY:List Int):Option (List Int):=(kZ.p F aY).bind λr1=>some r1
def Ld.p (F:Nat) (aa:Int) (ac:Int) (ar:List Int) (au:Int) (ct:Int) (iN:List Int):Option (Int×List Int×Int):=(fM.p F au ct iN aa ac ar).bind λr4=>(bif (r4.2.2.2 != 0) then (some (0,([]:List Int),r4.2.2.2)) else ((UP.p F r4.2.2.1).bind λr17=>(bif r17 then (some (0,([]:List Int),5)) else ((bT.p F aa ac ar).bind λr25=>(bT.p F au ct iN).bind λr27=>(bif (r25.2 != 0) then (some (0,([]:List Int),3)) else ((bif (r27.2 != 0) then (some (0,([]:List Int),3)) else ((gr.p F r25.1).bind λr41=>(gr.p F r27.1).bind λr46=>(UQ.p F r25.1).bind λr50=>some ((IntKind.i64.wrap ((IntKind.i64.wrap (aa - r41)) - r46)),r50,0)))))))))
def cC.pj16 (F:Nat) (Bp:Int->Int->List Int->Int->Int->Int->Int->Int->Int->Option (Int×List Int)) (apt:Int) (apu:Int) (apv:List Int) (apw:Int) (apx:Int) (apy:Int) (apz:Int) (apA:Int) (apB:Int):Option (Int×List Int):=Bp apt apu apv apw apx apA apB apy (IntKind.i64.wrap (apz+1))
def cC.pj17 (F:Nat) (Bp:Int->Int->List Int->Int->Int->Int->Int->Int->Int->Option (Int×List Int)) (apC:Int) (apD:Int) (apE:List Int) (apF:Int) (apG:Int) (apH:Int) (apI:Int) (apJ:Int) (apK:Int):Option (Int×List Int):=cC.pj16 F Bp apC apD apE apF apG apH apI apJ apK
def cC.pl964565 (F:Nat) (aU:Int->Int->List Int->Int->Int->Int->Int->Option (Int×List Int)) (Bp:Int->Int->List Int->Int->Int->Int->Int->Int->Int->Option (Int×List Int)):Nat->Int->Int->List Int->Int->Int->Int->Int->Int->Int->Int->Option (Int×List Int)
 | 0,_,_,_,_,_,_,_,_,_,_=>none
 | k+1,aeg,tY,qi,aeh,Le,aei,aej,Bq,Ed,Ee=>(bif (decide (Ee<tY)) then ((ix qi (IntKind.i64.wrap ((IntKind.i64.wrap (Ed * tY))+Ee))).bind λn2=>(ix qi (IntKind.i64.wrap ((IntKind.i64.wrap (Ed * tY))+Ee))).bind λn5=>(ix qi (IntKind.i64.wrap ((IntKind.i64.wrap (Bq * tY))+Bq))).bind λn8=>(ix qi (IntKind.i64.wrap ((IntKind.i64.wrap (Ed * tY))+Bq))).bind λn11=>(ix qi (IntKind.i64.wrap ((IntKind.i64.wrap (Bq * tY))+Ee))).bind λn14=>(if Le=0 then none else ((some (qi.set n2 (IntKind.i64.wrap (Int.tdiv (IntKind.i64.wrap ((IntKind.i64.wrap ((gt qi n5) * (gt qi n8))) - (IntKind.i64.wrap ((gt qi n11) * (gt qi n14))))) Le)))).bind λl17=>cC.pl964565 F aU Bp k aeg tY l17 aeh Le aei aej Bq Ed (IntKind.i64.wrap (Ee+1))))) else (cC.pj17 F Bp aeg tY qi aeh Le Bq Ed aei aej))
def cC.pj14 (F:Nat) (aU:Int->Int->List Int->Int->Int->Int->Int->Option (Int×List Int)) (apL:Int) (apM:Int) (apN:List Int) (apO:Int) (apP:Int) (apQ:Int) (apR:Int):Option (Int×List Int):=aU apL apM apN apO apP apQ (IntKind.i64.wrap (apR+1))
def cC.pj15 (F:Nat) (aU:Int->Int->List Int->Int->Int->Int->Int->Option (Int×List Int)) (apS:Int) (aek:Int) (UR:List Int) (apT:Int) (ael:Int) (apU:Int) (apV:Int):Option (Int×List Int):=(ix UR (IntKind.i64.wrap ((IntKind.i64.wrap (ael * aek))+ael))).bind λn2=>cC.pj14 F aU apS aek UR apT (gt UR n2) apU apV
def cC.pl60285 (F:Nat) (aU:Int->Int->List Int->Int->Int->Int->Int->Option (Int×List Int)):Nat->Int->Int->List Int->Int->Int->Int->Int->Int->Int->Option (Int×List Int)
 | 0,_,_,_,_,_,_,_,_,_=>none
 | k+1,US,aem,aen,aeo,apW,aep,aeq,UT,aer=>(bif (decide (aer<US)) then (cC.pl964565 F aU (cC.pl60285 F aU k) F US aem aen aeo apW aep aeq UT aer (IntKind.i64.wrap (UT+1))) else (cC.pj15 F aU US aem aen aeo UT aep aeq))
def cC.pj18 (F:Nat) (aU:Int->Int->List Int->Int->Int->Int->Int->Option (Int×List Int)) (apX:Int) (apY:Int) (apZ:List Int) (ap1:Int) (ap2:Int) (aes:Int) (ap3:Int) (ap4:Int):Option (Int×List Int):=cC.pl60285 F aU F apX apY apZ ap1 ap2 ap3 ap4 aes (IntKind.i64.wrap (aes+1))
def cC.pj19 (F:Nat) (aU:Int->Int->List Int->Int->Int->Int->Int->Option (Int×List Int)) (ap5:Int) (ap6:Int) (ap7:List Int) (ap8:Int) (ap9:Int) (ap_:Int) (aqa:Int) (aqb:Int):Option (Int×List Int):=cC.pj18 F aU ap5 ap6 ap7 ap8 ap9 ap_ aqa aqb
def cC.pl241131 (F:Nat) (aU:Int->Int->List Int->Int->Int->Int->Int->Option (Int×List Int)):Nat->Int->Int->List Int->Int->Int->Int->Int->Int->Int->Int->Int->Option (Int×List Int)
 | 0,_,_,_,_,_,_,_,_,_,_,_=>none
 | k+1,aet,Lf,Br,aeu,aev,aew,aex,UU,aey,aez,Lg=>(bif (decide (Lg<aez)) then ((ix Br (IntKind.i64.wrap ((IntKind.i64.wrap (UU * Lf))+Lg))).bind λn2=>(ix Br (IntKind.i64.wrap ((IntKind.i64.wrap (aey * Lf))+Lg))).bind λn5=>(some (Br.set n2 (gt Br n5))).bind λl7=>(some (l7.set n5 (gt Br n2))).bind λl9=>cC.pl241131 F aU k aet Lf l9 aeu aev aew aex UU aey aez (IntKind.i64.wrap (Lg+1))) else (cC.pj19 F aU aet Lf Br aeu aev UU aew aex))
def cC.pj20 (F:Nat) (aU:Int->Int->List Int->Int->Int->Int->Int->Option (Int×List Int)) (aqc:Int) (aqd:Int) (aqe:List Int) (aqf:Int) (aqg:Int) (aeA:Int) (aqh:Int) (aqi:Int):Option (Int×List Int):=cC.pl60285 F aU F aqc aqd aqe aqf aqg aqh aqi aeA (IntKind.i64.wrap (aeA+1))
def cC.pj21 (F:Nat) (aU:Int->Int->List Int->Int->Int->Int->Int->Option (Int×List Int)) (UV:Int) (UW:Int) (UX:List Int) (aeB:Int) (aeC:Int) (UY:Int) (UZ:Int) (aeD:Int) (aeE:Int):Option (Int×List Int):=(bif (UZ==UV) then (some (0,UX)) else ((bif (UZ != UY) then (cC.pl241131 F aU F UV UW UX (IntKind.i64.wrap (0 - aeB)) aeC aeD aeE UY UZ UW 0) else (cC.pj20 F aU UV UW UX aeB aeC UY aeD aeE))))
def cC.pl3766 (F:Nat) (aU:Int->Int->List Int->Int->Int->Int->Int->Option (Int×List Int)):Nat->Int->Int->List Int->Int->Int->Int->Int->Int->Int->Option (Int×List Int)
 | 0,_,_,_,_,_,_,_,_,_=>none
 | k+1,Lh,Li,Ef,U_,Va,Vb,Vc,Lj,Eg=>(bif (decide (Eg<Lh)) then ((ix Ef (IntKind.i64.wrap ((IntKind.i64.wrap (Eg * Li))+Lj))).bind λn2=>(bif ((gt Ef n2)==0) then (cC.pl3766 F aU k Lh Li Ef U_ Va Vb Vc Lj (IntKind.i64.wrap (Eg+1))) else (cC.pj21 F aU Lh Li Ef U_ Va Lj Eg Vb Vc))) else (cC.pj21 F aU Lh Li Ef U_ Va Lj Eg Vb Vc))
def cC.pj11 (F:Nat)  (aqj:Int) (aqk:Int) (z0_2l:List Int):Option (Int×List Int):=some ((IntKind.i64.wrap (aqj * aqk)),z0_2l)
def cC.pl29 (F:Nat) :Nat->Int->Int->List Int->Int->Int->Int->Int->Option (Int×List Int)
 | 0,_,_,_,_,_,_,_=>none
 | k+1,Hv,tv,qF,fV,aeF,aeG,Lk=>(bif (decide (Lk<aeG)) then (cC.pl3766 F (cC.pl29 F k) F Hv tv qF fV aeF aeG Lk Lk Lk) else (cC.pj11 F fV aeF qF))
def cC.p (F:Nat) (aa:Int) (ac:Int) (ar:List Int):Option (Int×List Int):=cC.pl29 F F aa ac ar 1 1 aa 0
def Vd.p (F:Nat) (aa:Int) (ac:Int) (ar:List Int):Option (Int×Int):=(c_.p F aa ac ar).bind λr2=>(bif (!r2) then (some (0,1)) else ((bif (aa != ac) then (some (0,2)) else ((bw.p F aa ac ar).bind λr6=>(bif (decide (r6>1000000000)) then (some (0,3)) else ((ib.p F aa ac ar).bind λr9=>(cC.p F r9.1 r9.2.1 r9.2.2).bind λr11=>some (r11.1,0)))))))
def Ve.p (F:Nat) (aa:Int) (ac:Int) (ar:List Int):Option (Int×Int):=(cz.p F aa ac ar).bind λr2=>(bif (!r2) then (some (0,1)) else ((bif (aa != ac) then (some (0,2)) else ((bF.p F aa ac ar).bind λr6=>(bif (!r6) then (some (0,3)) else ((ak.p F aa ar).bind λr9=>some (r9,0)))))))
def aeH.p (F:Nat) (aY:List Int) (aG:Int):Option (Int):=(bif (decide ((IntKind.i64.wrap (aG - (aY.length:Int)))<0)) then (some (-1)) else (some (IntKind.i64.wrap (aG - (aY.length:Int)))))
def Vf.p (F:Nat) (ar:List Int) (au:Int):Option (Int):=(aeH.p F ar au).bind λr2=>(bif (decide (r2<0)) then (some (-1)) else (some r2))
def rT.pl29 (F:Nat) :Nat->List Int->List Int->Int->Option (List Int)
 | 0,_,_,_=>none
 | k+1,gL,Vg,jG=>(bif (decide (jG<(gL.length:Int))) then ((ix gL jG).bind λn1=>(ix Vg jG).bind λn2=>(some (Vg.set n2 (gt gL n1))).bind λl3=>rT.pl29 F k gL l3 (IntKind.i64.wrap (jG+1))) else (some Vg))
def rT.p (F:Nat) (aY:List Int):Option (List Int):=(mkn (aY.length:Int) (0:Int)).bind λl1=>rT.pl29 F F aY l1 0
def Eh.p (F:Nat) (aa:Int) (ac:Int) (ar:List Int):Option (Int×Int×List Int):=(rT.p F ar).bind λr6=>some (aa,ac,r6)
def rU.pl29 (F:Nat) :Nat->List Int->List Int->Int->Option (Bool)
 | 0,_,_,_=>none
 | k+1,gL,nM,nY=>(bif (decide (nY<(gL.length:Int))) then ((ix gL nY).bind λn1=>(ix nM nY).bind λn2=>(bif ((gt gL n1) != (gt nM n2)) then (some false) else (rU.pl29 F k gL nM (IntKind.i64.wrap (nY+1))))) else (some true))
def rU.p (F:Nat) (aY:List Int) (rr:List Int):Option (Bool):=(bif ((aY.length:Int) != (rr.length:Int)) then (some false) else (rU.pl29 F F aY rr 0))
def Vh.p (F:Nat) (aa:Int) (ac:Int) (ar:List Int) (au:Int) (ct:Int) (iN:List Int):Option (Bool):=(bif (aa != au) then (some false) else ((bif (ac != ct) then (some false) else ((rU.p F ar iN).bind λr5=>(bif (!r5) then (some false) else (some true))))))
def aeI.p (F:Nat) (aa:Int) (ac:Int) (ar:List Int):Option (Bool):=(Vf.p F ar 1048576).bind λr2=>(bif (decide (r2<0)) then (some true) else ((Eh.p F aa ac ar).bind λr5=>(fq.p F r5.1 r5.2.1 r5.2.2).bind λr8=>(Eh.p F aa ac ar).bind λr11=>(eJ.p F r11.1 r11.2.1 r11.2.2).bind λr19=>(bif (r19.1 != r8.1) then (some false) else ((bif (r19.2 != r8.2) then (some false) else ((Eh.p F aa ac ar).bind λr24=>(Vh.p F r11.1 r11.2.1 r11.2.2 r24.1 r24.2.1 r24.2.2).bind λr30=>(bif (!r30) then (some false) else (some true))))))))
end Go.Proofs.Ytokekkacliomkaa.AE
end
section
namespace Go.AE
abbrev Mat:=Int->Int->Int
def mk (R C:Nat) (A:Mat):List Int:=(List.range (R * C)).map λn=>A ((n / C:Nat):Int) ((n % C:Nat):Int)
def upd (A:Mat) (i j x:Int):Mat:=λa b=>if a=i/\b=j then x else A a b
theorem Eu (A:Mat) (i j x:Int):upd A i j x i j=x:=by simp [upd]
theorem kp (A:Mat) {i j a b:Int} (x:Int) (h:¬ (a=i/\b=j)):upd A i j x a b=A a b:=by simp only [upd,if_neg h]
variable {R C:Nat} {A B:Mat}
theorem dG (R C:Nat) (A:Mat):(mk R C A).length=R * C:=by simp [mk]
theorem BD {i j:Int} (hi0:0<=i) (hi:i<R) (hj0:0<=j) (hj:j<C):∃ a b:Nat,i=a/\j=b/\a<R/\b<C/\(i * C+j).toNat=a * C+b/\a * C+b<R * C/\(i * C+j)=((a * C+b:Nat):Int):=by
 refine ⟨i.toNat,j.toNat,by omega,by omega,by omega,by omega,?_,?_,?_⟩
 ·obtain ⟨a,rfl⟩:=Int.eq_ofNat_of_zero_le hi0
  obtain ⟨b,rfl⟩:=Int.eq_ofNat_of_zero_le hj0
  simp only [Int.toNat_natCast]
  rw [<- Int.natCast_mul,<-Int.natCast_add,Int.toNat_natCast]
 ·have h1:i.toNat+1<=R:=by omega
  have:=Nat.mul_le_mul_right C h1
  rw [Nat.add_mul] at this
  omega
 ·obtain ⟨a,rfl⟩:=Int.eq_ofNat_of_zero_le hi0
  obtain ⟨b,rfl⟩:=Int.eq_ofNat_of_zero_le hj0
  simp
theorem BE {a b:Nat} (hb:b<C) (h:a * C+b<R * C):(mk R C A)[a * C+b]?=some (A a b):=by
 have hC:0<C:=by omega
 have e1:(a * C+b) / C=a:=by rw [Nat.add_comm,Nat.add_mul_div_right _ _ hC,Nat.div_eq_of_lt hb,Nat.zero_add]
 have e2:(a * C+b) % C=b:=by rw [Nat.add_comm,Nat.add_mul_mod_self_right,Nat.mod_eq_of_lt hb]
 unfold mk
 rw [List.getElem?_map,List.getElem?_range h]
 simp only [Option.map_some,e1,e2]
theorem fj {i j:Int} (hi0:0<=i) (hi:i<R) (hj0:0<=j) (hj:j<C):gt (mk R C A) (i * C+j).toNat=A i j:=by
 obtain ⟨a,b,rfl,rfl,ha,hb,e,hlt,_⟩:=BD hi0 hi hj0 hj
 rw [e]
 unfold gt
 rw [List.getD_eq_getElem?_getD,BE hb hlt];rfl
theorem eL {i j:Int} (hR:R<=1000) (hC:C<=1000) (hi0:0<=i) (hi:i<R) (hj0:0<=j) (hj:j<C):ix (mk R C A) (IntKind.i64.wrap (IntKind.i64.wrap (i * C)+j))=some (i * C+j).toNat:=by
 obtain ⟨a,b,e1,e2,ha,hb,e,hlt,e3⟩:=BD hi0 hi hj0 hj
 have hm:R * C<=1000 * 1000:=Nat.mul_le_mul hR hC
 have h1:0<=i * C:=Int.mul_nonneg hi0 (Int.natCast_nonneg _)
 rw [ap (x:=i * C) (by omega) (by omega),ap (x:=i * C+j) (by omega) (by omega)]
 unfold ix
 rw [dG,if_pos (by omega)]
theorem cY (h:∀ i j:Int,0<=i->i<R->0<=j->j<C->A i j=B i j):mk R C A=mk R C B:=by
 unfold mk
 apply List.map_congr_left
 intro n hn
 have hn:=List.mem_range.1 hn
 have hC:0<C:=by
  rcases Nat.eq_zero_or_pos C with h | h
  ·subst h;simp at hn
  ·exact h
 exact h _ _ (Int.natCast_nonneg _) (Int.ofNat_lt.2 ((Nat.div_lt_iff_lt_mul hC).2 hn)) (Int.natCast_nonneg _) (Int.ofNat_lt.2 (Nat.mod_lt n hC))
theorem afJ {l:List Int} (h:l.length=R * C):l=mk R C λi j=>gt l (i * C+j).toNat:=by
 apply List.ext_getElem?
 intro n
 by_cases hn:n<R * C
 ·unfold mk
  rw [List.getElem?_map,List.getElem?_range hn]
  simp only [Option.map_some]
  have e:(((n / C:Nat):Int) * C+((n % C:Nat):Int)).toNat=n:=by
   rw [<- Int.natCast_mul,<-Int.natCast_add,Int.toNat_natCast,Nat.mul_comm,Nat.div_add_mod]
  rw [e]
  exact wg (by omega)
 ·rw [List.getElem?_eq_none (by omega),List.getElem?_eq_none (by rw [dG];omega)]
theorem jF {i j x:Int} (hi0:0<=i) (hi:i<R) (hj0:0<=j) (hj:j<C):(mk R C A).set (i * C+j).toNat x=mk R C (upd A i j x):=by
 obtain ⟨a,b,rfl,rfl,ha,hb,e,hlt,_⟩:=BD hi0 hi hj0 hj
 rw [e]
 apply List.ext_getElem?
 intro n
 by_cases hn:n<R * C
 ·have hC:0<C:=by omega
  have hd:n=n / C * C+n % C:=by rw [Nat.mul_comm,Nat.div_add_mod]
  have hr:=Nat.mod_lt n hC
  rw [hd,BE hr (by omega)]
  by_cases e:n / C=a/\n % C=b
  ·rw [e.1,e.2,List.getElem?_set_self (by rw [dG];exact hlt),Eu]
  ·have:a * C+b≠n / C * C+n % C:=by
    intro h
    rw [<- hd] at h
    apply e
    constructor
    ·rw [<- h,Nat.add_comm,Nat.add_mul_div_right _ _ hC,Nat.div_eq_of_lt hb,Nat.zero_add]
    ·rw [<- h,Nat.add_comm,Nat.add_mul_mod_self_right,Nat.mod_eq_of_lt hb]
   rw [List.getElem?_set_ne this,BE hr (by omega),kp _ _ (by omega)]
 ·rw [List.getElem?_eq_none (by rw [List.length_set,dG];omega),List.getElem?_eq_none (by rw [dG];omega)]
end Go.AE
end
section
namespace Go.Proofs.Ytokekkacliomkaa.AE
open Go Go.AE Go.Proofs
def Sg:Nat->(Int->Int)->Int
 | 0,_=>0
 | n+1,f=>Sg n f+f (n:Int)
theorem Sg_congr {f g:Int->Int}:∀ {n:Nat},(∀ i:Int,0<=i->i<n->f i=g i)->Sg n f=Sg n g
 | 0,_=>rfl
 | n+1,h=>by
  show Sg n f+f n=Sg n g+g n
  rw [Sg_congr (n:=n) λi h0 h1=>h i h0 (by omega),h n (by omega) (by omega)]
theorem Sg_nul:∀ n:Nat,Sg n (λ_=>0)=0
 | 0=>rfl
 | n+1=>by show Sg n _+0=0;rw [Sg_nul n];rfl
theorem Sg_zero {n:Nat} {f:Int->Int} (h:∀ i:Int,0<=i->i<n->f i=0):Sg n f=0:=by
 rw [Sg_congr (g:=λ_=>0) h];exact Sg_nul n
theorem Sg_add {f g:Int->Int}:∀ n:Nat,Sg n (λi=>f i+g i)=Sg n f+Sg n g
 | 0=>rfl
 | n+1=>by
  show Sg n (λi=>f i+g i)+(f n+g n)=Sg n f+f n+(Sg n g+g n)
  rw [Sg_add n];omega
theorem Sg_mul {c:Int} {f:Int->Int}:∀ n:Nat,Sg n (λi=>c * f i)=c * Sg n f
 | 0=>by show 0=c * 0;rw [Int.mul_zero]
 | n+1=>by
  show Sg n (λi=>c * f i)+c * f n=c * (Sg n f+f n)
  rw [Sg_mul n,Int.mul_add]
theorem Sg_mulr {c:Int} {f:Int->Int} {n:Nat}:Sg n (λi=>f i * c)=Sg n f * c:=by
 rw [Int.mul_comm,<-Sg_mul];exact Sg_congr λ_ _ _=>Int.mul_comm _ _
theorem Sg_comm {m:Nat} {f:Int->Int->Int}:∀ n:Nat,Sg n (λi=>Sg m λj=>f i j)=Sg m λj=>Sg n λi=>f i j
 | 0=>(Sg_nul m).symm
 | n+1=>by
  show Sg n (λi=>Sg m λj=>f i j)+Sg m (λj=>f n j)=Sg m λj=>Sg n (λi=>f i j)+f n j
  rw [Sg_comm n,Sg_add]
theorem Sg_one {f:Int->Int} {k:Int} (h0:0<=k):∀ {n:Nat},Sg n (λi=>if i=k then f i else 0)=if k<n then f k else 0
 | 0=>by rw [if_neg (by omega)];rfl
 | n+1=>by
  show Sg n (λi=>if i=k then f i else 0)+(if (n:Int)=k then f n else 0)=_
  rw [Sg_one h0 (n:=n)]
  by_cases e:(n:Int)=k
  ·subst e;rw [if_neg (by omega),if_pos rfl,if_pos (by omega),Int.zero_add]
  ·rw [if_neg e,Int.add_zero]
   by_cases c:k<n
   ·rw [if_pos c,if_pos (by omega)]
   ·rw [if_neg c,if_neg (by omega)]
theorem Sg_le {f g:Int->Int}:∀ {n:Nat},(∀ i:Int,0<=i->i<n->f i<=g i)->Sg n f<=Sg n g
 | 0,_=>Int.le_refl _
 | n+1,h=>Int.add_le_add (Sg_le (n:=n) λi h0 h1=>h i h0 (by omega)) (h n (by omega) (by omega))
theorem Sg_nn {f:Int->Int} {n:Nat} (h:∀ i:Int,0<=i->i<n->0<=f i):0<=Sg n f:=by
 have:=Sg_le (n:=n) h;rw [Sg_nul] at this;exact this
theorem Sg_ge {f:Int->Int} {k:Int} (h0:0<=k):∀ {n:Nat},(∀ i:Int,0<=i->i<n->0<=f i)->k<n->f k<=Sg n f
 | 0,_,hk=>by omega
 | n+1,h,hk=>by
  show f k<=Sg n f+f n
  by_cases e:k=n
  ·subst e;have:=Sg_nn (n:=n) λi h0 h1=>h i h0 (by omega);omega
  ·have:=Sg_ge h0 (n:=n) (λi h0 h1=>h i h0 (by omega)) (by omega)
   have:=h n (by omega) (by omega)
   omega
def mm (n:Nat) (A B:Mat):Mat:=λi j=>Sg n λl=>A i l * B l j
theorem mm_assoc {n m:Nat} {A B C:Mat}:mm n (mm m A B) C=mm m A (mm n B C):=by
 funext i j
 show Sg n (λl=>Sg m (λk=>A i k * B k l) * C l j)=Sg m λk=>A i k * Sg n λl=>B k l * C l j
 rw [Sg_congr (g:=λl=>Sg m λk=>A i k * B k l * C l j) λl _ _=>(Sg_mulr).symm,Sg_comm]
 refine Sg_congr λk _ _=>?_
 rw [<- Sg_mul]
 exact Sg_congr λl _ _=>Int.mul_assoc _ _ _
theorem mm_congr {n:Nat} {A B A' B':Mat} {i j:Int} (h:∀ l:Int,0<=l->l<n->A i l=A' i l) (h':∀ l:Int,0<=l->l<n->B l j=B' l j):mm n A B i j=mm n A' B' i j:=
 Sg_congr λl h0 h1=>by rw [h l h0 h1,h' l h0 h1]
def idM:Mat:=λa b=>if a=b then 1 else 0
theorem mm_idl {n:Nat} {A:Mat} {i j:Int} (h0:0<=i) (h:i<n):mm n idM A i j=A i j:=by
 show Sg n (λl=>(if i=l then 1 else 0) * A l j)=_
 rw [Sg_congr (g:=λl=>if l=i then A l j else 0) λl _ _=>by
  by_cases e:l=i
  ·subst e;simp
  ·rw [if_neg e,if_neg (Ne.symm e),Int.zero_mul],Sg_one h0,if_pos h]
theorem mm_idr {n:Nat} {A:Mat} {i j:Int} (h0:0<=j) (h:j<n):mm n A idM i j=A i j:=by
 show Sg n (λl=>A i l * (if l=j then 1 else 0))=_
 rw [Sg_congr (g:=λl=>if l=j then A i l else 0) λl _ _=>by by_cases e:l=j <;> simp [e],Sg_one h0,if_pos h]
def cnt:Nat->(Int->Bool)->Nat
 | 0,_=>0
 | n+1,P=>cnt n P+(if P n then 1 else 0)
theorem cnt_pos {P:Int->Bool}:∀ {n:Nat},0<cnt n P->∃ j:Int,0<=j/\j<n/\P j=true
 | 0,h=>absurd h (Nat.lt_irrefl _)
 | n+1,h=>by
  by_cases c:P n=true
  ·exact ⟨n,by omega,by omega,c⟩
  ·have h:0<cnt n P+(if P n then 1 else 0):=h
   rw [if_neg c] at h
   obtain ⟨j,h1,h2,h3⟩:=cnt_pos (n:=n) h
   exact ⟨j,h1,by omega,h3⟩
theorem cnt_out {P Q:Int->Bool}:∀ {n:Nat},(∀ i:Int,0<=i->i<n->P i=Q i)->cnt n P=cnt n Q
 | 0,_=>rfl
 | n+1,h=>by
  show cnt n P+_=cnt n Q+_
  rw [cnt_out (n:=n) λi h0 h1=>h i h0 (by omega),h n (by omega) (by omega)]
theorem cnt_rem {P:Int->Bool} {c:Int} (h0:0<=c) (hp:P c=true):∀ {n:Nat},c<n->cnt n (λj=>P j&&decide (j≠c))+1=cnt n P
 | 0,h=>by omega
 | n+1,h=>by
  show cnt n (λj=>P j&&decide (j≠c))+(if (P n&&decide ((n:Int)≠c)) then 1 else 0)+1=cnt n P+(if P n then 1 else 0)
  by_cases e:(n:Int)=c
  ·subst e
   rw [cnt_out (n:=n) (Q:=P) λi _ h1=>by rw [decide_eq_true (by omega),Bool.and_true]]
   simp [hp]
  ·have:=cnt_rem h0 hp (n:=n) (by omega)
   rw [decide_eq_true e,Bool.and_true];omega
theorem cnt_all:∀ n:Nat,cnt n (λ_=>true)=n
 | 0=>rfl
 | n+1=>by show cnt n _+1=_;rw [cnt_all n]
def Fac (R C k:Nat) (d:Int) (A:Mat):Prop:=∃ X Y:Mat,∀ i j:Int,0<=i->i<R->0<=j->j<C->d∣A i j - mm k X Y i j
def Sim (R C:Nat) (A B:Mat):Prop:=∃ P U:Mat,∀ i j:Int,0<=i->i<R->0<=j->j<C->B i j=mm C (mm R P A) U i j
theorem up {R C s:Nat} {d:Int} {D:Mat} (hD:∀ i j:Int,0<=i->i<R->0<=j->j<C->i≠j->D i j=0) (h:∀ i:Int,s<=i->i<R->i<C->d∣D i i):Fac R C s d D:=by
 refine ⟨D,idM,λi j h1 h2 h3 h4=>?_⟩
 have e:mm s D idM i j=if j<s then D i j else 0:=by
  show Sg s (λl=>D i l * (if l=j then 1 else 0))=_
  rw [Sg_congr (g:=λl=>if l=j then D i l else 0) λl _ _=>by by_cases e:l=j <;> simp [e],Sg_one h3]
 rw [e]
 by_cases c:j<s
 ·rw [if_pos c,Int.sub_self];exact ⟨0,(Int.mul_zero _).symm⟩
 ·rw [if_neg c,Int.sub_zero]
  by_cases q:i=j
  ·subst q;exact h i (by omega) h2 h4
  ·rw [hD i j h1 h2 h3 h4 q];exact ⟨0,(Int.mul_zero _).symm⟩
structure Dia (R C:Nat) (D:Mat):Prop where
 o:∀ i j:Int,0<=i->i<R->0<=j->j<C->i≠j->D i j=0
 n:∀ i:Int,0<=i->i<R->i<C->0<=D i i
 c:∀ i j:Int,0<=i->i<=j->j<R->j<C->D i i∣D j j
end Go.Proofs.Ytokekkacliomkaa.AE
end
section
namespace Go.Proofs.Ytokekkacliomkaa.AE
open Go Go.AE Go.Proofs
variable {n:Nat}
def rm (S:Int->Bool) (c:Int):Int->Bool:=λx=>S x&&decide (x≠c)
def ad1 (S:Int->Bool) (c:Int):Int->Bool:=λx=>S x || decide (x=c)
theorem rm_self {S:Int->Bool} {c:Int}:rm S c c=false:=by simp [rm]
theorem rm_ne {S:Int->Bool} {c x:Int} (h:x≠c):rm S c x=S x:=by simp [rm,h]
theorem rm_rm {S:Int->Bool} {c d:Int}:rm (rm S c) d=rm (rm S d) c:=by
 funext x;simp only [rm];cases S x <;> simp [Bool.and_comm]
def sgn:Nat->(Int->Bool)->Int->Int
 | 0,_,_=>1
 | n+1,S,c=>sgn n S c * if S n&&decide (c<n) then -1 else 1
def sg (b:Prop) [Decidable b]:Int:=if b then -1 else 1
theorem sg_sq (b:Prop) [Decidable b]:sg b * sg b=1:=by unfold sg;split <;> rfl
theorem sgn_sq {S:Int->Bool} {c:Int}:∀ n:Nat,sgn n S c * sgn n S c=1
 | 0=>rfl
 | n+1=>by
  have:=sgn_sq (S:=S) (c:=c) n
  show (sgn n S c * if S n&&decide (c<n) then -1 else 1) * (sgn n S c * if S n&&decide (c<n) then -1 else 1)=1
  split
  ·rw [Int.mul_neg,Int.mul_one,Int.neg_mul_neg];exact this
  ·rw [Int.mul_one];exact this
theorem sgn_congr {S T:Int->Bool} {c:Int}:∀ {n:Nat},(∀ x:Int,0<=x->x<n->S x=T x)->sgn n S c=sgn n T c
 | 0,_=>rfl
 | n+1,h=>by
  show sgn n S c * _=sgn n T c * _
  rw [sgn_congr (n:=n) λx h0 h1=>h x h0 (by omega),h n (by omega) (by omega)]
theorem sgn_rm {S:Int->Bool} {c d:Int} (h0:0<=c) (hS:S c=true):∀ {n:Nat},c<n->sgn n (rm S c) d=sgn n S d * sg (d<c)
 | 0,h=>by omega
 | n+1,h=>by
  show sgn n (rm S c) d * (if rm S c n&&decide (d<n) then -1 else 1)=sgn n S d * (if S n&&decide (d<n) then -1 else 1) * sg (d<c)
  by_cases e:(n:Int)=c
  ·subst e
   rw [rm_self,sgn_congr (T:=S) λx _ hx=>rm_ne (by omega),hS]
   unfold sg
   by_cases q:d<n
   ·simp [q]
   ·simp [q]
  ·rw [sgn_rm h0 hS (n:=n) (by omega),rm_ne e,Int.mul_assoc,Int.mul_assoc,Int.mul_comm (sg _)]
theorem sgn_ad {S:Int->Bool} {c d:Int} (h0:0<=c) (hS:S c=false) {n:Nat} (h:c<n):sgn n (ad1 S c) d=sgn n S d * sg (d<c):=by
 have h1:rm (ad1 S c) c=S:=by
  funext x
  by_cases e:x=c
  ·subst e;rw [rm_self,hS]
  ·rw [rm_ne e];simp [ad1,e]
 have h2:=sgn_rm (S:=ad1 S c) (d:=d) h0 (by simp [ad1]) h
 rw [h1] at h2
 rw [h2,Int.mul_assoc,sg_sq,Int.mul_one]
def dt (n:Nat) (A:Mat):Nat->(Int->Bool)->Int
 | 0,_=>1
 | r+1,S=>Sg n λc=>if S c=true then sgn n S c * (A r c * dt n A r (rm S c)) else 0
theorem dt_congr {A B:Mat}:∀ (r:Nat) (S:Int->Bool),(∀ i j:Int,0<=i->i<r->0<=j->j<n->A i j=B i j)->dt n A r S=dt n B r S
 | 0,_,_=>rfl
 | r+1,S,h=>Sg_congr λc h0 h1=>by rw [h r c (by omega) (by omega) h0 h1,dt_congr r _ λi j a b=>h i j a (by omega)]
theorem dt_set {A:Mat}:∀ (r:Nat) {S T:Int->Bool},(∀ x:Int,0<=x->x<n->S x=T x)->dt n A r S=dt n A r T
 | 0,_,_,_=>rfl
 | r+1,S,T,h=>Sg_congr λc h0 h1=>by
  rw [h c h0 h1,sgn_congr h,dt_set r (S:=rm S c) (T:=rm T c) λx a b=>by unfold rm;rw [h x a b]]
def rset (A:Mat) (t:Int) (u:Int->Int):Mat:=λi j=>if i=t then u j else A i j
theorem dt_lin {A:Mat} {t q:Int} {u v:Int->Int} (h0:0<=t):∀ (r:Nat) (S:Int->Bool),t<r->dt n (rset A t λj=>u j+q * v j) r S=dt n (rset A t u) r S+q * dt n (rset A t v) r S
 | 0,_,h=>by omega
 | r+1,S,h=>by
  show Sg n _=Sg n _+q * Sg n _
  rw [<- Sg_mul,<-Sg_add]
  refine Sg_congr λc _ _=>?_
  by_cases hc:S c=true
  ·rw [if_pos hc,if_pos hc,if_pos hc]
   by_cases e:(r:Int)=t
   ·have hz:∀ w,dt n (rset A t w) r (rm S c)=dt n A r (rm S c):=λw=>dt_congr r _ λi j _ hi _ _=>if_neg (by omega)
    rw [hz,hz,hz]
    show sgn n S c * ((if (r:Int)=t then u c+q * v c else _) * _)=sgn n S c * ((if (r:Int)=t then u c else _) * _)+q * (sgn n S c * ((if (r:Int)=t then v c else _) * _))
    rw [if_pos e,if_pos e,if_pos e,Int.add_mul,Int.mul_add,Int.mul_assoc q]
    congr 1
    exact Int.mul_left_comm _ _ _
   ·rw [dt_lin h0 r (rm S c) (by omega)]
    show sgn n S c * ((if (r:Int)=t then _ else A r c) * _)=sgn n S c * ((if (r:Int)=t then _ else A r c) * _)+q * (sgn n S c * ((if (r:Int)=t then _ else A r c) * _))
    rw [if_neg e,if_neg e,if_neg e,Int.mul_add,Int.mul_add,Int.mul_left_comm q,Int.mul_left_comm q]
  ·rw [if_neg hc,if_neg hc,if_neg hc,Int.mul_zero];rfl
theorem anti_sum {g:Int->Int->Int} (h:∀ c d:Int,0<=c->c<n->0<=d->d<n->g c d=- g d c):Sg n (λc=>Sg n λd=>g c d)=0:=by
 have e:Sg n (λc=>Sg n λd=>g c d)=- Sg n (λc=>Sg n λd=>g c d):=by
  have e1:=Sg_comm (m:=n) (f:=g) n
  have e2:Sg n (λj=>Sg n λi=>g i j)=- Sg n (λc=>Sg n λd=>g c d):=by
   rw [show - Sg n (λc=>Sg n λd=>g c d)=-1 * Sg n (λc=>Sg n λd=>g c d) by omega,<-Sg_mul]
   refine Sg_congr λc h0 h1=>?_
   rw [<- Sg_mul]
   exact Sg_congr λd h2 h3=>by rw [h d c h2 h3 h0 h1];omega
  rw [e2] at e1;exact e1
 omega
theorem dt_adj {A:Mat}:∀ (r:Nat) (t:Nat) (S:Int->Bool),t+1<r->(∀ j:Int,0<=j->j<n->A t j=A ((t:Int)+1) j)->dt n A r S=0
 | 0,_,_,h,_=>by omega
 | r+1,t,S,h,hA=>by
  by_cases e:t+1=r
  ·subst e
   have key:dt n A (t+1+1) S=Sg n λc=>Sg n λd=>if S c=true/\S d=true/\c≠d then sgn n S c * sgn n S d * sg (d<c) * (A t c * A t d) * dt n A t (rm (rm S c) d) else 0:=by
    refine Sg_congr λc h0 h1=>?_
    by_cases hc:S c=true
    ·rw [if_pos hc]
     show sgn n S c * (A ((t+1:Nat):Int) c * Sg n λd=>if rm S c d=true then sgn n (rm S c) d * (A t d * dt n A t (rm (rm S c) d)) else 0)=_
     rw [<- Sg_mul,<-Sg_mul]
     refine Sg_congr λd h2 h3=>?_
     by_cases hcd:d=c
     ·subst hcd
      rw [rm_self,if_neg (by simp),if_neg (by simp),Int.mul_zero,Int.mul_zero]
     ·rw [rm_ne hcd]
      by_cases hd:S d=true
      ·rw [if_pos hd,if_pos ⟨hc,hd,Ne.symm hcd⟩,sgn_rm h0 hc h1,show ((t+1:Nat):Int)=(t:Int)+1 by omega,<-hA c h0 h1]
       simp only [Int.mul_assoc]
       congr 1
       rw [Int.mul_left_comm]
       congr 1
       rw [Int.mul_left_comm]
      ·rw [if_neg hd,if_neg λq=>hd q.2.1,Int.mul_zero,Int.mul_zero]
    ·rw [if_neg hc]
     exact (Sg_zero λd _ _=>if_neg λq=>hc q.1).symm
   rw [key]
   refine anti_sum λc d h0 h1 h2 h3=>?_
   by_cases hh:S c=true/\S d=true/\c≠d
   ·rw [if_pos hh,if_pos ⟨hh.2.1,hh.1,Ne.symm hh.2.2⟩,rm_rm (c:=d),Int.mul_comm (sgn n S d),Int.mul_comm (A t d)]
    have:sg (c<d)=- sg (d<c):=by
     unfold sg
     by_cases q:c<d
     ·rw [if_pos q,if_neg (by omega)]
     ·rw [if_neg q,if_pos (by omega)];rfl
    rw [this]
    simp only [Int.mul_neg,Int.neg_mul,Int.neg_neg]
   ·rw [if_neg hh,if_neg λq=>hh ⟨q.2.1,q.1,Ne.symm q.2.2⟩];rfl
  ·refine Sg_zero λc _ _=>?_
   split
   ·rw [dt_adj r t (rm S c) (by omega) hA,Int.mul_zero,Int.mul_zero]
   ·rfl
def tr (A:Mat):Mat:=λi j=>A j i
def cset (A:Mat) (t:Int) (u:Int->Int):Mat:=λi j=>if j=t then u i else A i j
theorem dt_out {A:Mat} {t:Int} {u:Int->Int}:∀ (r:Nat) (S:Int->Bool),S t=false->dt n (cset A t u) r S=dt n A r S
 | 0,_,_=>rfl
 | r+1,S,h=>Sg_congr λc _ _=>by
  by_cases hc:S c=true
  ·have e:c≠t:=λq=>by rw [q,h] at hc;cases hc
   rw [if_pos hc,if_pos hc,dt_out r (rm S c) (by unfold rm;rw [h];rfl)]
   show sgn n S c * ((if c=t then _ else A r c) * _)=_
   rw [if_neg e]
  ·rw [if_neg hc,if_neg hc]
theorem rm_cnt {S:Int->Bool} {c:Int} (h0:0<=c) (h1:c<n) (h:S c=true):cnt n (rm S c)+1=cnt n S:=cnt_rem h0 h h1
theorem cnt_zero {S:Int->Bool} {c:Int} (h0:0<=c) (h1:c<n) (h:S c=true):cnt n S≠0:=λq=>by have:=rm_cnt h0 h1 h;omega
theorem dt_clin {A:Mat} {t q:Int} {u v:Int->Int} (h0:0<=t) (h1:t<n):∀ (r:Nat) (S:Int->Bool),S t=true->cnt n S=r->dt n (cset A t λj=>u j+q * v j) r S=dt n (cset A t u) r S+q * dt n (cset A t v) r S
 | 0,S,hS,hc=>absurd hc (cnt_zero h0 h1 hS)
 | r+1,S,hS,hcn=>by
  show Sg n _=Sg n _+q * Sg n _
  rw [<- Sg_mul,<-Sg_add]
  refine Sg_congr λc c0 c1=>?_
  by_cases hc:S c=true
  ·rw [if_pos hc,if_pos hc,if_pos hc]
   have hn:=rm_cnt c0 c1 hc
   by_cases e:c=t
   ·subst e
    rw [dt_out r _ rm_self,dt_out r _ rm_self,dt_out r _ rm_self]
    show sgn n S c * ((if c=c then u r+q * v r else _) * _)=sgn n S c * ((if c=c then u r else _) * _)+q * (sgn n S c * ((if c=c then v r else _) * _))
    rw [if_pos rfl,if_pos rfl,if_pos rfl,Int.add_mul,Int.mul_add,Int.mul_assoc q]
    congr 1
    exact Int.mul_left_comm _ _ _
   ·rw [dt_clin h0 h1 r (rm S c) (by rw [rm_ne (Ne.symm e)];exact hS) (by omega)]
    show sgn n S c * ((if c=t then _ else A r c) * _)=sgn n S c * ((if c=t then _ else A r c) * _)+q * (sgn n S c * ((if c=t then _ else A r c) * _))
    rw [if_neg e,if_neg e,if_neg e,Int.mul_add,Int.mul_add,Int.mul_left_comm q,Int.mul_left_comm q]
  ·rw [if_neg hc,if_neg hc,if_neg hc,Int.mul_zero];rfl
theorem dt_move {A:Mat} {t f:Int} (t0:0<=t) (tf:t<f) (fn:f<n):∀ (r:Nat) (U:Int->Bool),U t=false->U f=false->cnt n U+1=r->(∀ i:Int,0<=i->i<r->A i t=A i f) ->
  dt n A r (ad1 U f)=sgn n U t * sgn n U f * dt n A r (ad1 U t)
 | 0,U,_,_,h,_=>by omega
 | r+1,U,ht,hf,hcn,hA=>by
  -- the sum over U and one more place
  have split:∀ x:Int,0<=x->x<n->U x=false->dt n A (r+1) (ad1 U x)=sgn n U x * (A r x * dt n A r U)+Sg n λc=>if U c=true then sgn n U c * sg (c<x) * (A r c * dt n A r (ad1 (rm U c) x)) else 0:=λx x0 x1 hx=>by
   have e1:Sg n (λc=>if c=x then sgn n U x * (A r x * dt n A r U) else 0)=sgn n U x * (A r x * dt n A r U):=by
    have:=Sg_one (f:=λ_=>sgn n U x * (A r x * dt n A r U)) x0 (n:=n)
    rw [this,if_pos x1]
   rw [<- e1,<-Sg_add]
   refine Sg_congr λc c0 c1=>?_
   by_cases e:c=x
   ·subst e
    have e2:rm (ad1 U c) c=U:=by
     funext y
     by_cases q:y=c
     ·subst q;rw [rm_self,hx]
     ·rw [rm_ne q];simp [ad1,q]
    rw [if_pos (by simp [ad1]),if_pos rfl,if_neg (by rw [hx];simp),e2,sgn_ad c0 hx c1]
    unfold sg
    rw [if_neg (Int.lt_irrefl _),Int.mul_one,Int.add_zero]
   ·have e3:ad1 U x c=U c:=by simp [ad1,e]
    have e4:rm (ad1 U x) c=ad1 (rm U c) x:=by
     funext y
     simp only [rm,ad1]
     by_cases q:y=x
     ·subst q;simp [Ne.symm e]
     ·simp [q]
    rw [e3,e4,if_neg e,Int.zero_add,sgn_ad x0 hx x1]
  rw [split f (by omega) fn hf,split t t0 (by omega) ht,Int.mul_add]
  have h1:sgn n U t * sgn n U f * (sgn n U t * (A r t * dt n A r U))=sgn n U f * (A r f * dt n A r U):=by
   rw [hA r (by omega) (by omega),Int.mul_comm (sgn n U t) (sgn n U f),Int.mul_assoc,<-Int.mul_assoc (sgn n U t),sgn_sq,Int.one_mul]
  rw [h1,<-Sg_mul]
  congr 1
  refine Sg_congr λc c0 c1=>?_
  by_cases hc:U c=true
  ·have e1:c≠t:=λq=>by rw [q,ht] at hc;cases hc
   have e2:c≠f:=λq=>by rw [q,hf] at hc;cases hc
   have hn:=rm_cnt c0 c1 hc
   rw [if_pos hc,if_pos hc,dt_move t0 tf fn r (rm U c) (by rw [rm_ne (Ne.symm e1)];exact ht) (by rw [rm_ne (Ne.symm e2)];exact hf) (by omega) (λi i0 i1=>hA i i0 (by omega)),sgn_rm c0 hc c1,sgn_rm c0 hc c1]
   have e3:sg (c<f) * (sg (t<c) * sg (f<c))=sg (c<t):=by
    unfold sg
    by_cases q:c<t
    ·rw [if_pos q,if_pos (show c<f by omega),if_neg (show ¬ t<c by omega),if_neg (show ¬ f<c by omega)];rfl
    ·by_cases q2:c<f
     ·rw [if_neg q,if_pos q2,if_pos (show t<c by omega),if_neg (show ¬ f<c by omega)];rfl
     ·rw [if_neg q,if_neg q2,if_pos (show t<c by omega),if_pos (show f<c by omega)];rfl
   rw [<- e3]
   generalize sgn n U c=a
   generalize sgn n U t=b
   generalize sgn n U f=d
   generalize sg (c<f)=p
   generalize sg (t<c)=p2
   generalize sg (f<c)=p3
   generalize A r c=x
   generalize dt n A r (ad1 (rm U c) t)=y
   simp only [Int.mul_assoc,Int.mul_left_comm,Int.mul_comm]
  ·rw [if_neg hc,if_neg hc,Int.mul_zero]
theorem dt_calt {A:Mat} {t f:Int} (t0:0<=t) (tf:t<f) (fn:f<n):∀ (r:Nat) (S:Int->Bool),S t=true->S f=true->cnt n S=r->(∀ i:Int,0<=i->i<r->A i t=A i f)->dt n A r S=0
 | 0,S,ht,_,h,_=>absurd h (cnt_zero t0 (by omega) ht)
 | r+1,S,ht,hf,hcn,hA=>by
  have U0:rm (rm S t) f t=false:=by simp [rm]
  have U1:rm (rm S t) f f=false:=by simp [rm]
  have et:rm S t=ad1 (rm (rm S t) f) f:=by
   funext y
   by_cases q:y=f
   ·subst q;simp [ad1];rw [rm_ne (by omega)];exact hf
   ·simp only [ad1,q,decide_false,Bool.or_false];rw [rm_ne q]
  have ef:rm S f=ad1 (rm (rm S t) f) t:=by
   funext y
   by_cases q:y=t
   ·subst q;simp [ad1];rw [rm_ne (by omega)];exact ht
   ·simp only [ad1,q,decide_false,Bool.or_false];rw [rm_rm,rm_ne q]
  have c1:=rm_cnt t0 (show t<n by omega) ht
  have c2:=rm_cnt (S:=rm S t) (c:=f) (by omega) fn (by rw [rm_ne (by omega)];exact hf)
  have hmv:=dt_move (A:=A) t0 tf fn r (rm (rm S t) f) U0 U1 (by omega) (λi i0 i1=>hA i i0 (by omega))
  rw [<- et,<-ef] at hmv
  have e0:dt n A (r+1) S=Sg n λc=>(if c=t then sgn n S t * (A r t * dt n A r (rm S t)) else 0)+if c=f then sgn n S f * (A r f * dt n A r (rm S f)) else 0:=by
   refine Sg_congr λc c0 c1=>?_
   by_cases q:c=t
   ·subst q;rw [if_pos ht,if_pos rfl,if_neg (by omega),Int.add_zero]
   ·by_cases q2:c=f
    ·subst q2;rw [if_pos hf,if_neg q,if_pos rfl,Int.zero_add]
    ·rw [if_neg q,if_neg q2]
     by_cases hc:S c=true
     ·have hn:=rm_cnt c0 c1 hc
      rw [if_pos hc,dt_calt t0 tf fn r (rm S c) (by rw [rm_ne (Ne.symm q)];exact ht) (by rw [rm_ne (Ne.symm q2)];exact hf) (by omega) (λi i0 i1=>hA i i0 (by omega)),Int.mul_zero,Int.mul_zero];rfl
     ·rw [if_neg hc];rfl
  have s1:=Sg_one (f:=λ_=>sgn n S t * (A r t * dt n A r (rm S t))) t0 (n:=n)
  have s2:=Sg_one (f:=λ_=>sgn n S f * (A r f * dt n A r (rm S f))) (show 0<=f by omega) (n:=n)
  rw [e0,Sg_add,s1,s2,if_pos (by omega),if_pos fn,hmv,hA r (by omega) (by omega)]
  -- signs
  have g1:sgn n (rm (rm S t) f) t=- sgn n S t:=by
   rw [sgn_rm (by omega) (by rw [rm_ne (by omega)];exact hf) fn,sgn_rm t0 ht (by omega)]
   unfold sg
   rw [if_neg (Int.lt_irrefl _),if_pos tf];omega
  have g2:sgn n (rm (rm S t) f) f=sgn n S f:=by
   rw [sgn_rm (by omega) (by rw [rm_ne (by omega)];exact hf) fn,sgn_rm t0 ht (by omega)]
   unfold sg
   rw [if_neg (by omega),if_neg (Int.lt_irrefl _)];omega
  rw [g1,g2]
  have sq:=sgn_sq (S:=S) (c:=t) n
  generalize sgn n S t=a at *
  generalize sgn n S f=b at *
  generalize A r f=x
  generalize dt n A r (rm S f)=y
  have:a * (x * (-a * b * y))=- (a * a * (b * (x * y))):=by
   simp only [Int.neg_mul,Int.mul_neg,Int.mul_assoc,Int.mul_left_comm]
  rw [this,sq]
  omega
end Go.Proofs.Ytokekkacliomkaa.AE
end
section
namespace Go.Proofs.Ytokekkacliomkaa.AE
open Go Go.AE Go.Proofs
def sw (i k a:Int):Int:=if a=i then k else if a=k then i else a
def swR (A:Mat) (i k:Int):Mat:=λa b=>A (sw i k a) b
def swC (A:Mat) (j k:Int):Mat:=λa b=>A a (sw j k b)
def ngR (A:Mat) (k:Int):Mat:=λa b=>if a=k then - A a b else A a b
def ngC (A:Mat) (k:Int):Mat:=λa b=>if b=k then - A a b else A a b
def Bd (R C:Nat) (A:Mat):Prop:=∀ i j:Int,0<=i->i<R->0<=j->j<C->-1000000000000<=A i j/\A i j<=1000000000000
variable {R C F:Nat} {A:Mat} {i j k:Int}
theorem at_mk (hR:R<=1000) (hC:C<=1000) (hi0:0<=i) (hi:i<R) (hj0:0<=j) (hj:j<C):bJ.p F C (mk R C A) i j=some (A i j):=by
 unfold bJ.p
 simp (disch:=omega) only [eL,fj,Option.bind_some]
theorem aql (hR:R<=1000) (hC:C<=1000) (hi0:0<=i) (hi:i<R) (hk0:0<=k) (hk:k<R):∀ (n f:Nat) (A:Mat) (j:Int),C - j=n->n<f->0<=j ->
  cl.pl7 F f i k C (mk R C A) j=some (mk R C λa b=>if j<=b then A (sw i k a) b else A a b):=by
 intro n
 induction n with
 | zero=>
  intro f A j hn hf hj
  obtain ⟨f,rfl⟩:∃ f',f=f'+1:=⟨f - 1,by omega⟩
  rw [cl.pl7,show decide (j<(C:Int))=false from decide_eq_false (by omega),cond_false]
  congr 1
  apply cY
  intro a b _ _ _ _
  rw [if_neg (by omega)]
 | succ n ih=>
  intro f A j hn hf hj
  obtain ⟨f,rfl⟩:∃ f',f=f'+1:=⟨f - 1,by omega⟩
  rw [cl.pl7,show decide (j<(C:Int))=true from decide_eq_true (by omega),cond_true]
  simp (disch:=omega) only [at_mk,eL,fj,jF,Option.bind_some,ap]
  rw [ih _ _ _ (by omega) (by omega) (by omega)]
  congr 1
  apply cY
  intro a b _ _ _ _
  unfold upd sw
  grind
theorem Ll (hR:R<=1000) (hC:C<=1000) (hF:C<F) (hi0:0<=i) (hi:i<R) (hk0:0<=k) (hk:k<R):cl.p F C (mk R C A) i k=some (mk R C (swR A i k)):=by
 unfold cl.p
 rw [aql hR hC hi0 hi hk0 hk C F A 0 (by omega) hF (by omega)]
 apply congrArg some
 apply cY
 intro a b _ _ _ _
 exact if_pos (by omega)
theorem aqm (hR:R<=1000) (hC:C<=1000) (hi0:0<=i) (hi:i<R) (hk0:0<=k) (hk:k<R):∀ (n f:Nat) (A:Mat) (j:Int),C - j=n->n<f->0<=j ->
  cA.pl7 F f i k C (mk R C A) C j=some (mk R C λa b=>if j<=b then A (sw i k a) b else A a b):=by
 intro n
 induction n with
 | zero=>
  intro f A j hn hf hj
  obtain ⟨f,rfl⟩:∃ f',f=f'+1:=⟨f - 1,by omega⟩
  rw [cA.pl7,show decide (j<(C:Int))=false from decide_eq_false (by omega),cond_false]
  congr 1
  apply cY
  intro a b _ _ _ _
  rw [if_neg (by omega)]
 | succ n ih=>
  intro f A j hn hf hj
  obtain ⟨f,rfl⟩:∃ f',f=f'+1:=⟨f - 1,by omega⟩
  rw [cA.pl7,show decide (j<(C:Int))=true from decide_eq_true (by omega),cond_true]
  simp (disch:=omega) only [at_mk,eL,fj,jF,Option.bind_some,ap]
  rw [ih _ _ _ (by omega) (by omega) (by omega)]
  congr 1
  apply cY
  intro a b _ _ _ _
  unfold upd sw
  grind
theorem Vi (hR:R<=1000) (hC:C<=1000) (hF:C<F) (hi0:0<=i) (hi:i<R) (hk0:0<=k) (hk:k<R):cA.p F C (mk R C A) i k=some (mk R C (swR A i k)):=by
 unfold cA.p
 rw [aqm hR hC hi0 hi hk0 hk C F A 0 (by omega) hF (by omega)]
 apply congrArg some
 apply cY
 intro a b _ _ _ _
 exact if_pos (by omega)
theorem aqn (hR:R<=1000) (hC:C<=1000) (hi0:0<=j) (hi:j<C) (hk0:0<=k) (hk:k<C):∀ (n f:Nat) (A:Mat) (i:Int),R - i=n->n<f->0<=i ->
  qe.pl7 F f j k R C (mk R C A) i=some (mk R C λa b=>if i<=a then A a (sw j k b) else A a b):=by
 intro n
 induction n with
 | zero=>
  intro f A j hn hf hj
  obtain ⟨f,rfl⟩:∃ f',f=f'+1:=⟨f - 1,by omega⟩
  rw [qe.pl7,show decide (j<(R:Int))=false from decide_eq_false (by omega),cond_false]
  congr 1
  apply cY
  intro a b _ _ _ _
  rw [if_neg (by omega)]
 | succ n ih=>
  intro f A j hn hf hj
  obtain ⟨f,rfl⟩:∃ f',f=f'+1:=⟨f - 1,by omega⟩
  rw [qe.pl7,show decide (j<(R:Int))=true from decide_eq_true (by omega),cond_true]
  simp (disch:=omega) only [at_mk,eL,fj,jF,Option.bind_some,ap]
  rw [ih _ _ _ (by omega) (by omega) (by omega)]
  congr 1
  apply cY
  intro a b _ _ _ _
  unfold upd sw
  grind
theorem Vj (hR:R<=1000) (hC:C<=1000) (hF:R<F) (hi0:0<=j) (hi:j<C) (hk0:0<=k) (hk:k<C):qe.p F R C (mk R C A) j k=some (mk R C (swC A j k)):=by
 unfold qe.p
 rw [aqn hR hC hi0 hi hk0 hk R F A 0 (by omega) hF (by omega)]
 apply congrArg some
 apply cY
 intro a b _ _ _ _
 exact if_pos (by omega)
theorem aqo (hR:R<=1000) (hC:C<=1000) (hi0:0<=j) (hi:j<C) (hk0:0<=k) (hk:k<C):∀ (n f:Nat) (A:Mat) (i:Int),R - i=n->n<f->0<=i ->
  cB.pl7 F f j k C (mk R C A) R i=some (mk R C λa b=>if i<=a then A a (sw j k b) else A a b):=by
 intro n
 induction n with
 | zero=>
  intro f A j hn hf hj
  obtain ⟨f,rfl⟩:∃ f',f=f'+1:=⟨f - 1,by omega⟩
  rw [cB.pl7,show decide (j<(R:Int))=false from decide_eq_false (by omega),cond_false]
  congr 1
  apply cY
  intro a b _ _ _ _
  rw [if_neg (by omega)]
 | succ n ih=>
  intro f A j hn hf hj
  obtain ⟨f,rfl⟩:∃ f',f=f'+1:=⟨f - 1,by omega⟩
  rw [cB.pl7,show decide (j<(R:Int))=true from decide_eq_true (by omega),cond_true]
  simp (disch:=omega) only [at_mk,eL,fj,jF,Option.bind_some,ap]
  rw [ih _ _ _ (by omega) (by omega) (by omega)]
  congr 1
  apply cY
  intro a b _ _ _ _
  unfold upd sw
  grind
theorem Vk (hR:R<=1000) (hC:C<=1000) (hF:R<F) (hi0:0<=j) (hi:j<C) (hk0:0<=k) (hk:k<C):cB.p F R C (mk R C A) j k=some (mk R C (swC A j k)):=by
 unfold cB.p
 rw [aqo hR hC hi0 hi hk0 hk R F A 0 (by omega) hF (by omega)]
 apply congrArg some
 apply cY
 intro a b _ _ _ _
 exact if_pos (by omega)
theorem negr_l (hR:R<=1000) (hC:C<=1000) (hk0:0<=k) (hk:k<R):∀ (n:Nat) (A:Mat) (j:Int),Bd R C A->C - j=n->0<=j ->
  ql (mk R C A) (k * C+j).toNat n=mk R C λa b=>if a=k/\j<=b then - A a b else A a b:=by
 intro n
 induction n with
 | zero=>
  intro A j hb hn hj
  unfold ql
  apply cY
  intro a b _ _ _ _
  rw [if_neg (by omega)]
 | succ n ih=>
  intro A j hb hn hj
  unfold ql
  have h1:0<=k * C:=Int.mul_nonneg hk0 (Int.natCast_nonneg _)
  have hbb:=hb k j hk0 hk hj (by omega)
  simp (disch:=omega) only [eL,fj,jF]
  rw [ap (by omega) (by omega),show (k * C+j).toNat+1=(k * C+(j+1)).toNat by omega,ih _ (j+1) ?_ (by omega) (by omega)]
  ·apply cY
   intro a b _ _ _ _
   unfold upd
   grind
  ·intro a b h1 h2 h3 h4
   have:=hb a b h1 h2 h3 h4
   unfold upd
   split <;> omega
theorem negr_mk (hR:R<=1000) (hC:C<=1000) (hk0:0<=k) (hk:k<R) (hb:Bd R C A):ql (mk R C A) (k * C).toNat C=mk R C (ngR A k):=by
 have:=negr_l hR hC hk0 hk C A 0 hb (by omega) (by omega)
 rw [Int.add_zero] at this
 rw [this]
 apply cY
 intro a b _ _ _ _
 unfold ngR
 grind
end Go.Proofs.Ytokekkacliomkaa.AE
end
section
namespace Go.Proofs.Ytokekkacliomkaa.AE
open Go Go.AE Go.Proofs
variable {R C F:Nat} {A:Mat} {i j k:Int}
def ab (x:Int):Int:=if x<0 then -x else x
theorem ab_nn (x:Int):0<=ab x:=by unfold ab;split <;> omega
theorem ab_mul (x y:Int):ab (x * y)=ab x * ab y:=by
 have e (z:Int):ab z=(z.natAbs:Int):=by unfold ab;split <;> omega
 rw [e,e,e,Int.natAbs_mul,Int.natCast_mul]
theorem rV {x:Int} (h0:-4000000000000000000<=x) (h1:x<=4000000000000000000):fW.p F x=some (ab x):=by
 unfold fW.p ab
 rw [ap (by omega) (by omega)]
 congr 1
 split <;> split <;> omega
theorem qN {x:Int} (h0:-4000000000000000000<=x) (h1:x<=4000000000000000000):cW.p F x=some (ab x):=by
 unfold cW.p ab
 by_cases h:x<0
 ·rw [decide_eq_true h,cond_true,ap (by omega) (by omega),if_pos h,Int.zero_sub]
 ·rw [decide_eq_false h,cond_false,if_neg h]
theorem gt_div {u v m:Int} (hu:0<u) (hm:0<=m):v>Int.tdiv m u↔u * v>m:=by
 rw [Int.tdiv_eq_ediv_of_nonneg hm]
 rw [gt_iff_lt,Int.ediv_lt_iff_lt_mul hu,Int.mul_comm]
def okm (x y:Int):Prop:=ab (x * y)<=2000000000000
instance (x y:Int):Decidable (okm x y):=by unfold okm;infer_instance
theorem ab_bd {x m:Int} (h:ab x<=m):-m<=x/\x<=m:=by unfold ab at h;split at h <;> omega
theorem tdiv_bd {m u:Int} (hm:0<=m) (hu:0<=u):0<=Int.tdiv m u/\Int.tdiv m u<=m:=by
 rw [Int.tdiv_eq_ediv_of_nonneg hm]
 exact ⟨Int.ediv_nonneg hm hu,Int.ediv_le_self _ hm⟩
theorem aqp {x y:Int} (hx:ab x<=4000000000000) (hy:ab y<=4000000000000):Bn.p F x y 2000000000000=some (if okm x y then (x * y,true) else (0,false)):=by
 have bx:=ab_bd hx
 have by_:=ab_bd hy
 have n1:=ab_nn x
 unfold Bn.p
 by_cases h:x=0
 ·subst h
  have:okm 0 y:=by unfold okm ab;rw [Int.zero_mul];decide
  rw [if_pos this,show ((0:Int) != 0)=false from rfl,cond_false,Int.zero_mul,ap (by omega) (by omega)]
 ·rw [show (x != 0)=true from bne_iff_ne.2 h,cond_true,rV (by omega) (by omega),Option.bind_some,rV (by omega) (by omega),Option.bind_some]
  have hp:0<ab x:=by unfold ab;split <;> omega
  have bd:=tdiv_bd (m:=2000000000000) (u:=ab x) (by omega) (by omega)
  rw [if_neg (by omega),ap (by omega) (by omega)]
  have key:ab y>Int.tdiv 2000000000000 (ab x)↔¬ okm x y:=by
   rw [gt_div hp (by omega),okm,ab_mul];omega
  by_cases ho:okm x y
  ·rw [decide_eq_false (λh=>(key.1 h) ho),cond_false,if_pos ho]
   have:=ab_bd ho
   rw [ap (by omega) (by omega)]
  ·rw [decide_eq_true (key.2 ho),cond_true,if_neg ho]
theorem aeJ {x y:Int} (hx:ab x<=4000000000000) (hy:ab y<=4000000000000):fX.p F x y 2000000000000=some (if okm x y then (x * y,true) else (0,false)):=by
 have bx:=ab_bd hx
 have by_:=ab_bd hy
 have n1:=ab_nn x
 unfold fX.p
 by_cases h:x=0
 ·subst h
  have:okm 0 y:=by unfold okm ab;rw [Int.zero_mul];decide
  rw [if_pos this,show ((0:Int) != 0)=false from rfl,cond_false,Int.zero_mul,ap (by omega) (by omega)]
 ·rw [show (x != 0)=true from bne_iff_ne.2 h,cond_true,qN (by omega) (by omega),Option.bind_some,qN (by omega) (by omega),Option.bind_some]
  have hp:0<ab x:=by unfold ab;split <;> omega
  have bd:=tdiv_bd (m:=2000000000000) (u:=ab x) (by omega) (by omega)
  rw [if_neg (by omega),ap (by omega) (by omega)]
  have key:ab y>Int.tdiv 2000000000000 (ab x)↔¬ okm x y:=by
   rw [gt_div hp (by omega),okm,ab_mul];omega
  by_cases ho:okm x y
  ·rw [decide_eq_false (λh=>(key.1 h) ho),cond_false,if_pos ho]
   have:=ab_bd ho
   rw [ap (by omega) (by omega)]
  ·rw [decide_eq_true (key.2 ho),cond_true,if_neg ho]
theorem floor_core {a b:Int} (hb:0<b):(Int.tmod a b<0->a / b=Int.tdiv a b - 1)/\(¬ Int.tmod a b<0->a / b=Int.tdiv a b):=by
 have e:=Int.mul_tdiv_add_tmod a b
 have hlt:Int.tmod a b<b:=Int.tmod_lt_of_pos a hb
 have hgt:-b<Int.tmod a b:=by
  have:=Int.neg_one_mul b
  have h:=Int.lt_tmod_of_pos a hb
  omega
 constructor
 ·intro h
  have:a=(Int.tmod a b+b)+b * (Int.tdiv a b - 1):=by rw [Int.mul_sub,Int.mul_one];omega
  conv=>lhs;rw [this]
  rw [Int.add_mul_ediv_left _ _ (by omega),Int.ediv_eq_zero_of_lt (by omega) (by omega),Int.zero_add]
 ·intro h
  have:a=(Int.tmod a b)+b * (Int.tdiv a b):=by omega
  conv=>lhs;rw [this]
  rw [Int.add_mul_ediv_left _ _ (by omega),Int.ediv_eq_zero_of_lt (by omega) (by omega),Int.zero_add]
theorem quo_bd {a b:Int} (hb:0<b) (ha:ab a<=1000000000000):ab (a / b)<=1000000000000/\ab (Int.tdiv a b)<=1000000000000:=by
 have h:=ab_bd ha
 have h1:a / b<=1000000000000:=by
  by_cases h0:0<=a
  ·have:=Int.ediv_le_self b h0;omega
  ·have:=Int.ediv_neg_of_neg_of_pos (by omega:a<0) hb;omega
 have h2:-1000000000000<=a / b:=by
  rw [Int.le_ediv_iff_mul_le hb]
  have:1000000000000 * 1<=1000000000000 * b:=Int.mul_le_mul_of_nonneg_left (by omega) (by omega)
  rw [Int.neg_mul];omega
 have h3:a / b<=Int.tdiv a b/\Int.tdiv a b<=a / b+1:=by
  by_cases hh:Int.tmod a b<0
  ·have:=(floor_core (a:=a) hb).1 hh;omega
  ·have:=(floor_core (a:=a) hb).2 hh;omega
 have h4:Int.tdiv a b<=1000000000000:=by
  by_cases h0:0<=a
  ·rw [Int.tdiv_eq_ediv_of_nonneg h0];exact h1
  ·have:=Int.ediv_neg_of_neg_of_pos (by omega:a<0) hb;omega
 unfold ab
 constructor <;> split <;> omega
theorem aeK {a b:Int} (hb:0<b) (ha:ab a<=1000000000000):KK.p F a b=some (a / b):=by
 unfold KK.p
 obtain ⟨h1,h2⟩:=quo_bd hb ha
 have h1:=ab_bd h1
 have h2:=ab_bd h2
 rw [if_neg (by omega),if_neg (by omega),ap (x:=Int.tdiv a b) (by omega) (by omega)]
 by_cases h:Int.tmod a b<0
 ·have e:=(floor_core (a:=a) hb).1 h
  rw [decide_eq_true h,cond_true,ap (x:=Int.tdiv a b - 1) (by omega) (by omega),e]
 ·rw [decide_eq_false h,cond_false,(floor_core (a:=a) hb).2 h]
theorem aeL {a b:Int} (hb:0<b) (ha:ab a<=1000000000000):ic.p F a b=some (a / b):=by
 unfold ic.p
 obtain ⟨h1,h2⟩:=quo_bd hb ha
 have h1:=ab_bd h1
 have h2:=ab_bd h2
 rw [if_neg (by omega),if_neg (by omega),ap (x:=Int.tdiv a b) (by omega) (by omega)]
 by_cases h:Int.tmod a b<0
 ·have e:=(floor_core (a:=a) hb).1 h
  rw [decide_eq_true h,cond_true,ap (x:=Int.tdiv a b - 1) (by omega) (by omega),e]
 ·rw [decide_eq_false h,cond_false,(floor_core (a:=a) hb).2 h]
def fit (x y b:Int):Prop:=okm y b/\ab (x+y * b)<=1000000000000
instance (x y b:Int):Decidable (fit x y b):=by unfold fit;infer_instance
def ad (x y b:Int):Int:=if fit x y b then x+y * b else 0
theorem ad_bd (x y b:Int):ab (ad x y b)<=1000000000000:=by
 unfold ad
 split
 ·rename_i h;exact h.2
 ·decide
theorem ad_fit {x y b:Int} (h:fit x y b):ad x y b=x+y * b:=if_pos h
def adRf (A:Mat) (t f b j0:Int):Mat:=λi j=>if i=t/\j0<=j then ad (A t j) (A f j) b else A i j
def adCf (A:Mat) (t f b i0:Int):Mat:=λi j=>if j=t/\i0<=i then ad (A i t) (A i f) b else A i j
def adR (A:Mat) (t f b:Int):Mat:=λi j=>if i=t then ad (A t j) (A f j) b else A i j
def adC (A:Mat) (t f b:Int):Mat:=λi j=>if j=t then ad (A i t) (A i f) b else A i j
theorem Bd.ab {i j:Int} (h:Bd R C A) (hi0:0<=i) (hi:i<R) (hj0:0<=j) (hj:j<C):ab (A i j)<=1000000000000:=by
 have:=h i j hi0 hi hj0 hj
 unfold AE.ab;split <;> omega
theorem Bd.upd {i j x:Int} (h:Bd R C A) (hx:AE.ab x<=1000000000000):Bd R C (upd A i j x):=by
 intro a b h1 h2 h3 h4
 have:=h a b h1 h2 h3 h4
 have:=ab_bd hx
 unfold Go.AE.upd
 split <;> omega
theorem aqq {t f q:Int} (hR:R<=1000) (hC:C<=1000) (ht0:0<=t) (ht:t<R) (hf0:0<=f) (hf:f<R) (htf:t≠f) (hq:ab q<=4000000000000):∀ (n g:Nat) (A:Mat) (bad:Bool) (j:Int),Bd R C A->C - j=n->n<g->0<=j ->
  ∃ bad',cu.pl7 F g bad t f q C (mk R C A) C j=some (bad',mk R C (adRf A t f q j))/\(bad'=true↔bad=true\/∃ b,j<=b/\b<C/\¬ fit (A t b) (A f b) q):=by
 intro n
 induction n with
 | zero=>
  intro g A bad j hb hn hg hj
  obtain ⟨g,rfl⟩:∃ g',g=g'+1:=⟨g - 1,by omega⟩
  rw [cu.pl7,show decide (j<(C:Int))=false from decide_eq_false (by omega),cond_false]
  refine ⟨bad,?_,⟨λh=>.inl h,λh=>?_⟩⟩
  ·congr 2
   apply cY
   intro a b _ _ _ _
   exact (if_neg (by omega)).symm
  ·rcases h with h | ⟨b,h1,h2,_⟩
   ·exact h
   ·omega
 | succ n ih=>
  intro g A bad j hb hn hg hj
  obtain ⟨g,rfl⟩:∃ g',g=g'+1:=⟨g - 1,by omega⟩
  rw [cu.pl7,show decide (j<(C:Int))=true from decide_eq_true (by omega),cond_true]
  have b1:=hb.ab hf0 hf hj (by omega)
  have b2:=hb.ab ht0 ht hj (by omega)
  have b3:=ab_bd b2
  simp (disch:=omega) only [eL,fj,jF,Option.bind_some,ap]
  rw [aeJ (by omega) hq,Option.bind_some]
  have step:∀ bad1:Bool,(bad1=true↔bad=true\/¬ fit (A t j) (A f j) q)->∃ bad',cu.pl7 F g bad1 t f q C (mk R C (upd A t j (ad (A t j) (A f j) q))) C (j+1)=some (bad',mk R C (adRf A t f q j))/\(bad'=true↔bad=true\/∃ b,j<=b/\b<C/\¬ fit (A t b) (A f b) q):=by
   intro bad1 hbad
   obtain ⟨bad',e,he⟩:=ih g (upd A t j (ad (A t j) (A f j) q)) bad1 (j+1) (hb.upd (ad_bd _ _ _)) (by omega) (by omega) (by omega)
   refine ⟨bad',?_,?_⟩
   ·rw [e]
    congr 2
    apply cY
    intro a b _ _ _ _
    unfold adRf upd
    grind
   ·rw [he,hbad]
    constructor
    ·rintro ((h | h) | ⟨b,h1,h2,h3⟩)
     ·exact .inl h
     ·exact .inr ⟨j,by omega,by omega,h⟩
     ·rw [kp _ _ (by omega),kp _ _ (by omega)] at h3
      exact .inr ⟨b,by omega,h2,h3⟩
    ·rintro (h | ⟨b,h1,h2,h3⟩)
     ·exact .inl (.inl h)
     ·by_cases e:b=j
      ·subst e;exact .inl (.inr h3)
      ·exact .inr ⟨b,by omega,h2,by rw [kp _ _ (by omega),kp _ _ (by omega)];exact h3⟩
  by_cases ho:okm (A f j) q
  ·have h4:=ab_bd ho
   simp only [if_pos ho,Bool.not_true,cond_false]
   simp (disch:=omega) only [fj,Eu,ap,Option.bind_some]
   rw [qN (by omega) (by omega),Option.bind_some]
   by_cases hs:ab (A t j+A f j * q)<=1000000000000
   ·rw [decide_eq_false (by omega),cond_false]
    have hfit:fit (A t j) (A f j) q:=⟨ho,hs⟩
    rw [<- ad_fit hfit]
    exact step bad ⟨λh=>.inl h,λh=>h.elim id λh=>absurd hfit h⟩
   ·rw [decide_eq_true (by omega),cond_true]
    have hfit:¬ fit (A t j) (A f j) q:=λh=>hs h.2
    have e0:upd (upd A t j (A t j+A f j * q)) t j 0=upd A t j (ad (A t j) (A f j) q):=by
     funext a b;unfold upd ad;rw [if_neg hfit];split <;> rfl
    rw [e0]
    exact step true ⟨λ_=>.inr hfit,λ_=>rfl⟩
  ·simp only [if_neg ho,Bool.not_false,cond_true,Option.bind_some]
   have hfit:¬ fit (A t j) (A f j) q:=λh=>ho h.1
   have e0:∀ z,upd (upd A t j z) t j 0=upd A t j (ad (A t j) (A f j) q):=by
    intro z;funext a b;unfold upd ad;rw [if_neg hfit];split <;> rfl
   rw [e0]
   exact step true ⟨λ_=>.inr hfit,λ_=>rfl⟩
theorem aqr {t f q:Int} (hR:R<=1000) (hC:C<=1000) (ht0:0<=t) (ht:t<C) (hf0:0<=f) (hf:f<C) (htf:t≠f) (hq:ab q<=4000000000000):∀ (n g:Nat) (A:Mat) (bad:Bool) (j:Int),Bd R C A->R - j=n->n<g->0<=j ->
  ∃ bad',cv.pl7 F g bad t f q C (mk R C A) R j=some (bad',mk R C (adCf A t f q j))/\(bad'=true↔bad=true\/∃ b,j<=b/\b<R/\¬ fit (A b t) (A b f) q):=by
 intro n
 induction n with
 | zero=>
  intro g A bad j hb hn hg hj
  obtain ⟨g,rfl⟩:∃ g',g=g'+1:=⟨g - 1,by omega⟩
  rw [cv.pl7,show decide (j<(R:Int))=false from decide_eq_false (by omega),cond_false]
  refine ⟨bad,?_,⟨λh=>.inl h,λh=>?_⟩⟩
  ·congr 2
   apply cY
   intro a b _ _ _ _
   exact (if_neg (by omega)).symm
  ·rcases h with h | ⟨b,h1,h2,_⟩
   ·exact h
   ·omega
 | succ n ih=>
  intro g A bad j hb hn hg hj
  obtain ⟨g,rfl⟩:∃ g',g=g'+1:=⟨g - 1,by omega⟩
  rw [cv.pl7,show decide (j<(R:Int))=true from decide_eq_true (by omega),cond_true]
  have b1:=hb.ab hj (by omega) hf0 hf
  have b2:=hb.ab hj (by omega) ht0 ht
  have b3:=ab_bd b2
  simp (disch:=omega) only [eL,fj,jF,Option.bind_some,ap]
  rw [aeJ (by omega) hq,Option.bind_some]
  have step:∀ bad1:Bool,(bad1=true↔bad=true\/¬ fit (A j t) (A j f) q)->∃ bad',cv.pl7 F g bad1 t f q C (mk R C (upd A j t (ad (A j t) (A j f) q))) R (j+1)=some (bad',mk R C (adCf A t f q j))/\(bad'=true↔bad=true\/∃ b,j<=b/\b<R/\¬ fit (A b t) (A b f) q):=by
   intro bad1 hbad
   obtain ⟨bad',e,he⟩:=ih g (upd A j t (ad (A j t) (A j f) q)) bad1 (j+1) (hb.upd (ad_bd _ _ _)) (by omega) (by omega) (by omega)
   refine ⟨bad',?_,?_⟩
   ·rw [e]
    congr 2
    apply cY
    intro a b _ _ _ _
    unfold adCf upd
    grind
   ·rw [he,hbad]
    constructor
    ·rintro ((h | h) | ⟨b,h1,h2,h3⟩)
     ·exact .inl h
     ·exact .inr ⟨j,by omega,by omega,h⟩
     ·rw [kp _ _ (by omega),kp _ _ (by omega)] at h3
      exact .inr ⟨b,by omega,h2,h3⟩
    ·rintro (h | ⟨b,h1,h2,h3⟩)
     ·exact .inl (.inl h)
     ·by_cases e:b=j
      ·subst e;exact .inl (.inr h3)
      ·exact .inr ⟨b,by omega,h2,by rw [kp _ _ (by omega),kp _ _ (by omega)];exact h3⟩
  by_cases ho:okm (A j f) q
  ·have h4:=ab_bd ho
   simp only [if_pos ho,Bool.not_true,cond_false]
   simp (disch:=omega) only [fj,Eu,ap,Option.bind_some]
   rw [qN (by omega) (by omega),Option.bind_some]
   by_cases hs:ab (A j t+A j f * q)<=1000000000000
   ·rw [decide_eq_false (by omega),cond_false]
    have hfit:fit (A j t) (A j f) q:=⟨ho,hs⟩
    rw [<- ad_fit hfit]
    exact step bad ⟨λh=>.inl h,λh=>h.elim id λh=>absurd hfit h⟩
   ·rw [decide_eq_true (by omega),cond_true]
    have hfit:¬ fit (A j t) (A j f) q:=λh=>hs h.2
    have e0:upd (upd A j t (A j t+A j f * q)) j t 0=upd A j t (ad (A j t) (A j f) q):=by
     funext a b;unfold upd ad;rw [if_neg hfit];split <;> rfl
    rw [e0]
    exact step true ⟨λ_=>.inr hfit,λ_=>rfl⟩
  ·simp only [if_neg ho,Bool.not_false,cond_true,Option.bind_some]
   have hfit:¬ fit (A j t) (A j f) q:=λh=>ho h.1
   have e0:∀ z,upd (upd A j t z) j t 0=upd A j t (ad (A j t) (A j f) q):=by
    intro z;funext a b;unfold upd ad;rw [if_neg hfit];split <;> rfl
   rw [e0]
   exact step true ⟨λ_=>.inr hfit,λ_=>rfl⟩
def nfR (C:Nat) (A:Mat) (t f q:Int):Prop:=∃ b:Int,0<=b/\b<C/\¬ fit (A t b) (A f b) q
def nfC (R:Nat) (A:Mat) (t f q:Int):Prop:=∃ b:Int,0<=b/\b<R/\¬ fit (A b t) (A b f) q
theorem Vl {t f q:Int} {bad:Bool} (hR:R<=1000) (hC:C<=1000) (hF:C<F) (hb:Bd R C A) (ht0:0<=t) (ht:t<R) (hf0:0<=f) (hf:f<R) (htf:t≠f) (hq:ab q<=4000000000000) :
  ∃ bad',cu.p F bad C (mk R C A) t f q=some (bad',mk R C (adR A t f q))/\(bad'=true↔bad=true\/nfR C A t f q):=by
 obtain ⟨bad',e,h⟩:=aqq hR hC ht0 ht hf0 hf htf hq C F A bad 0 hb (by omega) hF (by omega)
 refine ⟨bad',?_,h⟩
 unfold cu.p
 rw [e]
 congr 2
 apply cY
 intro a b _ _ _ _
 unfold adRf adR
 grind
theorem Vm {t f q:Int} {bad:Bool} (hR:R<=1000) (hC:C<=1000) (hF:R<F) (hb:Bd R C A) (ht0:0<=t) (ht:t<C) (hf0:0<=f) (hf:f<C) (htf:t≠f) (hq:ab q<=4000000000000) :
  ∃ bad',cv.p F bad R C (mk R C A) t f q=some (bad',mk R C (adC A t f q))/\(bad'=true↔bad=true\/nfC R A t f q):=by
 obtain ⟨bad',e,h⟩:=aqr hR hC ht0 ht hf0 hf htf hq R F A bad 0 hb (by omega) hF (by omega)
 refine ⟨bad',?_,h⟩
 unfold cv.p
 rw [e]
 congr 2
 apply cY
 intro a b _ _ _ _
 unfold adCf adC
 grind
theorem Bd.adR {t f q:Int} (h:Bd R C A):Bd R C (adR A t f q):=by
 intro a b h1 h2 h3 h4
 have:=h a b h1 h2 h3 h4
 have:=ab_bd (ad_bd (A t b) (A f b) q)
 unfold AE.adR
 split <;> omega
theorem Bd.adC {t f q:Int} (h:Bd R C A):Bd R C (adC A t f q):=by
 intro a b h1 h2 h3 h4
 have:=h a b h1 h2 h3 h4
 have:=ab_bd (ad_bd (A a t) (A a f) q)
 unfold AE.adC
 split <;> omega
end Go.Proofs.Ytokekkacliomkaa.AE
end
section
namespace Go.Proofs.Ytokekkacliomkaa.AE
open Go Go.AE Go.Proofs
variable {R C F:Nat} {A:Mat} {i j k:Int}
theorem aeM {x y q:Int} (hx:ab x<=1000000000000) (hy:ab y<=1000000000000) (hq:ab q<=4000000000000):∃ z,KL.p F x q y=some z/\ab z<=4000000000000/\(ab z<=1000000000000↔fit x y (-q))/\(fit x y (-q)->z=ad x y (-q)):=by
 unfold KL.p
 rw [aqp hq (by omega),Option.bind_some]
 have e1:y * -q=- (q * y):=by rw [Int.mul_neg,Int.mul_comm]
 have ho:okm y (-q)↔okm q y:=by
  unfold okm;rw [e1];unfold ab;split <;> split <;> omega
 have bx:=ab_bd hx
 by_cases h:okm q y
 ·have hb:=ab_bd h
  rw [if_pos h,Bool.not_true,cond_false]
  simp only []
  rw [ap (by omega) (by omega)]
  have e2:x+y * -q=x - q * y:=by omega
  refine ⟨_,rfl,?_,?_,?_⟩
  ·unfold ab;split <;> omega
  ·unfold fit;rw [e2]
   exact ⟨λh1=>⟨ho.2 h,h1⟩,λh1=>h1.2⟩
  ·intro hf
   rw [ad_fit hf,e2]
 ·rw [if_neg h,Bool.not_false,cond_true]
  refine ⟨_,rfl,by decide,⟨λh=>absurd h (by decide),λhf=>absurd (ho.1 hf.1) h⟩,λhf=>absurd (ho.1 hf.1) h⟩
theorem aeN {z:Int} {bad:Bool} (hR:R<=1000) (hC:C<=1000) (hi0:0<=i) (hi:i<R) (hj0:0<=j) (hj:j<C) (hz:ab z<=4000000000000) :
  KM.p F bad C (mk R C A) i j z=some (if ab z<=1000000000000 then (bad,mk R C (upd A i j z)) else (true,mk R C A)):=by
 have hb:=ab_bd hz
 unfold KM.p
 rw [rV (by omega) (by omega),Option.bind_some]
 by_cases h:ab z<=1000000000000
 ·rw [decide_eq_false (by omega),cond_false,if_pos h]
  simp (disch:=omega) only [eL,jF,Option.bind_some]
 ·rw [decide_eq_true (by omega),cond_true,if_neg h]
theorem aqs {t f q:Int} (hR:R<=1000) (hC:C<=1000) (ht0:0<=t) (ht:t<R) (hf0:0<=f) (hf:f<R) (htf:t≠f) (hq:ab q<=4000000000000):∀ (n g:Nat) (A:Mat) (j:Int),Bd R C A->C - j=n->n<g->0<=j ->
  ∃ bad' l',mI.pl7 F g false t f q C (mk R C A) j=some (bad',l')/\(bad'=true↔∃ b,j<=b/\b<C/\¬ fit (A t b) (A f b) (-q))/\(bad'=false->l'=mk R C (adRf A t f (-q) j)):=by
 intro n
 induction n with
 | zero=>
  intro g A j hb hn hg hj
  obtain ⟨g,rfl⟩:∃ g',g=g'+1:=⟨g - 1,by omega⟩
  rw [mI.pl7,show decide (j<(C:Int))=false from decide_eq_false (by omega),cond_false]
  refine ⟨_,_,rfl,⟨λh=>(by cases h),λ⟨b,h1,h2,_⟩=>by omega⟩,λ_=>?_⟩
  apply cY
  intro a b _ _ _ _
  exact (if_neg (by omega)).symm
 | succ n ih=>
  intro g A j hb hn hg hj
  obtain ⟨g,rfl⟩:∃ g',g=g'+1:=⟨g - 1,by omega⟩
  rw [mI.pl7,show decide (j<(C:Int))=true from decide_eq_true (by omega),cond_true,Bool.not_false,cond_true]
  have b1:=hb.ab hf0 hf hj (by omega)
  have b2:=hb.ab ht0 ht hj (by omega)
  simp (disch:=omega) only [at_mk,Option.bind_some]
  obtain ⟨z,ez,hz1,hz2,hz3⟩:=aeM (F:=F) b2 b1 hq
  rw [ez,Option.bind_some,aeN hR hC ht0 ht hj (by omega) hz1,Option.bind_some,ap (by omega) (by omega)]
  by_cases hfit:fit (A t j) (A f j) (-q)
  ·rw [if_pos (hz2.2 hfit),hz3 hfit]
   obtain ⟨bad',l',e,he,hl⟩:=ih g (upd A t j (ad (A t j) (A f j) (-q))) (j+1) (hb.upd (ad_bd _ _ _)) (by omega) (by omega) (by omega)
   refine ⟨bad',l',e,?_,?_⟩
   ·rw [he]
    constructor
    ·rintro ⟨b,h1,h2,h3⟩
     rw [kp _ _ (by omega),kp _ _ (by omega)] at h3
     exact ⟨b,by omega,h2,h3⟩
    ·rintro ⟨b,h1,h2,h3⟩
     by_cases e:b=j
     ·subst e;exact absurd hfit h3
     ·exact ⟨b,by omega,h2,by rw [kp _ _ (by omega),kp _ _ (by omega)];exact h3⟩
   ·intro hbad
    rw [hl hbad]
    apply cY
    intro a b _ _ _ _
    unfold adRf upd
    grind
  ·rw [if_neg (λh=>hfit (hz2.1 h))]
   obtain ⟨g,rfl⟩:∃ g',g=g'+1:=⟨g - 1,by omega⟩
   refine ⟨true,mk R C A,?_,⟨λ_=>⟨j,by omega,by omega,hfit⟩,λ_=>rfl⟩,λh=>by cases h⟩
   rw [mI.pl7]
   cases decide (j+1<(C:Int)) <;> rfl
theorem aqt {t f q:Int} (hR:R<=1000) (hC:C<=1000) (ht0:0<=t) (ht:t<C) (hf0:0<=f) (hf:f<C) (htf:t≠f) (hq:ab q<=4000000000000):∀ (n g:Nat) (A:Mat) (j:Int),Bd R C A->R - j=n->n<g->0<=j ->
  ∃ bad' l',mJ.pl7 F g false t f q R C (mk R C A) j=some (bad',l')/\(bad'=true↔∃ b,j<=b/\b<R/\¬ fit (A b t) (A b f) (-q))/\(bad'=false->l'=mk R C (adCf A t f (-q) j)):=by
 intro n
 induction n with
 | zero=>
  intro g A j hb hn hg hj
  obtain ⟨g,rfl⟩:∃ g',g=g'+1:=⟨g - 1,by omega⟩
  rw [mJ.pl7,show decide (j<(R:Int))=false from decide_eq_false (by omega),cond_false]
  refine ⟨_,_,rfl,⟨λh=>(by cases h),λ⟨b,h1,h2,_⟩=>by omega⟩,λ_=>?_⟩
  apply cY
  intro a b _ _ _ _
  exact (if_neg (by omega)).symm
 | succ n ih=>
  intro g A j hb hn hg hj
  obtain ⟨g,rfl⟩:∃ g',g=g'+1:=⟨g - 1,by omega⟩
  rw [mJ.pl7,show decide (j<(R:Int))=true from decide_eq_true (by omega),cond_true,Bool.not_false,cond_true]
  have b1:=hb.ab hj (by omega) hf0 hf
  have b2:=hb.ab hj (by omega) ht0 ht
  simp (disch:=omega) only [at_mk,Option.bind_some]
  obtain ⟨z,ez,hz1,hz2,hz3⟩:=aeM (F:=F) b2 b1 hq
  rw [ez,Option.bind_some,aeN hR hC hj (by omega) ht0 ht hz1,Option.bind_some,ap (by omega) (by omega)]
  by_cases hfit:fit (A j t) (A j f) (-q)
  ·rw [if_pos (hz2.2 hfit),hz3 hfit]
   obtain ⟨bad',l',e,he,hl⟩:=ih g (upd A j t (ad (A j t) (A j f) (-q))) (j+1) (hb.upd (ad_bd _ _ _)) (by omega) (by omega) (by omega)
   refine ⟨bad',l',e,?_,?_⟩
   ·rw [he]
    constructor
    ·rintro ⟨b,h1,h2,h3⟩
     rw [kp _ _ (by omega),kp _ _ (by omega)] at h3
     exact ⟨b,by omega,h2,h3⟩
    ·rintro ⟨b,h1,h2,h3⟩
     by_cases e:b=j
     ·subst e;exact absurd hfit h3
     ·exact ⟨b,by omega,h2,by rw [kp _ _ (by omega),kp _ _ (by omega)];exact h3⟩
   ·intro hbad
    rw [hl hbad]
    apply cY
    intro a b _ _ _ _
    unfold adCf upd
    grind
  ·rw [if_neg (λh=>hfit (hz2.1 h))]
   obtain ⟨g,rfl⟩:∃ g',g=g'+1:=⟨g - 1,by omega⟩
   refine ⟨true,mk R C A,?_,⟨λ_=>⟨j,by omega,by omega,hfit⟩,λ_=>rfl⟩,λh=>by cases h⟩
   rw [mJ.pl7]
   cases decide (j+1<(R:Int)) <;> rfl
theorem Vn {t f q:Int} (hR:R<=1000) (hC:C<=1000) (hF:C<F) (hb:Bd R C A) (ht0:0<=t) (ht:t<R) (hf0:0<=f) (hf:f<R) (htf:t≠f) (hq:ab q<=4000000000000) :
  ∃ bad' l',mI.p F false C (mk R C A) t f q=some (bad',l')/\(bad'=true↔nfR C A t f (-q))/\(bad'=false->l'=mk R C (adR A t f (-q))):=by
 obtain ⟨bad',l',e,h,hl⟩:=aqs hR hC ht0 ht hf0 hf htf hq C F A 0 hb (by omega) hF (by omega)
 refine ⟨bad',l',e,h,λhh=>?_⟩
 rw [hl hh]
 apply cY
 intro a b _ _ _ _
 unfold adRf adR
 grind
theorem Vo {t f q:Int} (hR:R<=1000) (hC:C<=1000) (hF:R<F) (hb:Bd R C A) (ht0:0<=t) (ht:t<C) (hf0:0<=f) (hf:f<C) (htf:t≠f) (hq:ab q<=4000000000000) :
  ∃ bad' l',mJ.p F false R C (mk R C A) t f q=some (bad',l')/\(bad'=true↔nfC R A t f (-q))/\(bad'=false->l'=mk R C (adC A t f (-q))):=by
 obtain ⟨bad',l',e,h,hl⟩:=aqt hR hC ht0 ht hf0 hf htf hq R F A 0 hb (by omega) hF (by omega)
 refine ⟨bad',l',e,h,λhh=>?_⟩
 rw [hl hh]
 apply cY
 intro a b _ _ _ _
 unfold adCf adC
 grind
theorem Vp {t f q:Int} {c:Int} {l:List Int} (hF:0<F):mI.p F true c l t f q=some (true,l):=by
 obtain ⟨g,rfl⟩:∃ g',F=g'+1:=⟨F - 1,by omega⟩
 unfold mI.p
 rw [mI.pl7]
 cases decide (0<c) <;> rfl
theorem Vq {t f q:Int} {r c:Int} {l:List Int} (hF:0<F):mJ.p F true r c l t f q=some (true,l):=by
 obtain ⟨g,rfl⟩:∃ g',F=g'+1:=⟨F - 1,by omega⟩
 unfold mJ.p
 rw [mJ.pl7]
 cases decide (0<r) <;> rfl
end Go.Proofs.Ytokekkacliomkaa.AE
end
section
namespace Go.Proofs.Ytokekkacliomkaa.AE
open Go Go.AE Go.Proofs
variable {R C F:Nat} {A:Mat} {i j k:Int}
def Sc (k:Int) (C:Nat) (i j a b:Int):Prop:=k<=a/\k<=b/\b<C/\(a<i\/a=i/\b<j)
def SI (k:Int) (C:Nat) (A:Mat) (i j:Int):Option (Int×Int)->Prop
 | none=>∀ a b,Sc k C i j a b->A a b=0
 | some (p,q)=>Sc k C i j p q/\A p q≠0/\∀ a b,Sc k C i j a b->A a b≠0->ab (A p q)<=ab (A a b)/\((a<p\/a=p/\b<q)->ab (A p q)<ab (A a b))
def sP:Option (Int×Int)->Int | none=>-1 | some (p,_)=>p
def sQ:Option (Int×Int)->Int | none=>-1 | some (_,q)=>q
def iP:Option (Int×Int)->Int | none=>0 | some (p,_)=>p
def iQ:Option (Int×Int)->Int | none=>0 | some (_,q)=>q
theorem ab_pos {x:Int}:ab x>0↔x≠0:=by unfold ab;split <;> omega
theorem sel_in {k:Int} (hR:R<=1000) (hC:C<=1000) (hb:Bd R C A) (hk:0<=k) (hi:i<R) (hki:k<=i) {l1 l2 l3 l4:List Int} {c1 c2 c3 c4 c5 c6:Int} {pC} {pD}:∀ (n g h:Nat) (s:Option (Int×Int)) (j:Int),C - j=n->n<g->n<h->k<=j->SI k C A i j s ->
  ∃ s',SI k C A i C s'/\dw.pl469 F pC g R C (mk R C A) c1 l1 c2 c3 l2 c4 c5 l3 c6 l4 k (sP s) (sQ s) i j=dw.pj9 F pC R C (mk R C A) c1 l1 c2 c3 l2 c4 c5 l3 c6 l4 k (sP s') (sQ s') i /\
   aN.pl469 F pD h k (iP s) (iQ s) s.isSome R C (mk R C A) i j=aN.pj8 F pD k (iP s') (iQ s') s'.isSome R C (mk R C A) i:=by
 intro n
 induction n with
 | zero=>
  intro g h s j hn hg hh hj hs
  obtain ⟨g,rfl⟩:∃ g',g=g'+1:=⟨g - 1,by omega⟩
  obtain ⟨h,rfl⟩:∃ g',h=g'+1:=⟨h - 1,by omega⟩
  rw [dw.pl469,aN.pl469,show decide (j<(C:Int))=false from decide_eq_false (by omega),cond_false,cond_false]
  refine ⟨s,?_,rfl,rfl⟩
  rw [show j=(C:Int) by omega] at hs
  exact hs
 | succ n ih=>
  intro g h s j hn hg hh hj hs
  obtain ⟨g,rfl⟩:∃ g',g=g'+1:=⟨g - 1,by omega⟩
  obtain ⟨h,rfl⟩:∃ g',h=g'+1:=⟨h - 1,by omega⟩
  rw [dw.pl469,aN.pl469,show decide (j<(C:Int))=true from decide_eq_true (by omega),cond_true,cond_true]
  have b1:=ab_bd (hb.ab (by omega:0<=i) hi (by omega:0<=j) (by omega))
  simp (disch:=omega) only [at_mk,eL,fj,Option.bind_some,rV,qN,ap,dw.pj10,aN.pj9]
  have scj:∀ a b,Sc k C i (j+1) a b↔Sc k C i j a b\/(a=i/\b=j):=by
   intro a b;unfold Sc;omega
  by_cases hx:A i j=0
  ·rw [hx,show decide (ab 0>0)=false from rfl,show (ab 0 != 0)=false from rfl,cond_false,cond_false]
   refine ih g h s (j+1) (by omega) (by omega) (by omega) (by omega) ?_
   match s,hs with
   | none,hs=>
    intro a b h1
    rcases (scj a b).1 h1 with h1 | ⟨rfl,rfl⟩
    ·exact hs a b h1
    ·exact hx
   | some (p,q),⟨h1,h2,h3⟩=>
    refine ⟨(scj p q).2 (.inl h1),h2,λa b h4 h5=>?_⟩
    rcases (scj a b).1 h4 with h4 | ⟨rfl,rfl⟩
    ·exact h3 a b h4 h5
    ·exact absurd hx h5
  ·have hpos:=ab_pos.2 hx
   rw [decide_eq_true hpos,show (ab (A i j) != 0)=true from bne_iff_ne.2 (by omega),cond_true,cond_true]
   match s,hs with
   | none,hs=>
    rw [show decide (sP none<0)=true from rfl,cond_true]
    simp only [Option.isSome_none,Bool.not_false,cond_true]
    refine ih g h (some (i,j)) (j+1) (by omega) (by omega) (by omega) (by omega) ⟨(scj i j).2 (.inr ⟨rfl,rfl⟩),hx,λa b h4 h5=>?_⟩
    rcases (scj a b).1 h4 with h4 | ⟨rfl,rfl⟩
    ·exact absurd (hs a b h4) h5
    ·exact ⟨Int.le_refl _,λh=>by omega⟩
   | some (p,q),⟨h1,h2,h3⟩=>
    have h1':=h1
    obtain ⟨e1,e2,e3,e4⟩:=h1'
    have b2:=ab_bd (hb.ab (i:=p) (j:=q) (by omega) (by omega) (by omega) (by omega))
    simp only [sP,sQ,iP,iQ,Option.isSome_some,Bool.not_true,cond_false]
    simp only [eq_false (show ¬ p<0 by omega),decide_false,cond_false]
    simp (disch:=omega) only [at_mk,eL,fj,Option.bind_some,rV,qN]
    by_cases hlt:ab (A i j)<ab (A p q)
    ·rw [decide_eq_true hlt,cond_true,cond_true]
     refine ih g h (some (i,j)) (j+1) (by omega) (by omega) (by omega) (by omega) ⟨(scj i j).2 (.inr ⟨rfl,rfl⟩),hx,λa b h4 h5=>?_⟩
     rcases (scj a b).1 h4 with h4 | ⟨rfl,rfl⟩
     ·have:=(h3 a b h4 h5).1
      exact ⟨by omega,λ_=>by omega⟩
     ·exact ⟨Int.le_refl _,λh=>by omega⟩
    ·rw [decide_eq_false hlt,cond_false,cond_false]
     refine ih g h (some (p,q)) (j+1) (by omega) (by omega) (by omega) (by omega) ⟨(scj p q).2 (.inl h1),h2,λa b h4 h5=>?_⟩
     rcases (scj a b).1 h4 with h4 | ⟨rfl,rfl⟩
     ·exact h3 a b h4 h5
     ·exact ⟨by omega,λh=>by omega⟩
theorem sel_out {k:Int} (hR:R<=1000) (hC:C<=1000) (hF:C<F) (hb:Bd R C A) (hk:0<=k) (hkC:k<=C) {l1 l2 l3 l4:List Int} {c1 c2 c3 c4 c5 c6:Int}:∀ (n g h:Nat) (s:Option (Int×Int)) (i:Int),R - i=n->n<g->n<h->k<=i->SI k C A i k s ->
  ∃ s',SI k C A R k s'/\dw.pl29 F g R C (mk R C A) c1 l1 c2 c3 l2 c4 c5 l3 c6 l4 k (sP s) (sQ s) i=dw.pj6 F R C (mk R C A) c1 l1 c2 c3 l2 c4 c5 l3 c6 l4 k (sP s') (sQ s') /\
   aN.pl29 F h k (iP s) (iQ s) s.isSome R C (mk R C A) i=some (iP s',iQ s',s'.isSome):=by
 intro n
 induction n with
 | zero=>
  intro g h s i hn hg hh hj hs
  obtain ⟨g,rfl⟩:∃ g',g=g'+1:=⟨g - 1,by omega⟩
  obtain ⟨h,rfl⟩:∃ g',h=g'+1:=⟨h - 1,by omega⟩
  rw [dw.pl29,aN.pl29,show decide (i<(R:Int))=false from decide_eq_false (by omega),cond_false,cond_false]
  refine ⟨s,?_,rfl,rfl⟩
  rw [show i=(R:Int) by omega] at hs
  exact hs
 | succ n ih=>
  intro g h s i hn hg hh hj hs
  obtain ⟨g,rfl⟩:∃ g',g=g'+1:=⟨g - 1,by omega⟩
  obtain ⟨h,rfl⟩:∃ g',h=g'+1:=⟨h - 1,by omega⟩
  rw [dw.pl29,aN.pl29,show decide (i<(R:Int))=true from decide_eq_true (by omega),cond_true,cond_true]
  obtain ⟨s1,hs1,e1,e2⟩:=sel_in (F:=F) (c1:=c1) (c2:=c2) (c3:=c3) (c4:=c4) (c5:=c5) (c6:=c6) (l1:=l1) (l2:=l2) (l3:=l3) (l4:=l4) (pC:=dw.pl29 F g) (pD:=aN.pl29 F h) hR hC hb hk (by omega) hj (C - k).toNat F F s k (by omega) (by omega) (by omega) (by omega) hs
  rw [e1,e2]
  unfold dw.pj9 dw.pj8 aN.pj8 aN.pj7
  rw [ap (by omega) (by omega)]
  refine ih g h s1 (i+1) (by omega) (by omega) (by omega) (by omega) ?_
  have sc:∀ a b,Sc k C (i+1) k a b↔Sc k C i C a b:=by
   intro a b;unfold Sc;omega
  match s1,hs1 with
  | none,hs=>exact λa b h=>hs a b ((sc a b).1 h)
  | some (p,q),⟨h1,h2,h3⟩=>exact ⟨(sc p q).2 h1,h2,λa b h=>h3 a b ((sc a b).1 h)⟩
end Go.Proofs.Ytokekkacliomkaa.AE
end
section
namespace Go.Proofs.Ytokekkacliomkaa.AE
open Go Go.AE Go.Proofs
variable {R C F:Nat} {A:Mat} {i j k:Int}
structure St where
 d:Mat
 l:Mat
 m:Mat
 r:Mat
 s:Mat
def St.good (R C:Nat) (t:St):Prop:=Bd R C t.d/\Bd R R t.l/\Bd R R t.m/\Bd C C t.r/\Bd C C t.s
def swS (t:St) (p q k:Int):St:=⟨swC (swR t.d p k) q k,swR t.l p k,swC t.m p k,swC t.r q k,swR t.s q k⟩
def ngS (t:St) (k:Int):St:=⟨ngR t.d k,ngR t.l k,ngC t.m k,t.r,t.s⟩
def ngRf (A:Mat) (k j0:Int):Mat:=λa b=>if a=k/\j0<=b then - A a b else A a b
def ngCf (A:Mat) (k i0:Int):Mat:=λa b=>if b=k/\i0<=a then - A a b else A a b
theorem Bd.upd_ng (h:Bd R C A) (hi0:0<=i) (hi:i<R) (hj0:0<=j) (hj:j<C):Bd R C (Go.AE.upd A i j (- A i j)):=by
 apply h.upd
 have:=ab_bd (h.ab hi0 hi hj0 hj)
 unfold AE.ab
 split <;> omega
theorem sw_in {i k a:Int} (hi0:0<=i) (hi:i<R) (hk0:0<=k) (hk:k<R) (ha0:0<=a) (ha:a<R):0<=sw i k a/\sw i k a<R:=by
 unfold sw;split
 ·omega
 ·split <;> omega
theorem Bd.swR (h:Bd R C A) (hi0:0<=i) (hi:i<R) (hk0:0<=k) (hk:k<R):Bd R C (swR A i k):=by
 intro a b h1 h2 h3 h4
 obtain ⟨g1,g2⟩:=sw_in hi0 hi hk0 hk h1 h2
 exact h _ _ g1 g2 h3 h4
theorem Bd.swC (h:Bd R C A) (hi0:0<=j) (hi:j<C) (hk0:0<=k) (hk:k<C):Bd R C (swC A j k):=by
 intro a b h1 h2 h3 h4
 obtain ⟨g1,g2⟩:=sw_in hi0 hi hk0 hk h3 h4
 exact h _ _ h1 h2 g1 g2
theorem Bd.ngR (h:Bd R C A):Bd R C (ngR A k):=by
 intro a b h1 h2 h3 h4
 have:=h a b h1 h2 h3 h4
 unfold AE.ngR;split <;> omega
theorem Bd.ngC (h:Bd R C A):Bd R C (ngC A k):=by
 intro a b h1 h2 h3 h4
 have:=h a b h1 h2 h3 h4
 unfold AE.ngC;split <;> omega
theorem aqu (hR:R<=1000) (hC:C<=1000) (hk0:0<=k) (hk:k<R) {c4 c7:Int} {l5 l8 l11 l14:List Int}:∀ (n g:Nat) (A:Mat) (j:Int),Bd R C A->C - j=n->n<g->0<=j ->
  dw.pl65513 F g C (mk R C A) c4 l5 c7 l8 l11 l14 k j=dw.pj5 F (mk R C (ngRf A k j)) c4 l5 c7 l8 l11 l14 k:=by
 intro n
 induction n with
 | zero=>
  intro g A j hb hn hg hj
  obtain ⟨g,rfl⟩:∃ g',g=g'+1:=⟨g - 1,by omega⟩
  rw [dw.pl65513,show decide (j<(C:Int))=false from decide_eq_false (by omega),cond_false]
  congr 1
  apply cY
  intro a b _ _ _ _
  exact (if_neg (by omega)).symm
 | succ n ih=>
  intro g A j hb hn hg hj
  obtain ⟨g,rfl⟩:∃ g',g=g'+1:=⟨g - 1,by omega⟩
  rw [dw.pl65513,show decide (j<(C:Int))=true from decide_eq_true (by omega),cond_true]
  have b1:=ab_bd (hb.ab hk0 hk hj (by omega))
  simp (disch:=omega) only [at_mk,eL,jF,Option.bind_some,ap,Int.zero_sub]
  rw [ih _ _ (j+1) (hb.upd_ng hk0 hk hj (by omega)) (by omega) (by omega) (by omega)]
  congr 1
  apply cY
  intro a b _ _ _ _
  unfold ngRf upd
  grind
theorem aqv (hR:R<=1000) (hk0:0<=k) (hk:k<R) {l2 l11 l14:List Int}:∀ (n g:Nat) (A B:Mat) (j:Int),Bd R R A->Bd R R B->R - j=n->n<g->0<=j ->
  dw.pl65515 F g l2 R (mk R R A) R (mk R R B) l11 l14 k j=some (true,l2,mk R R (ngRf A k j),mk R R (ngCf B k j),l11,l14):=by
 intro n
 induction n with
 | zero=>
  intro g A B j hb hb' hn hg hj
  obtain ⟨g,rfl⟩:∃ g',g=g'+1:=⟨g - 1,by omega⟩
  rw [dw.pl65515,show decide (j<(R:Int))=false from decide_eq_false (by omega),cond_false]
  rw [cY (A:=A) (B:=ngRf A k j) (λa b _ _ _ _=>(if_neg (by omega)).symm),cY (A:=B) (B:=ngCf B k j) (λa b _ _ _ _=>(if_neg (by omega)).symm)]
 | succ n ih=>
  intro g A B j hb hb' hn hg hj
  obtain ⟨g,rfl⟩:∃ g',g=g'+1:=⟨g - 1,by omega⟩
  rw [dw.pl65515,show decide (j<(R:Int))=true from decide_eq_true (by omega),cond_true]
  have b1:=ab_bd (hb.ab hk0 hk hj (by omega))
  have b2:=ab_bd (hb'.ab hj (by omega) hk0 hk)
  simp (disch:=omega) only [at_mk,eL,jF,Option.bind_some,ap,Int.zero_sub]
  rw [ih _ _ _ (j+1) (hb.upd_ng hk0 hk hj (by omega)) (hb'.upd_ng hj (by omega) hk0 hk) (by omega) (by omega) (by omega)]
  rw [cY (A:=ngRf (upd A k j (-A k j)) k (j+1)) (B:=ngRf A k j) (λa b _ _ _ _=>by unfold ngRf upd;grind),cY (A:=ngCf (upd B j k (-B j k)) k (j+1)) (B:=ngCf B k j) (λa b _ _ _ _=>by unfold ngCf upd;grind)]
theorem aqw (hR:R<=1000) (hk0:0<=k) (hk:k<R) {l2 l8 l11 l14:List Int}:∀ (n g:Nat) (B:Mat) (j:Int),Bd R R B->R - j=n->n<g->0<=j ->
  bG.pl32747 F g l2 R (mk R R B) l8 l11 l14 k R j=some (true,l2,mk R R (ngCf B k j),l8,l11,l14):=by
 intro n
 induction n with
 | zero=>
  intro g B j hb' hn hg hj
  obtain ⟨g,rfl⟩:∃ g',g=g'+1:=⟨g - 1,by omega⟩
  rw [bG.pl32747,show decide (j<(R:Int))=false from decide_eq_false (by omega),cond_false]
  rw [cY (A:=B) (B:=ngCf B k j) (λa b _ _ _ _=>(if_neg (by omega)).symm)]
 | succ n ih=>
  intro g B j hb' hn hg hj
  obtain ⟨g,rfl⟩:∃ g',g=g'+1:=⟨g - 1,by omega⟩
  rw [bG.pl32747,show decide (j<(R:Int))=true from decide_eq_true (by omega),cond_true]
  have b2:=ab_bd (hb'.ab hj (by omega) hk0 hk)
  simp (disch:=omega) only [at_mk,eL,fj,jF,Option.bind_some,ap,Int.zero_sub]
  rw [ih _ _ (j+1) (hb'.upd_ng hj (by omega) hk0 hk) (by omega) (by omega) (by omega)]
  rw [cY (A:=ngCf (upd B j k (-B j k)) k (j+1)) (B:=ngCf B k j) (λa b _ _ _ _=>by unfold ngCf upd;grind)]
theorem cuts_row (hR:R<=1000) (hC:C<=1000) (hk0:0<=k) (hk:k<R) (hC0:0<C):∃ x,mL (mk R C A) (IntKind.i64.wrap (k * C)) (IntKind.i64.wrap (IntKind.i64.wrap (k+1) * C))=some x/\x.length=C/\IntKind.i64.wrap (k * C)=k * C:=by
 obtain ⟨k,rfl⟩:=Int.eq_ofNat_of_zero_le hk0
 have h1:(k+1) * C<=R * C:=Nat.mul_le_mul_right _ (by omega)
 have h2:R * C<=1000 * 1000:=Nat.mul_le_mul hR hC
 have h3:(k+1) * C=k * C+C:=Nat.succ_mul _ _
 rw [ap (x:=(k:Int)+1) (by omega) (by omega),show (k:Int)+1=((k+1:Nat):Int) by omega,<-Int.natCast_mul,<-Int.natCast_mul,ap (by omega) (by omega),ap (by omega) (by omega)]
 unfold mL
 rw [if_pos (by rw [dG];omega)]
 refine ⟨_,rfl,?_,rfl⟩
 rw [List.length_drop,List.length_take,dG]
 omega
def pvS (t:St) (p q k:Int):St:=if (swS t p q k).d k k<0 then ngS (swS t p q k) k else swS t p q k
theorem pivot_both (hR:R<=1000) (hC:C<=1000) (hF:5000000<F) {t:St} (hg:t.good R C) (hk:0<=k) (hkR:k<R) (hkC:k<C) :
  ((∀ a b,k<=a->a<R->k<=b->b<C->t.d a b=0)/\dw.p F R C (mk R C t.d) R (mk R R t.l) R R (mk R R t.m) C C (mk C C t.r) C (mk C C t.s) k=some (false,mk R C t.d,mk R R t.l,mk R R t.m,mk C C t.r,mk C C t.s) /\
   bG.p F R (mk R R t.l) R R (mk R R t.m) R C (mk R C t.d) C C (mk C C t.r) C (mk C C t.s) k=some (false,mk R R t.l,mk R R t.m,mk R C t.d,mk C C t.r,mk C C t.s)) \/
  (∃ p q,SI k C t.d R k (some (p,q))/\∃ u,u=pvS t p q k/\u.good R C/\u.d k k=ab (t.d p q) /\
   dw.p F R C (mk R C t.d) R (mk R R t.l) R R (mk R R t.m) C C (mk C C t.r) C (mk C C t.s) k=some (true,mk R C u.d,mk R R u.l,mk R R u.m,mk C C u.r,mk C C u.s) /\
   bG.p F R (mk R R t.l) R R (mk R R t.m) R C (mk R C t.d) C C (mk C C t.r) C (mk C C t.s) k=some (true,mk R R u.l,mk R R u.m,mk R C u.d,mk C C u.r,mk C C u.s)):=by
 obtain ⟨g1,g2,g3,g4,g5⟩:=hg
 obtain ⟨s',hs,e1,e2⟩:=sel_out (F:=F) (c1:=R) (c2:=R) (c3:=R) (c4:=C) (c5:=C) (c6:=C) (l1:=mk R R t.l) (l2:=mk R R t.m) (l3:=mk C C t.r) (l4:=mk C C t.s) hR hC (by omega) g1 hk (by omega) (R - k).toNat F F none k (by omega) (by omega) (by omega) (by omega) (by intro a b h;unfold Sc at h;omega)
 unfold dw.p bG.p aN.p
 rw [show (-1:Int)=sP none from rfl]
 rw [show dw.pl29 F F R C (mk R C t.d) R (mk R R t.l) R R (mk R R t.m) C C (mk C C t.r) C (mk C C t.s) k (sP none) (sP none) k=_ from e1]
 rw [show aN.pl29 F F k 0 0 false R C (mk R C t.d) k=_ from e2,Option.bind_some]
 match s',hs with
 | none,hs=>
  left
  refine ⟨λa b h1 h2 h3 h4=>hs a b ⟨h1,h3,h4,.inl h2⟩,?_,rfl⟩
  unfold dw.pj6
  rfl
 | some (p,q),hs=>
  right
  refine ⟨p,q,hs,pvS t p q k,rfl,?_⟩
  obtain ⟨⟨h1,h2,h3,h4⟩,h5,h6⟩:=hs
  have hp:p<R:=by omega
  have q1:Bd R C (swC (swR t.d p k) q k):=(g1.swR (by omega) hp hk hkR).swC (by omega) (by omega) hk hkC
  have q2:=g2.swR (i:=p) (by omega) hp hk hkR
  have q3:=g3.swC (j:=p) (by omega) hp hk hkR
  have q4:=g4.swC (j:=q) (by omega) h3 hk hkC
  have q5:=g5.swR (i:=q) (by omega) h3 hk hkC
  have hpos:=ab_pos.2 h5
  have ekk:swC (swR t.d p k) q k k k=t.d p q:=by
   unfold swC swR sw
   grind
  have b1:=ab_bd (q1.ab hk hkR hk hkC)
  unfold dw.pj6
  simp only [sP,sQ,iP,iQ,Option.isSome_some,Bool.not_true,cond_false]
  simp only [eq_false (show ¬ p<0 by omega),decide_false,cond_false]
  rw [Ll hR hC (by omega) (by omega) hp hk hkR,Option.bind_some,Ll hR hR (by omega) (by omega) hp hk hkR,Option.bind_some,Vj hR hR (by omega) (by omega) hp hk hkR,Option.bind_some,Vj hR hC (by omega) (by omega) h3 hk hkC,Option.bind_some,Vj hC hC (by omega) (by omega) h3 hk hkC,Option.bind_some,Ll hC hC (by omega) (by omega) h3 hk hkC,Option.bind_some]
  rw [Vi hR hC (by omega) (by omega) hp hk hkR,Option.bind_some,Vi hR hR (by omega) (by omega) hp hk hkR,Option.bind_some,Vk hR hR (by omega) (by omega) hp hk hkR,Option.bind_some,Vk hR hC (by omega) (by omega) h3 hk hkC,Option.bind_some,Vk hC hC (by omega) (by omega) h3 hk hkC,Option.bind_some,Vi hC hC (by omega) (by omega) h3 hk hkC,Option.bind_some]
  simp (disch:=omega) only [at_mk,eL,fj,Option.bind_some]
  rw [ekk]
  by_cases hneg:t.d p q<0
  ·have epv:pvS t p q k=ngS (swS t p q k) k:=if_pos (by show swC (swR t.d p k) q k k k<0;rw [ekk];exact hneg)
   rw [epv]
   simp only [eq_true hneg,decide_true,cond_true]
   refine ⟨⟨q1.ngR,q2.ngR,q3.ngC,q4,q5⟩,?_,?_,?_⟩
   ·show ngR (swC (swR t.d p k) q k) k k k=_
    unfold ngR ab
    rw [if_pos rfl,ekk,if_pos hneg]
   ·rw [aqu hR hC hk hkR C F _ 0 q1 (by omega) (by omega) (by omega)]
    unfold dw.pj5
    rw [aqv hR hk hkR R F _ _ 0 q2 q3 (by omega) (by omega) (by omega)]
    rw [cY (A:=ngRf (swC (swR t.d p k) q k) k 0) (B:=(ngS (swS t p q k) k).d) (λa b _ _ _ _=>by unfold ngRf;show _=ngR _ _ _ _;unfold ngR swS;grind)]
    rw [cY (A:=ngRf (swR t.l p k) k 0) (B:=(ngS (swS t p q k) k).l) (λa b _ _ _ _=>by unfold ngRf;show _=ngR _ _ _ _;unfold ngR swS;grind)]
    rw [cY (A:=ngCf (swC t.m p k) k 0) (B:=(ngS (swS t p q k) k).m) (λa b _ _ _ _=>by unfold ngCf;show _=ngC _ _ _ _;unfold ngC swS;grind)]
    rfl
   ·obtain ⟨x,ex,exl,ew⟩:=cuts_row (A:=swC (swR t.d p k) q k) hR hC hk hkR (by omega)
    obtain ⟨y,ey,eyl,ew2⟩:=cuts_row (A:=swR t.l p k) hR hR hk hkR (by omega)
    have m1:R * C<=1000 * 1000:=Nat.mul_le_mul hR hC
    have m2:R * R<=1000 * 1000:=Nat.mul_le_mul hR hR
    rw [ex,Option.bind_some,ey,Option.bind_some,if_pos (by rw [dG,dG];omega),ew,ew2,exl,eyl,negr_mk hR hC hk hkR q1,negr_mk hR hR hk hkR q2]
    unfold bG.pj3
    rw [aqw hR hk hkR R F _ 0 q3 (by omega) (by omega) (by omega)]
    rw [cY (A:=ngCf (swC t.m p k) k 0) (B:=(ngS (swS t p q k) k).m) (λa b _ _ _ _=>by unfold ngCf;show _=ngC _ _ _ _;unfold ngC swS;grind)]
    rfl
  ·have epv:pvS t p q k=swS t p q k:=if_neg (by show ¬ swC (swR t.d p k) q k k k<0;rw [ekk];exact hneg)
   rw [epv]
   simp only [eq_false hneg,decide_false,cond_false]
   refine ⟨⟨q1,q2,q3,q4,q5⟩,?_,rfl,rfl⟩
   show swC (swR t.d p k) q k k k=_
   unfold ab
   rw [ekk,if_neg hneg]
end Go.Proofs.Ytokekkacliomkaa.AE
end
section
namespace Go.Proofs.Ytokekkacliomkaa.AE
open Go Go.AE Go.Proofs
variable {R C n:Nat} {A B:Mat} {u v:St} {k e:Int}
def On (R C:Nat) (A B:Mat):Prop:=∀ i j:Int,0<=i->i<R->0<=j->j<C->A i j=B i j
theorem On.refl:On R C A A:=λ_ _ _ _ _ _=>rfl
theorem On.symm (h:On R C A B):On R C B A:=λi j h1 h2 h3 h4=>(h i j h1 h2 h3 h4).symm
theorem On.trans {D:Mat} (h:On R C A B) (h':On R C B D):On R C A D:=λi j h1 h2 h3 h4=>(h i j h1 h2 h3 h4).trans (h' i j h1 h2 h3 h4)
theorem On.mm {A' B':Mat} (h:On R n A A') (h':On n C B B'):On R C (mm n A B) (mm n A' B'):=λi j h1 h2 h3 h4=>
 mm_congr (λl h5 h6=>h i l h1 h2 h5 h6) λl h5 h6=>h' l j h5 h6 h3 h4
theorem On.idl:On n C (AE.mm n idM A) A:=λ_ _ h1 h2 _ _=>mm_idl h1 h2
theorem On.idr:On R n (AE.mm n A idM) A:=λ_ _ _ _ h3 h4=>mm_idr h3 h4
structure Red (R C:Nat) (A:Mat) (v:St):Prop where
 d:On R C v.d (mm C (mm R v.l A) v.r)
 lm:On R R (mm R v.l v.m) idM
 ml:On R R (mm R v.m v.l) idM
 rs:On C C (mm C v.r v.s) idM
 sr:On C C (mm C v.s v.r) idM
theorem Red.row {E E':Mat} (h:Red R C A u) (h1:On R R (mm R E E') idM) (h2:On R R (mm R E' E) idM) (d:On R C v.d (mm R E u.d)) (l:On R R v.l (mm R E u.l)) (m:On R R v.m (mm R u.m E')) (r:v.r=u.r) (s:v.s=u.s):Red R C A v where
 d:=by
  rw [r]
  refine d.trans ((On.mm On.refl h.d).trans ?_)
  rw [<- mm_assoc,<-mm_assoc]
  exact On.mm (On.mm l.symm On.refl) On.refl
 lm:=by
  refine (On.mm l m).trans ?_
  rw [mm_assoc,<-mm_assoc (A:=u.l)]
  exact (On.mm On.refl ((On.mm h.lm On.refl).trans On.idl)).trans h1
 ml:=by
  refine (On.mm m l).trans ?_
  rw [mm_assoc,<-mm_assoc (A:=E')]
  exact (On.mm On.refl ((On.mm h2 On.refl).trans On.idl)).trans h.ml
 rs:=by rw [r,s];exact h.rs
 sr:=by rw [r,s];exact h.sr
theorem Red.col {E E':Mat} (h:Red R C A u) (h1:On C C (mm C E E') idM) (h2:On C C (mm C E' E) idM) (d:On R C v.d (mm C u.d E)) (r:On C C v.r (mm C u.r E)) (s:On C C v.s (mm C E' u.s)) (l:v.l=u.l) (m:v.m=u.m):Red R C A v where
 d:=by
  rw [l]
  refine d.trans ((On.mm h.d On.refl).trans ?_)
  rw [mm_assoc]
  exact On.mm On.refl r.symm
 rs:=by
  refine (On.mm r s).trans ?_
  rw [mm_assoc,<-mm_assoc (A:=E)]
  exact (On.mm On.refl ((On.mm h1 On.refl).trans On.idl)).trans h.rs
 sr:=by
  refine (On.mm s r).trans ?_
  rw [mm_assoc,<-mm_assoc (A:=u.s)]
  exact (On.mm On.refl ((On.mm h.sr On.refl).trans On.idl)).trans h2
 lm:=by rw [l,m];exact h.lm
 ml:=by rw [l,m];exact h.ml
def Esw (p k:Int):Mat:=λi l=>if l=sw p k i then 1 else 0
theorem sw_sw (p k x:Int):sw p k (sw p k x)=x:=by unfold sw;grind
theorem Esw_l {p k:Int} (hp0:0<=p) (hp:p<R) (hk0:0<=k) (hk:k<R):On R C (swR A p k) (mm R (Esw p k) A):=λi j h1 h2 _ _=>by
 show A (sw p k i) j=Sg R λl=>(if l=sw p k i then 1 else 0) * A l j
 have:=sw_in hp0 hp hk0 hk h1 h2
 rw [Sg_congr (g:=λl=>if l=sw p k i then A l j else 0) λl _ _=>by by_cases e:l=sw p k i <;> simp [e],Sg_one this.1,if_pos this.2]
theorem Esw_r {p k:Int} (hp0:0<=p) (hp:p<C) (hk0:0<=k) (hk:k<C):On R C (swC A p k) (mm C A (Esw p k)):=λi j _ _ h1 h2=>by
 show A i (sw p k j)=Sg C λl=>A i l * (if j=sw p k l then 1 else 0)
 have:=sw_in hp0 hp hk0 hk h1 h2
 rw [Sg_congr (g:=λl=>if l=sw p k j then A i l else 0) λl _ _=>by
  by_cases e:l=sw p k j
  ·subst e;rw [sw_sw];simp
  ·rw [if_neg e,if_neg λq=>e (by rw [q,sw_sw]),Int.mul_zero],Sg_one this.1,if_pos this.2]
theorem Esw_e {p k:Int} (hp0:0<=p) (hp:p<R) (hk0:0<=k) (hk:k<R):On R R (mm R (Esw p k) (Esw p k)) idM:=(Esw_l hp0 hp hk0 hk).symm.trans λi j _ _ _ _=>by
 show (if j=sw p k (sw p k i) then (1:Int) else 0)=if i=j then 1 else 0
 rw [sw_sw];by_cases e:i=j <;> simp [e,eq_comm]
def Eng (k:Int):Mat:=λi l=>if l=i then (if i=k then -1 else 1) else 0
theorem Eng_l {k:Int}:On R C (ngR A k) (mm R (Eng k) A):=λi j h1 h2 _ _=>by
 show (if i=k then - A i j else A i j)=Sg R λl=>(if l=i then (if i=k then -1 else 1) else 0) * A l j
 rw [Sg_congr (g:=λl=>if l=i then (if i=k then -1 else 1) * A l j else 0) λl _ _=>by by_cases e:l=i <;> simp [e],Sg_one h1,if_pos h2]
 by_cases e:i=k <;> simp [e]
theorem Eng_r {k:Int}:On R C (ngC A k) (mm C A (Eng k)):=λi j _ _ h1 h2=>by
 show (if j=k then - A i j else A i j)=Sg C λl=>A i l * (if j=l then (if l=k then -1 else 1) else 0)
 rw [Sg_congr (g:=λl=>if l=j then A i l * (if l=k then -1 else 1) else 0) λl _ _=>by
  by_cases e:l=j
  ·subst e;simp
  ·rw [if_neg e,if_neg (Ne.symm e),Int.mul_zero],Sg_one h1,if_pos h2]
 by_cases e:j=k <;> simp [e]
theorem Eng_e {k:Int}:On R R (mm R (Eng k) (Eng k)) idM:=Eng_l.symm.trans λi j _ _ _ _=>by
 show (if i=k then - (if j=i then (if i=k then -1 else 1) else 0) else (if j=i then (if i=k then (-1:Int) else 1) else 0))=if i=j then 1 else 0
 by_cases e:i=k <;> by_cases e':j=i <;> simp [e,e',eq_comm] <;> omega
def Ead (t f q:Int):Mat:=λi l=>(if l=i then 1 else 0)+(if l=f then (if i=t then q else 0) else 0)
theorem Ead_l {t f q:Int} {i j:Int} (hf0:0<=f) (hf:f<R) (h1:0<=i) (h2:i<R):mm R (Ead t f q) A i j=A i j+if i=t then q * A f j else 0:=by
 show Sg R (λl=>((if l=i then 1 else 0)+(if l=f then (if i=t then q else 0) else 0)) * A l j)=_
 rw [Sg_congr (g:=λl=>(if l=i then A l j else 0)+(if l=f then (if i=t then q else 0) * A l j else 0)) λl _ _=>by
  rw [Int.add_mul]
  congr 1
  ·split <;> simp
  ·split <;> simp,Sg_add,Sg_one h1,if_pos h2,Sg_one hf0,if_pos hf]
 by_cases e:i=t <;> simp [e]
theorem Ead_r {t f q:Int} {i j:Int} (ht0:0<=t) (ht:t<C) (h1:0<=j) (h2:j<C):mm C A (Ead t f q) i j=A i j+if j=f then A i t * q else 0:=by
 show Sg C (λl=>A i l * ((if j=l then 1 else 0)+(if j=f then (if l=t then q else 0) else 0)))=_
 rw [Sg_congr (g:=λl=>(if l=j then A i l else 0)+(if l=t then (if j=f then A i l * q else 0) else 0)) λl _ _=>by
  rw [Int.mul_add]
  congr 1
  ·by_cases e:l=j
   ·subst e;simp
   ·rw [if_neg e,if_neg (Ne.symm e),Int.mul_zero]
  ·by_cases e:j=f
   ·rw [if_pos e,if_pos e]
    by_cases e':l=t <;> simp [e']
   ·rw [if_neg e,if_neg e,Int.mul_zero];split <;> rfl,Sg_add,Sg_one h1,if_pos h2,Sg_one ht0,if_pos ht]
theorem Ead_e {t f q:Int} (hf0:0<=f) (hf:f<R) (htf:t≠f):On R R (mm R (Ead t f q) (Ead t f (-q))) idM:=λi j h1 h2 _ _=>by
 rw [Ead_l hf0 hf h1 h2]
 show ((if j=i then 1 else 0)+(if j=f then (if i=t then -q else 0) else 0))+(if i=t then q * ((if j=f then 1 else 0)+(if j=f then (if f=t then -q else 0) else 0)) else 0)=if i=j then 1 else 0
 rw [if_neg (Ne.symm htf)]
 have e0:(if j=i then (1:Int) else 0)=if i=j then 1 else 0:=by by_cases e:i=j <;> simp [e,eq_comm]
 rw [e0]
 by_cases e:i=t
 ·rw [if_pos e,if_pos e]
  by_cases e2:j=f <;> simp [e2] <;> omega
 ·rw [if_neg e,if_neg e]
  by_cases e2:j=f <;> simp [e2]
def rowS (u:St) (t f b:Int):St:=⟨adR u.d t f b,adR u.l t f b,adC u.m f t (-b),u.r,u.s⟩
def colS (u:St) (t f b:Int):St:=⟨adC u.d t f b,u.l,u.m,adC u.r t f b,adR u.s f t (-b)⟩
inductive Rch (R C:Nat) (k:Int):St->St->Prop
 | refl (u:St):Rch R C k u u
 | piv (u:St) (p q x:Int) (hp:k<=p) (hpR:p<R) (hq:k<=q) (hqC:q<C) (hx:k<=x) (hxR:x<R) (hxC:x<C):Rch R C k u (pvS u p q x)
 | row (u:St) (t f b:Int) (ht:k<=t) (htR:t<R) (hf:k<=f) (hfR:f<R) (htf:t≠f) (n1:¬ nfR C u.d t f b) (n2:¬ nfR R u.l t f b) (n3:¬ nfC R u.m f t (-b)):Rch R C k u (rowS u t f b)
 | col (u:St) (t f b:Int) (ht:k<=t) (htC:t<C) (hf:k<=f) (hfC:f<C) (htf:t≠f) (n1:¬ nfC R u.d t f b) (n2:¬ nfC C u.r t f b) (n3:¬ nfR C u.s f t (-b)):Rch R C k u (colS u t f b)
 | trans {u v w:St} (h:Rch R C k u v) (h':Rch R C k v w):Rch R C k u w
theorem Rch.mono {k k':Int} (h:Rch R C k u v) (hk:k'<=k):Rch R C k' u v:=by
 induction h with
 | refl=>exact .refl _
 | trans _ _ ih ih'=>exact .trans ih ih'
 | piv u p q x a b c d e f g=>exact .piv u p q x (by omega) b (by omega) d (by omega) f g
 | row u t f b c d e g h n1 n2 n3=>exact .row u t f b (by omega) d (by omega) g h n1 n2 n3
 | col u t f b c d e g h n1 n2 n3=>exact .col u t f b (by omega) d (by omega) g h n1 n2 n3
theorem adR_on {t f b:Int} (n1:¬ nfR C A t f b):On R C (adR A t f b) (λi j=>A i j+if i=t then b * A f j else 0):=λi j _ _ h3 h4=>by
 show (if i=t then ad (A t j) (A f j) b else A i j)=A i j+if i=t then b * A f j else 0
 by_cases e:i=t
 ·subst e
  rw [if_pos rfl,if_pos rfl,ad_fit (Classical.byContradiction λhh=>n1 ⟨j,h3,h4,hh⟩),Int.mul_comm b]
 ·rw [if_neg e,if_neg e,Int.add_zero]
theorem adC_on {t f b:Int} (n1:¬ nfC R A t f b):On R C (adC A t f b) (λi j=>A i j+if j=t then A i f * b else 0):=λi j h1 h2 _ _=>by
 show (if j=t then ad (A i t) (A i f) b else A i j)=A i j+if j=t then A i f * b else 0
 by_cases e:j=t
 ·subst e
  rw [if_pos rfl,if_pos rfl,ad_fit (Classical.byContradiction λhh=>n1 ⟨i,h1,h2,hh⟩)]
 ·rw [if_neg e,if_neg e,Int.add_zero]
theorem neg_e {t f q:Int} (hf0:0<=f) (hf:f<R) (htf:t≠f):On R R (mm R (Ead t f (-q)) (Ead t f q)) idM:=by
 have:=Ead_e (q:=-q) hf0 hf htf
 rw [Int.neg_neg] at this;exact this
theorem Rch.red (hk:0<=k) (h:Rch R C k u v) (hu:Red R C A u):Red R C A v:=by
 induction h with
 | refl=>exact hu
 | trans _ _ ih ih'=>exact ih' (ih hu)
 | piv u p q x hp hpR hq hqC hx hxR hxC=>
  have h1:Red R C A ⟨swR u.d p x,swR u.l p x,swC u.m p x,u.r,u.s⟩:=hu.row (Esw_e (by omega) hpR (by omega) hxR) (Esw_e (by omega) hpR (by omega) hxR) (Esw_l (by omega) hpR (by omega) hxR) (Esw_l (by omega) hpR (by omega) hxR) (Esw_r (by omega) hpR (by omega) hxR) rfl rfl
  have h2:Red R C A (swS u p q x):=h1.col (Esw_e (by omega) hqC (by omega) hxC) (Esw_e (by omega) hqC (by omega) hxC) (Esw_r (by omega) hqC (by omega) hxC) (Esw_r (by omega) hqC (by omega) hxC) (Esw_l (by omega) hqC (by omega) hxC) rfl rfl
  unfold pvS
  split
  ·exact h2.row Eng_e Eng_e Eng_l Eng_l Eng_r rfl rfl
  ·exact h2
 | row u t f b ht htR hf hfR htf n1 n2 n3=>
  refine hu.row (E:=Ead t f b) (E':=Ead t f (-b)) (Ead_e (by omega) hfR htf) (neg_e (by omega) hfR htf) ((adR_on n1).trans λi j h1 h2 _ _=>?_) ((adR_on n2).trans λi j h1 h2 _ _=>?_) ((adC_on n3).trans λi j _ _ h1 h2=>?_) rfl rfl
  ·rw [Ead_l (by omega) hfR h1 h2]
  ·rw [Ead_l (by omega) hfR h1 h2]
  ·rw [Ead_r (by omega) htR h1 h2]
 | col u t f b ht htC hf hfC htf n1 n2 n3=>
  refine hu.col (E:=Ead f t b) (E':=Ead f t (-b)) (Ead_e (by omega) htC (Ne.symm htf)) (neg_e (by omega) htC (Ne.symm htf)) ((adC_on n1).trans λi j _ _ h1 h2=>?_) ((adC_on n2).trans λi j _ _ h1 h2=>?_) ((adR_on n3).trans λi j h1 h2 _ _=>?_) rfl rfl
  ·rw [Ead_r (by omega) hfC h1 h2]
  ·rw [Ead_r (by omega) hfC h1 h2]
  ·rw [Ead_l (by omega) htC h1 h2]
def Zr (R C:Nat) (k:Int) (u:St):Prop:=∀ i j:Int,0<=i->i<R->0<=j->j<C->i≠j->(i<k\/j<k)->u.d i j=0
def Dv (R C:Nat) (k e:Int) (u:St):Prop:=∀ i j:Int,k<=i->i<R->k<=j->j<C->e∣u.d i j
theorem sw_lo {p k x a:Int} (hp:k<=p) (hx:k<=x) (ha:a<k):sw p x a=a:=by unfold sw;rw [if_neg (by omega),if_neg (by omega)]
theorem sw_hi {p k x a:Int} {N:Nat} (hp:k<=p) (hpN:p<N) (hx:k<=x) (hxN:x<N) (ha:k<=a) (haN:a<N):k<=sw p x a/\sw p x a<N:=by unfold sw;split <;> (try split) <;> omega
theorem ng_cases {x y i:Int}:(∃ s:Int,(s=1\/s=-1)/\ngR A x i y=s * A i y):=by
 unfold ngR
 split
 ·exact ⟨-1,.inr rfl,by omega⟩
 ·exact ⟨1,.inl rfl,by omega⟩
theorem pv_val {p q x i j:Int}:∃ s:Int,(s=1\/s=-1)/\(pvS u p q x).d i j=s * u.d (sw p x i) (sw q x j):=by
 unfold pvS
 split
 ·exact ng_cases (A:=(swS u p q x).d)
 ·exact ⟨1,.inl rfl,(Int.one_mul _).symm⟩
theorem Rch.zr (hk:0<=k) (h:Rch R C k u v) (hz:Zr R C k u):Zr R C k v:=by
 induction h with
 | refl=>exact hz
 | trans _ _ ih ih'=>exact ih' (ih hz)
 | piv u p q x hp hpR hq hqC hx hxR hxC=>
  intro i j h1 h2 h3 h4 h5 h6
  obtain ⟨s,_,e⟩:=pv_val (u:=u) (p:=p) (q:=q) (x:=x) (i:=i) (j:=j)
  rw [e]
  have a1:=sw_in (i:=p) (k:=x) (a:=i) (R:=R) (by omega) hpR (by omega) hxR h1 h2
  have a2:=sw_in (i:=q) (k:=x) (a:=j) (R:=C) (by omega) hqC (by omega) hxC h3 h4
  have:u.d (sw p x i) (sw q x j)=0:=by
   by_cases c:i<k
   ·have e1:=sw_lo (p:=p) hp hx c
    rw [e1]
    refine hz _ _ h1 h2 a2.1 a2.2 ?_ (.inl c)
    by_cases c':j<k
    ·rw [sw_lo hq hx c'];exact h5
    ·have:=sw_hi (N:=C) hq hqC hx hxC (a:=j) (by omega) h4;omega
   ·have e1:=sw_lo (p:=q) (a:=j) hq hx (by omega)
    rw [e1]
    refine hz _ _ a1.1 a1.2 h3 h4 ?_ (.inr (by omega))
    have:=sw_hi (N:=R) hp hpR hx hxR (a:=i) (by omega) h2;omega
  rw [this,Int.mul_zero]
 | row u t f b ht htR hf hfR htf n1 n2 n3=>
  intro i j h1 h2 h3 h4 h5 h6
  show adR u.d t f b i j=0
  rw [adR_on n1 i j h1 h2 h3 h4]
  simp only []
  rw [hz i j h1 h2 h3 h4 h5 h6]
  by_cases c:i=t
  ·rw [if_pos c,hz f j (by omega) hfR h3 h4 (by omega) (.inr (by omega)),Int.mul_zero];rfl
  ·rw [if_neg c];rfl
 | col u t f b ht htR hf hfR htf n1 n2 n3=>
  intro i j h1 h2 h3 h4 h5 h6
  show adC u.d t f b i j=0
  rw [adC_on n1 i j h1 h2 h3 h4]
  simp only []
  rw [hz i j h1 h2 h3 h4 h5 h6]
  by_cases c:j=t
  ·rw [if_pos c,hz i f h1 h2 (by omega) hfR (by omega) (.inl (by omega)),Int.zero_mul];rfl
  ·rw [if_neg c];rfl
theorem Rch.dv (hk:0<=k) (h:Rch R C k u v) (hz:Dv R C k e u):Dv R C k e v:=by
 induction h with
 | refl=>exact hz
 | trans _ _ ih ih'=>exact ih' (ih hz)
 | piv u p q x hp hpR hq hqC hx hxR hxC=>
  intro i j h1 h2 h3 h4
  obtain ⟨s,_,e⟩:=pv_val (u:=u) (p:=p) (q:=q) (x:=x) (i:=i) (j:=j)
  rw [e]
  have a1:=sw_hi (N:=R) hp hpR hx hxR h1 h2
  have a2:=sw_hi (N:=C) hq hqC hx hxC h3 h4
  exact Int.dvd_trans (hz _ _ a1.1 a1.2 a2.1 a2.2) (Int.dvd_mul_left _ _)
 | row u t f b ht htR hf hfR htf n1 n2 n3=>
  intro i j h1 h2 h3 h4
  show _∣adR u.d t f b i j
  rw [adR_on n1 i j (by omega) h2 (by omega) h4]
  refine Int.dvd_add (hz i j h1 h2 h3 h4) ?_
  split
  ·exact Int.dvd_trans (hz f j hf hfR h3 h4) (Int.dvd_mul_left _ _)
  ·exact ⟨0,(Int.mul_zero _).symm⟩
 | col u t f b ht htR hf hfR htf n1 n2 n3=>
  intro i j h1 h2 h3 h4
  show _∣adC u.d t f b i j
  rw [adC_on n1 i j (by omega) h2 (by omega) h4]
  refine Int.dvd_add (hz i j h1 h2 h3 h4) ?_
  split
  ·exact Int.dvd_trans (hz i f h1 h2 hf hfR) (Int.dvd_mul_right _ _)
  ·exact ⟨0,(Int.mul_zero _).symm⟩
theorem Rch.same (hk:0<=k) (h:Rch R C k u v):∀ a:Int,0<=a->a<k->v.d a a=u.d a a:=by
 induction h with
 | refl=>exact λ_ _ _=>rfl
 | trans _ _ ih ih'=>exact λa h1 h2=>(ih' a h1 h2).trans (ih a h1 h2)
 | piv u p q x hp hpR hq hqC hx hxR hxC=>
  intro a h1 h2
  have e:(swS u p q x).d a a=u.d a a:=by
   show u.d (sw p x a) (sw q x a)=_
   rw [sw_lo hp hx h2,sw_lo hq hx h2]
  unfold pvS
  split
  ·show ngR (swS u p q x).d x a a=_
   unfold ngR;rw [if_neg (by omega)];exact e
  ·exact e
 | row u t f b ht htR hf hfR htf n1 n2 n3=>intro a h1 h2;show (if a=t then _ else u.d a a)=_;rw [if_neg (by omega)]
 | col u t f b ht htR hf hfR htf n1 n2 n3=>intro a h1 h2;show (if a=t then _ else u.d a a)=_;rw [if_neg (by omega)]
structure Stg (R C:Nat) (k:Int) (u:St):Prop where
 z:Zr R C k u
 n:∀ a:Int,0<=a->a<k->a<R->a<C->0<=u.d a a
 c:∀ a b:Int,0<=a->a<=b->b<k->b<R->b<C->u.d a a∣u.d b b
 l:∀ a:Int,0<=a->a<k->a<R->a<C->Dv R C k (u.d a a) u
theorem Rch.stg (hk:0<=k) (h:Rch R C k u v) (hs:Stg R C k u):Stg R C k v where
 z:=h.zr hk hs.z
 n:=λa h1 h2 h3 h4=>by rw [h.same hk a h1 h2];exact hs.n a h1 h2 h3 h4
 c:=λa b h1 h2 h3 h4 h5=>by rw [h.same hk a h1 (by omega),h.same hk b (by omega) h3];exact hs.c a b h1 h2 h3 h4 h5
 l:=λa h1 h2 h3 h4=>by rw [h.same hk a h1 h2];exact h.dv hk (hs.l a h1 h2 h3 h4)
structure Clr (R C:Nat) (k:Int) (u:St):Prop where
 a:∀ a:Int,k<a->a<R->u.d a k=0
 b:∀ b:Int,k<b->b<C->u.d k b=0
 d:∀ a b:Int,k<a->a<R->k<b->b<C->u.d k k∣u.d a b
theorem Stg.next (hk:0<=k) (hkR:k<R) (hkC:k<C) (hs:Stg R C k u) (hc:Clr R C k u) (h0:0<=u.d k k):Stg R C (k+1) u where
 z:=λi j h1 h2 h3 h4 h5 h6=>by
  by_cases c1:i<k\/j<k
  ·exact hs.z i j h1 h2 h3 h4 h5 c1
  ·by_cases c2:i=k
   ·subst c2;exact hc.b j (by omega) h4
   ·obtain rfl:j=k:=by omega
    exact hc.a i (by omega) h2
 n:=λa h1 h2 h3 h4=>by
  by_cases e:a=k
  ·subst e;exact h0
  ·exact hs.n a h1 (by omega) h3 h4
 c:=λa b h1 h2 h3 h4 h5=>by
  by_cases e:b=k
  ·subst e
   by_cases e':a=b
   ·subst e';exact Int.dvd_refl _
   ·exact hs.l a h1 (by omega) (by omega) (by omega) b b (by omega) h4 (by omega) h5
  ·exact hs.c a b h1 h2 (by omega) h4 h5
 l:=λa h1 h2 h3 h4 i j h5 h6 h7 h8=>by
  by_cases e:a=k
  ·subst e;exact hc.d i j (by omega) h6 (by omega) h8
  ·exact hs.l a h1 (by omega) h3 h4 i j (by omega) h6 (by omega) h8
theorem Stg.dia (hk:0<=k) (hs:Stg R C k u) (h:(R:Int)<=k\/(C:Int)<=k\/∀ i j:Int,k<=i->i<R->k<=j->j<C->u.d i j=0):Dia R C u.d where
 o:=λi j h1 h2 h3 h4 h5=>by
  by_cases c:i<k\/j<k
  ·exact hs.z i j h1 h2 h3 h4 h5 c
  ·rcases h with h | h | h
   ·omega
   ·omega
   ·exact h i j (by omega) h2 (by omega) h4
 n:=λi h1 h2 h3=>by
  by_cases c:i<k
  ·exact hs.n i h1 c h2 h3
  ·rcases h with h | h | h
   ·omega
   ·omega
   ·rw [h i i (by omega) h2 (by omega) h3];exact Int.le_refl _
 c:=λi j h1 h2 h3 h4=>by
  by_cases c:j<k
  ·exact hs.c i j h1 h2 c h3 h4
  ·rcases h with h | h | h
   ·omega
   ·omega
   ·rw [h j j (by omega) h3 (by omega) h4];exact ⟨0,(Int.mul_zero _).symm⟩
theorem Stg.zero:Stg R C 0 u:=⟨λi j h1 h2 h3 h4 _ h6=>by omega,λa h1 h2=>by omega,λa b h1 h2 h3=>by omega,λa h1 h2=>by omega⟩
theorem Red.start:Red R C A ⟨A,idM,idM,idM,idM⟩ where
 d:=(On.idl.symm).trans On.idr.symm
 lm:=On.idl
 ml:=On.idl
 rs:=On.idl
 sr:=On.idl
end Go.Proofs.Ytokekkacliomkaa.AE
end
section
namespace Go.Proofs.Ytokekkacliomkaa.AE
open Go Go.AE Go.Proofs
variable {n:Nat} {A B:Mat}
def det (n:Nat) (A:Mat):Int:=dt n A n λ_=>true
structure ML (n:Nat) (f:Mat->Int):Prop where
 cg:∀ {A B:Mat},On n n A B->f A=f B
 lin:∀ (A:Mat) (t q:Int) (u v:Int->Int),0<=t->t<n->f (rset A t λj=>u j+q * v j)=f (rset A t u)+q * f (rset A t v)
 alt:∀ (A:Mat) (i k:Int),0<=i->i<k->k<n->(∀ j:Int,0<=j->j<n->A i j=A k j)->f A=0
theorem rset_self {A:Mat} {t:Int}:rset A t (A t)=A:=by
 funext i j;unfold rset;split
 ·rename_i h;rw [h]
 ·rfl
theorem rset_rset {A:Mat} {t:Int} {u v:Int->Int}:rset (rset A t u) t v=rset A t v:=by
 funext i j;unfold rset;split <;> rfl
theorem rset_comm {A:Mat} {s t:Int} {u v:Int->Int} (h:s≠t):rset (rset A s u) t v=rset (rset A t v) s u:=by
 funext i j;unfold rset
 by_cases e:i=t
 ·rw [if_pos e,if_neg (by omega),if_pos e]
 ·rw [if_neg e];split
  ·rfl
  ·simp [e]
section
variable {f:Mat->Int} (h:ML n f)
include h
theorem ML.add1 (A:Mat) (t:Int) (u v:Int->Int) (h0:0<=t) (h1:t<n):f (rset A t λj=>u j+v j)=f (rset A t u)+f (rset A t v):=by
 have:=h.lin A t 1 u v h0 h1
 rw [Int.one_mul] at this
 rw [<- this];congr 2;funext j;rw [Int.one_mul]
theorem ML.alt' (A:Mat) (i k:Int) (hi:0<=i/\i<n) (hk:0<=k/\k<n) (hne:i≠k) (e:∀ j:Int,0<=j->j<n->A i j=A k j):f A=0:=by
 by_cases c:i<k
 ·exact h.alt A i k hi.1 c hk.2 e
 ·exact h.alt A k i hk.1 (by omega) hi.2 λj a b=>(e j a b).symm
theorem ML.zero (A:Mat) (t:Int) (h0:0<=t) (h1:t<n):f (rset A t λ_=>0)=0:=by
 have:=h.lin A t (-1) (A t) (A t) h0 h1
 have e:(λj=>A t j+-1 * A t j)=λ_=>(0:Int):=by funext j;omega
 rw [e] at this
 omega
theorem ML.scale (A:Mat) (t q:Int) (u:Int->Int) (h0:0<=t) (h1:t<n):f (rset A t λj=>q * u j)=q * f (rset A t u):=by
 have:=h.lin A t q (λ_=>0) u h0 h1
 have e:(λj=>0+q * u j)=λj=>q * u j:=by funext j;omega
 rw [e,h.zero A t h0 h1] at this
 omega
theorem ML.addr (A:Mat) (t k q:Int) (ht:0<=t/\t<n) (hk:0<=k/\k<n) (hne:t≠k):f (rset A t λj=>A t j+q * A k j)=f A:=by
 rw [h.lin A t q (A t) (A k) ht.1 ht.2,rset_self,h.alt' (rset A t (A k)) t k ht hk hne λj _ _=>by unfold rset;rw [if_pos rfl,if_neg (Ne.symm hne)],Int.mul_zero,Int.add_zero]
theorem ML.swp (A:Mat) (i k:Int) (hi:0<=i/\i<n) (hk:0<=k/\k<n) (hne:i≠k):f (swR A i k)=- f A:=by
 have z:∀ u:Int->Int,f (rset (rset A i u) k u)=0:=λu=>h.alt' _ i k hi hk hne λj _ _=>by
  show (if i=k then u j else if i=i then u j else A i j)=if k=k then u j else _
  rw [if_neg hne,if_pos rfl,if_pos rfl]
 have e0:=z λj=>A i j+A k j
 rw [h.add1 _ k (A i) (A k) hk.1 hk.2,rset_comm hne,rset_comm hne,h.add1 _ i (A i) (A k) hi.1 hi.2,h.add1 _ i (A i) (A k) hi.1 hi.2] at e0
 have e1:f (rset (rset A k (A i)) i (A i))=0:=by rw [<- rset_comm hne];exact z _
 have e2:f (rset (rset A k (A k)) i (A k))=0:=by rw [<- rset_comm hne];exact z _
 have e3:rset (rset A k (A k)) i (A i)=A:=by rw [rset_self,rset_self]
 have e4:rset (rset A k (A i)) i (A k)=swR A i k:=by
  funext a b
  unfold rset swR sw
  by_cases q:a=i
  ·rw [if_pos q,if_pos q]
  ·rw [if_neg q,if_neg q]
   by_cases q2:a=k
   ·rw [if_pos q2,if_pos q2]
   ·rw [if_neg q2,if_neg q2]
 rw [e1,e2,e3,e4] at e0
 omega
theorem ML.neg (A:Mat) (k:Int) (hk:0<=k/\k<n):f (ngR A k)=- f A:=by
 have:=h.scale A k (-1) (A k) hk.1 hk.2
 rw [rset_self] at this
 have e:rset A k (λj=>-1 * A k j)=ngR A k:=by
  funext a b;unfold rset ngR
  by_cases q:a=k
  ·rw [if_pos q,if_pos q,q];show -1 * A k b=_;omega
  ·rw [if_neg q,if_neg q]
 rw [e] at this
 omega
end
theorem det_ml:ML n (det n) where
 cg:=λh=>dt_congr n _ λi j a b c d=>h i j a b c d
 lin:=λA t q u v h0 h1=>dt_lin h0 n _ h1
 alt:=by
  intro A i k h0 hik hkn hA
  obtain ⟨i,rfl⟩:=Int.eq_ofNat_of_zero_le h0
  obtain ⟨d,hd⟩:∃ d:Nat,k=(i:Int)+1+d:=⟨(k - i - 1).toNat,by omega⟩
  subst hd
  clear hik
  induction d generalizing A with
  | zero=>exact dt_adj n i _ (by omega) λj a b=>by rw [hA j a b];simp
  | succ d ih=>
   -- the row k and the one fi of it exchanged
   have adj:∀ (B:Mat) (t:Nat),t+1<n->(∀ j:Int,0<=j->j<n->B t j=B ((t:Int)+1) j)->det n B=0:=λB t ht hB=>dt_adj n t _ ht hB
   obtain ⟨t,ht⟩:∃ t:Nat,t=i+1+d:=⟨_,rfl⟩
   have hne:(t:Int)≠(t:Int)+1:=by omega
   have z:∀ u:Int->Int,det n (rset (rset A t u) ((t:Int)+1) u)=0:=λu=>adj _ t (by omega) λj _ _=>by
    show (if (t:Int)=(t:Int)+1 then u j else if (t:Int)=t then u j else A t j)=if (t:Int)+1=(t:Int)+1 then u j else _
    rw [if_neg hne,if_pos rfl,if_pos rfl]
   have l1:∀ (B:Mat) (s:Int) (u v:Int->Int),0<=s->s<n->det n (rset B s λj=>u j+v j)=det n (rset B s u)+det n (rset B s v):=λB s u v s0 s1=>by
    have:=dt_lin (n:=n) (A:=B) (q:=1) (u:=u) (v:=v) s0 n (λ_=>true) s1
    rw [Int.one_mul] at this
    unfold det
    rw [<- this];congr 2;funext j;rw [Int.one_mul]
   have e0:=z λj=>A t j+A ((t:Int)+1) j
   rw [l1 _ _ _ _ (by omega) (by omega),rset_comm hne,rset_comm hne,l1 _ _ _ _ (by omega) (by omega),l1 _ _ _ _ (by omega) (by omega)] at e0
   have e1:det n (rset (rset A ((t:Int)+1) (A t)) t (A t))=0:=by rw [<- rset_comm hne];exact z _
   have e2:det n (rset (rset A ((t:Int)+1) (A ((t:Int)+1))) t (A ((t:Int)+1)))=0:=by rw [<- rset_comm hne];exact z _
   have e3:rset (rset A ((t:Int)+1) (A ((t:Int)+1))) t (A t)=A:=by rw [rset_self,rset_self]
   have e4:det n (rset (rset A ((t:Int)+1) (A t)) t (A ((t:Int)+1)))=0:=by
    refine ih _ (by omega) λj a b=>?_
    show (if (i:Int)=t then _ else if (i:Int)=(t:Int)+1 then _ else A i j)=if (i:Int)+1+d=t then A ((t:Int)+1) j else _
    rw [if_neg (by omega),if_neg (by omega),if_pos (by omega),hA j a b]
    congr 1;omega
   rw [e1,e2,e3,e4] at e0
   omega
theorem tr_rset {A:Mat} {t:Int} {u:Int->Int}:tr (rset A t u)=cset (tr A) t u:=by funext i j;rfl
theorem tr_ml:ML n λA=>det n (tr A) where
 cg:=λh=>dt_congr n _ λi j a b c d=>h j i c d a b
 lin:=λA t q u v h0 h1=>by
  show det n _=det n _+q * det n _
  rw [tr_rset,tr_rset,tr_rset]
  exact dt_clin h0 h1 n _ rfl (cnt_all n)
 alt:=λA i k h0 hik hkn hA=>dt_calt h0 hik hkn n _ rfl rfl (cnt_all n) λj a b=>hA j a b
def Pi:Nat->(Int->Int)->Int
 | 0,_=>1
 | n+1,f=>Pi n f * f n
theorem dt_diag (hD:∀ i j:Int,0<=i->i<n->0<=j->j<n->i≠j->A i j=0):∀ r:Nat,r<=n->dt n A r (λx=>decide (x<r))=Pi r λi=>A i i
 | 0,_=>rfl
 | r+1,h=>by
  have e:dt n A (r+1) (λx=>decide (x<((r+1:Nat):Int)))=Sg n λc=>if c=(r:Int) then A r r * Pi r (λi=>A i i) else 0:=by
   refine Sg_congr λc c0 c1=>?_
   by_cases q:c=r
   ·subst q
    rw [if_pos rfl,if_pos (by simp;omega)]
    have e1:dt n A r (rm (λx=>decide (x<((r+1:Nat):Int))) r)=dt n A r (λx=>decide (x<r)):=dt_set r λx _ _=>by
     unfold rm
     by_cases q1:x<r
     ·simp [q1];omega
     ·simp [q1];omega
    have e2:sgn n (λx=>decide (x<((r+1:Nat):Int))) r=1:=by
     have:∀ m:Nat,sgn m (λx=>decide (x<((r+1:Nat):Int))) r=1:=λm=>by
      induction m with
      | zero=>rfl
      | succ m ih=>
       show sgn m _ _ * _=1
       rw [ih,if_neg (by simp;omega)];rfl
     exact this n
    rw [e1,e2,dt_diag hD r (by omega)];omega
   ·rw [if_neg q]
    split
    ·rw [hD r c (by omega) (by omega) c0 c1 (Ne.symm q),Int.zero_mul,Int.mul_zero]
    ·rfl
  have s:=Sg_one (f:=λ_=>A r r * Pi r (λi=>A i i)) (k:=(r:Int)) (by omega) (n:=n)
  rw [e,s,if_pos (by omega),Int.mul_comm];rfl
theorem det_diag (hD:∀ i j:Int,0<=i->i<n->0<=j->j<n->i≠j->A i j=0):det n A=Pi n λi=>A i i:=by
 rw [<- dt_diag hD n (Nat.le_refl _)]
 exact dt_set n λx _ hx=>(decide_eq_true hx).symm
def DetC (n:Nat) (A:Mat):Prop:=det n A=det n (tr A)
theorem DetC.tr (h:DetC n (tr A)):DetC n A:=h.symm
theorem diagC (hD:∀ i j:Int,0<=i->i<n->0<=j->j<n->i≠j->A i j=0):DetC n A:=det_ml.cg λi j a b c d=>by
 show A i j=A j i
 by_cases e:i=j
 ·rw [e]
 ·rw [hD i j a b c d e,hD j i c d a b (Ne.symm e)]
theorem DetC.swp (i k:Int) (hi:0<=i/\i<n) (hk:0<=k/\k<n) (hne:i≠k) (h:DetC n (swR A i k)):DetC n A:=by
 unfold DetC at *
 have a:=det_ml.swp A i k hi hk hne
 have b:=tr_ml.swp A i k hi hk hne
 have b:det n (AE.tr (swR A i k))=- det n (AE.tr A):=b
 omega
theorem DetC.rowc (t k p q:Int) (ht:0<=t/\t<n) (hk:0<=k/\k<n) (hne:t≠k) (hp:p≠0) (h:DetC n (rset A t λj=>p * A t j+q * A k j)):DetC n A:=by
 unfold DetC at *
 have key:∀ f:Mat->Int,ML n f->f (rset A t λj=>p * A t j+q * A k j)=p * f A:=λf hf=>by
  have e:=hf.addr (rset A t λj=>p * A t j) t k q ht hk hne
  have e1:rset (rset A t λj=>p * A t j) t (λj=>rset A t (λj=>p * A t j) t j+q * rset A t (λj=>p * A t j) k j)=rset A t λj=>p * A t j+q * A k j:=by
   rw [rset_rset]
   congr 1
   funext j
   unfold rset
   rw [if_pos rfl,if_neg (Ne.symm hne)]
  rw [e1,hf.scale A t p (A t) ht.1 ht.2,rset_self] at e
  exact e
 have a:=key _ det_ml
 have b:=key _ tr_ml
 have b:det n (AE.tr (rset A t λj=>p * A t j+q * A k j))=p * det n (AE.tr A):=b
 rw [a,b] at h
 exact Int.eq_of_mul_eq_mul_left hp h
theorem DetC.colc (t k p q:Int) (ht:0<=t/\t<n) (hk:0<=k/\k<n) (hne:t≠k) (hp:p≠0) (h:DetC n (cset A t λi=>p * A i t+q * A i k)):DetC n A:=by
 refine DetC.tr (DetC.rowc t k p q ht hk hne hp ?_)
 refine DetC.tr ?_
 exact h
theorem DetC.swpc (i k:Int) (hi:0<=i/\i<n) (hk:0<=k/\k<n) (hne:i≠k) (h:DetC n (swC A i k)):DetC n A:=
 DetC.tr (DetC.swp i k hi hk hne (DetC.tr h))
def ZrM (n:Nat) (k:Int) (A:Mat):Prop:=∀ i j:Int,0<=i->i<n->0<=j->j<n->i≠j->(i<k\/j<k)->A i j=0
def nzc (n:Nat) (k:Int) (A:Mat):Nat:=cnt n (λi=>decide (k<i)&&decide (A i k≠0))
theorem nzc_step {k t:Int} {A B:Mat} (h0:k<t) (k0:0<=k) (h1:t<n) (ht:A t k≠0) (hB:B t k=0) (hr:∀ i:Int,0<=i->i≠t->B i k=A i k):nzc n k B+1=nzc n k A:=by
 unfold nzc
 rw [<- cnt_rem (P:=λi=>decide (k<i)&&decide (A i k≠0)) (c:=t) (by omega) (by simp [h0,ht]) h1]
 congr 1
 refine cnt_out λi i0 i1=>?_
 by_cases e:i=t
 ·subst e;simp [hB]
 ·rw [hr i i0 e];simp [e]
theorem stageC {k:Int} (hk:0<=k/\k<n) (next:∀ B:Mat,ZrM n (k+1) B->DetC n B):∀ (c:Nat) (A:Mat),nzc n k A+nzc n k (tr A)=c->A k k≠0->ZrM n k A->DetC n A:=by
 intro c
 induction c with
 | zero=>
  intro A hc _ hz
  refine next A λi j a b c d e hlt=>?_
  have z1:∀ (B:Mat),nzc n k B=0->∀ i:Int,k<i->i<n->B i k=0:=λB hB i h1 h2=>by
   refine Classical.byContradiction λq=>?_
   exact cnt_zero (n:=n) (S:=λi=>decide (k<i)&&decide (B i k≠0)) (c:=i) (by omega) h2 (by simp [h1,q]) hB
  by_cases q:i<k\/j<k
  ·exact hz i j a b c d e q
  ·by_cases q2:i=k
   ·subst q2;exact z1 (tr A) (by omega) j (by omega) d
   ·obtain rfl:j=k:=by omega
    exact z1 A (by omega) i (by omega) b
 | succ c ih=>
  intro A hc hp hz
  by_cases h1:∃ t:Int,k<t/\t<n/\A t k≠0
  ·obtain ⟨t,t0,t1,t2⟩:=h1
   refine DetC.rowc t k (A k k) (- A t k) ⟨by omega,t1⟩ hk (by omega) hp ?_
   have hB:∀ i j:Int,i≠t->rset A t (λj=>A k k * A t j+- A t k * A k j) i j=A i j:=λi j e=>if_neg e
   have hBt:∀ j:Int,rset A t (λj=>A k k * A t j+- A t k * A k j) t j=A k k * A t j+- A t k * A k j:=λj=>if_pos rfl
   refine ih _ ?_ (by rw [hB k k (by omega)];exact hp) λi j a b c d e hlt=>?_
   ·have n1:=nzc_step (n:=n) (A:=A) (B:=rset A t (λj=>A k k * A t j+- A t k * A k j)) t0 hk.1 t1 t2 (by rw [hBt,Int.neg_mul,Int.mul_comm];omega) λi _ e=>hB i k e
    have n2:nzc n k (tr (rset A t (λj=>A k k * A t j+- A t k * A k j)))=nzc n k (tr A):=by
     unfold nzc
     refine cnt_out λi _ _=>?_
     show (decide (k<i)&&decide (rset A t (λj=>A k k * A t j+- A t k * A k j) k i≠0))=(decide (k<i)&&decide (A k i≠0))
     rw [hB k i (by omega)]
    omega
   ·by_cases q:i=t
    ·subst q
     rw [hBt,hz i j a b c d e hlt,hz k j hk.1 hk.2 c d (by omega) (.inr (by omega)),Int.mul_zero,Int.mul_zero];rfl
    ·rw [hB i j q];exact hz i j a b c d e hlt
  ·by_cases h2:∃ t:Int,k<t/\t<n/\A k t≠0
   ·obtain ⟨t,t0,t1,t2⟩:=h2
    refine DetC.colc t k (A k k) (- A k t) ⟨by omega,t1⟩ hk (by omega) hp ?_
    have hB:∀ i j:Int,j≠t->cset A t (λi=>A k k * A i t+- A k t * A i k) i j=A i j:=λi j e=>if_neg e
    have hBt:∀ i:Int,cset A t (λi=>A k k * A i t+- A k t * A i k) i t=A k k * A i t+- A k t * A i k:=λj=>if_pos rfl
    refine ih _ ?_ (by rw [hB k k (by omega)];exact hp) λi j a b c d e hlt=>?_
    ·have n1:=nzc_step (n:=n) (A:=tr A) (B:=tr (cset A t (λi=>A k k * A i t+- A k t * A i k))) t0 hk.1 t1 t2 (by show cset A t _ k t=0;rw [hBt,Int.neg_mul,Int.mul_comm];omega) λi _ e=>hB k i e
     have n2:nzc n k (cset A t (λi=>A k k * A i t+- A k t * A i k))=nzc n k A:=by
      unfold nzc
      refine cnt_out λi _ _=>?_
      rw [hB i k (by omega)]
     omega
    ·by_cases q:j=t
     ·subst q
      rw [hBt,hz i j a b c d e hlt,hz i k a b hk.1 hk.2 (by omega) (.inl (by omega)),Int.mul_zero,Int.mul_zero];rfl
     ·rw [hB i j q];exact hz i j a b c d e hlt
   ·exfalso
    have z1:nzc n k A=0:=by
     refine Nat.eq_zero_of_not_pos λq=>?_
     obtain ⟨j,j0,j1,j2⟩:=cnt_pos q
     simp at j2
     exact h1 ⟨j,j2.1,j1,j2.2⟩
    have z2:nzc n k (tr A)=0:=by
     refine Nat.eq_zero_of_not_pos λq=>?_
     obtain ⟨j,j0,j1,j2⟩:=cnt_pos q
     simp at j2
     exact h2 ⟨j,j2.1,j1,j2.2⟩
    omega
theorem allC:∀ (m k:Nat) (A:Mat),n - k=m->ZrM n k A->DetC n A:=by
 intro m
 induction m with
 | zero=>exact λk A hm hz=>diagC λi j a b c d e=>hz i j a b c d e (.inl (by omega))
 | succ m ih=>
  intro k A hm hz
  have hk:0<=(k:Int)/\(k:Int)<n:=⟨by omega,by omega⟩
  have next:∀ B:Mat,ZrM n ((k:Int)+1) B->DetC n B:=λB hB=>ih (k+1) B (by omega) (by rw [show ((k+1:Nat):Int)=(k:Int)+1 by omega];exact hB)
  by_cases h:∃ i j:Int,k<=i/\i<n/\k<=j/\j<n/\A i j≠0
  ·obtain ⟨i,j,i0,i1,j0,j1,hne⟩:=h
   have s1:∀ B:Mat,B i k≠0->ZrM n k B->DetC n B:=λB hB hz=>by
    by_cases e:i=k
    ·subst e;exact stageC hk next _ B rfl hB hz
    ·refine DetC.swp i k ⟨by omega,i1⟩ hk e ?_
     refine stageC hk next _ _ rfl (by show B (sw i k k) k≠0;unfold sw;rw [if_neg (Ne.symm e),if_pos rfl];exact hB) λa b a0 a1 b0 b1 hab hlt=>?_
     show B (sw i k a) b=0
     by_cases q:a<k
     ·rw [show sw i k a=a from by unfold sw;rw [if_neg (by omega),if_neg (by omega)]];exact hz a b a0 a1 b0 b1 hab (.inl q)
     ·have hs:(k:Int)<=sw i k a/\sw i k a<n:=by unfold sw;split <;> (try split) <;> omega
      exact hz _ b (by omega) hs.2 b0 b1 (by omega) (.inr (by omega))
   by_cases e:j=k
   ·subst e;exact s1 A hne hz
   ·refine DetC.swpc j k ⟨by omega,j1⟩ hk e ?_
    refine s1 _ (by show A i (sw j k k)≠0;unfold sw;rw [if_neg (Ne.symm e),if_pos rfl];exact hne) λa b a0 a1 b0 b1 hab hlt=>?_
    show A a (sw j k b)=0
    by_cases q:b<k
    ·rw [show sw j k b=b from by unfold sw;rw [if_neg (by omega),if_neg (by omega)]];exact hz a b a0 a1 b0 b1 hab (.inr q)
    ·have hs:(k:Int)<=sw j k b/\sw j k b<n:=by unfold sw;split <;> (try split) <;> omega
     exact hz a _ a0 a1 (by omega) hs.2 (by omega) (.inl (by omega))
  ·exact diagC λi j a b c d e=>by
    by_cases q:i<k\/j<k
    ·exact hz i j a b c d e q
    ·refine Classical.byContradiction λhn=>h ⟨i,j,by omega,b,by omega,d,hn⟩
theorem det_tr (A:Mat):det n (tr A)=det n A:=(allC n 0 A (by omega) λi j a b c d e h=>by omega).symm
theorem det_sw_r {i k:Int} (hi:0<=i/\i<n) (hk:0<=k/\k<n):det n (swR A i k)=det n A\/det n (swR A i k)=- det n A:=by
 by_cases e:i=k
 ·left
  have:swR A i k=A:=by funext a b;subst e;unfold swR sw;split <;> simp_all
  rw [this]
 ·exact .inr (det_ml.swp A i k hi hk e)
theorem det_sw_c {i k:Int} (hi:0<=i/\i<n) (hk:0<=k/\k<n):det n (swC A i k)=det n A\/det n (swC A i k)=- det n A:=by
 rw [<- det_tr (swC A i k),<-det_tr A]
 exact det_sw_r (A:=tr A) hi hk
theorem Rch.det {k:Int} {u v:St} (hk:0<=k) (h:Rch n n k u v):AE.det n v.d=AE.det n u.d\/AE.det n v.d=- AE.det n u.d:=by
 induction h with
 | refl=>exact .inl rfl
 | trans _ _ ih ih'=>omega
 | piv u p q x hp hpR hq hqC hx hxR hxC=>
  have h1:=det_sw_r (A:=u.d) (i:=p) (k:=x) (n:=n) ⟨by omega,hpR⟩ ⟨by omega,hxR⟩
  have h2:=det_sw_c (A:=swR u.d p x) (i:=q) (k:=x) (n:=n) ⟨by omega,hqC⟩ ⟨by omega,hxC⟩
  unfold pvS
  split
  ·have h3:=det_ml.neg (n:=n) (swC (swR u.d p x) q x) x ⟨by omega,hxR⟩
   show AE.det n (ngR (swC (swR u.d p x) q x) x)=_\/AE.det n (ngR (swC (swR u.d p x) q x) x)=_
   omega
  ·show AE.det n (swC (swR u.d p x) q x)=_\/AE.det n (swC (swR u.d p x) q x)=_
   omega
 | row u t f b ht htR hf hfR htf n1 n2 n3=>
  left
  show AE.det n (adR u.d t f b)=_
  rw [det_ml.cg (adR_on n1),<-det_ml.addr u.d t f b ⟨by omega,htR⟩ ⟨by omega,hfR⟩ htf]
  congr 1
  funext i j
  unfold rset
  by_cases e:i=t
  ·rw [if_pos e,if_pos e,e]
  ·rw [if_neg e,if_neg e,Int.add_zero]
 | col u t f b ht htC hf hfC htf n1 n2 n3=>
  left
  show AE.det n (adC u.d t f b)=_
  have e1:=(tr_ml (n:=n)).addr (tr u.d) t f b ⟨by omega,htC⟩ ⟨by omega,hfC⟩ htf
  rw [det_ml.cg (adC_on n1)]
  have e2:(λi j=>u.d i j+if j=t then u.d i f * b else 0)=tr (rset (tr u.d) t λj=>tr u.d t j+b * tr u.d f j):=by
   funext i j
   show _=if j=t then u.d i t+b * u.d i f else u.d i j
   by_cases e:j=t
   ·rw [if_pos e,if_pos e,e,Int.mul_comm b]
   ·rw [if_neg e,if_neg e,Int.add_zero]
  rw [e2];exact e1
end Go.Proofs.Ytokekkacliomkaa.AE
end
section
namespace Go.Proofs.Ytokekkacliomkaa.AE
open Go Go.AE Go.Proofs
variable {n k:Nat} {A B:Mat}
theorem sgn_top {S:Int->Bool} {c:Int}:∀ {n:Nat},(∀ x:Int,c<x->x<n->0<=x->S x=false)->sgn n S c=1
 | 0,_=>rfl
 | n+1,h=>by
  show sgn n S c * _=1
  rw [sgn_top (n:=n) λx a b d=>h x a (by omega) d]
  by_cases q:c<n
  ·rw [h n q (by omega) (by omega)];rfl
  ·rw [if_neg (by simp;omega)];rfl
theorem dt_shrink {S:Int->Bool} (h:S n=false):∀ r:Nat,dt (n+1) A r S=dt n A r S:=by
 intro r
 induction r generalizing S with
 | zero=>rfl
 | succ r ih=>
  show Sg n _+(if S n=true then _ else 0)=Sg n _
  rw [if_neg (by rw [h];simp),Int.add_zero]
  refine Sg_congr λc _ _=>?_
  rw [ih (S:=rm S c) (by unfold rm;rw [h];rfl)]
  have:sgn (n+1) S c=sgn n S c:=by
   show sgn n S c * _=_
   rw [h,if_neg (by simp),Int.mul_one]
  rw [this]
def bd (k:Nat) (i:Int) (a:Int):Int:=if a<k then a else i
def bm (B:Mat) (k:Nat) (i j:Int):Int:=det (k+1) λa b=>B (bd k i a) (bd k j b)
theorem bd_lo {i a:Int} (h:a<k):bd k i a=a:=if_pos h
theorem bd_hi {i a:Int} (h:(k:Int)<=a):bd k i a=i:=if_neg (by omega)
theorem bm_lo {i j:Int} (h0:0<=j) (h:j<k):bm B k i j=0:=by
 unfold bm
 rw [<- det_tr]
 refine det_ml.alt _ j k h0 h (by omega) λa _ _=>?_
 show B (bd k i a) (bd k j j)=B (bd k i a) (bd k j k)
 rw [bd_lo h,bd_hi (Int.le_refl _)]
theorem bm_kk:bm B k k k=det (k+1) B:=det_ml.cg λa b h1 h2 h3 h4=>by
 have e:∀ x:Int,x<((k+1:Nat):Int)->bd k (k:Int) x=x:=λx hx=>by unfold bd;split <;> omega
 show B (bd k k a) (bd k k b)=B a b
 rw [e a h2,e b h4]
theorem bm_lin {i:Int}:∃ β:Int->Int,∀ j:Int,bm B k i j=Sg k (λl=>β l * B l j)+det k B * B i j:=by
 refine ⟨λl=>sgn (k+1) (λ_=>true) l * dt (k+1) (tr λa b=>B (bd k i a) (bd k 0 b)) k (rm (λ_=>true) l),λj=>?_⟩
 unfold bm
 rw [<- det_tr]
 show Sg (k+1) (λc=>if true=true then sgn (k+1) (λ_=>true) c * (tr (λa b=>B (bd k i a) (bd k j b)) k c * dt (k+1) (tr λa b=>B (bd k i a) (bd k j b)) k (rm (λ_=>true) c)) else 0)=_
 have hc:∀ c:Int,dt (k+1) (tr λa b=>B (bd k i a) (bd k j b)) k (rm (λ_=>true) c)=dt (k+1) (tr λa b=>B (bd k i a) (bd k 0 b)) k (rm (λ_=>true) c):=λc=>dt_congr k _ λa b h0 h1 _ _=>by
  show B (bd k i b) (bd k j a)=B (bd k i b) (bd k 0 a)
  rw [bd_lo h1,bd_lo h1]
 show Sg k _+_=_
 congr 1
 ·refine Sg_congr λc c0 c1=>?_
  dsimp only
  rw [if_pos rfl,hc]
  show _ * (B (bd k i c) (bd k j k) * _)=_
  rw [bd_lo c1,bd_hi (Int.le_refl _),Int.mul_comm (B c j),Int.mul_assoc]
 ·dsimp only
  rw [if_pos rfl,hc,sgn_top λx h1 h2 _=>by omega,Int.one_mul,dt_shrink rm_self]
  show B (bd k i k) (bd k j k) * _=_
  rw [bd_hi (Int.le_refl _),bd_hi (Int.le_refl _),Int.mul_comm]
  congr 1
  have e:dt k (tr λa b=>B (bd k i a) (bd k 0 b)) k (rm (λ_=>true) k)=det k (tr λa b=>B (bd k i a) (bd k 0 b)):=dt_set k λx _ hx=>by rw [rm_ne (by omega)]
  rw [e,det_tr]
  exact det_ml.cg λa b _ h2 _ h4=>by rw [bd_lo h2,bd_lo h4]
theorem ML.comb {f:Mat->Int} (h:ML n f) (A:Mat) (t:Int) (u β:Int->Int) (ht:0<=t/\t<n):∀ k:Nat,(k:Int)<=t->f (rset A t λj=>Sg k (λl=>β l * A l j)+u j)=f (rset A t u)
 | 0,_=>by congr 2;funext j;show 0+u j=u j;omega
 | k+1,hk=>by
  have e:(λj=>Sg (k+1) (λl=>β l * A l j)+u j)=λj=>(Sg k (λl=>β l * A l j)+u j)+β k * A k j:=by
   funext j
   show Sg k _+β k * A k j+u j=_
   omega
  rw [e,h.lin A t (β k) _ (A k) ht.1 ht.2,ML.comb h A t u β ht k (by omega),h.alt' (rset A t (A k)) t k ht ⟨by omega,by omega⟩ (by omega) λj _ _=>by unfold rset;rw [if_pos rfl,if_neg (by omega)],Int.mul_zero,Int.add_zero]
theorem det_last2 {Z:Mat} (h0:∀ b:Int,0<=b->b<k->Z k b=0) (h1:∀ b:Int,0<=b->b<k->Z ((k:Int)+1) b=0):det (k+2) Z=det k Z * (Z ((k:Int)+1) ((k:Int)+1) * Z k k - Z ((k:Int)+1) k * Z k ((k:Int)+1)):=by
 show Sg k _+(if true=true then sgn (k+2) (λ_=>true) (k:Int) * (Z ((k+1:Nat):Int) k * dt (k+2) Z (k+1) (rm (λ_=>true) k)) else 0)+(if true=true then sgn (k+2) (λ_=>true) ((k+1:Nat):Int) * (Z ((k+1:Nat):Int) ((k+1:Nat):Int) * dt (k+2) Z (k+1) (rm (λ_=>true) ((k+1:Nat):Int))) else 0)=_
 have ec:((k+1:Nat):Int)=(k:Int)+1:=by omega
 have s0:Sg k (λc=>if true=true then sgn (k+2) (λ_=>true) c * (Z ((k+1:Nat):Int) c * dt (k+2) Z (k+1) (rm (λ_=>true) c)) else 0)=0:=Sg_zero λc c0 c1=>by
  rw [if_pos rfl,ec,h1 c c0 c1,Int.zero_mul,Int.mul_zero]
 have s1:sgn (k+2) (λ_=>true) ((k+1:Nat):Int)=1:=sgn_top λx a b _=>by omega
 have s2:sgn (k+2) (λ_=>true) (k:Int)=-1:=by
  show sgn (k+1) (λ_=>true) (k:Int) * (if true&&decide ((k:Int)<((k+1:Nat):Int)) then -1 else 1)=-1
  rw [sgn_top λx a b _=>by omega,if_pos (by simp;omega)];rfl
 -- the last row takes the last place
 have d1:dt (k+2) Z (k+1) (rm (λ_=>true) ((k+1:Nat):Int))=Z k k * det k Z:=by
  rw [dt_shrink (n:=k+1) rm_self]
  show Sg k _+(if rm (λ_=>true) ((k+1:Nat):Int) k=true then sgn (k+1) (rm (λ_=>true) ((k+1:Nat):Int)) k * (Z k k * dt (k+1) Z k (rm (rm (λ_=>true) ((k+1:Nat):Int)) k)) else 0)=_
  rw [Sg_zero λc c0 c1=>by
   split
   ·rw [h0 c c0 c1,Int.zero_mul,Int.mul_zero]
   ·rfl,Int.zero_add,if_pos (by rw [rm_ne (by omega)]),sgn_top λx a b _=>by omega,Int.one_mul,dt_shrink rm_self]
  congr 1
  exact dt_set k λx _ hx=>by rw [rm_ne (by omega),rm_ne (by omega)]
 -- the last row takes the place fi of it
 have d2:dt (k+2) Z (k+1) (rm (λ_=>true) k)=Z k ((k:Int)+1) * det k Z:=by
  show Sg k _+(if rm (λ_=>true) k k=true then _ else 0)+(if rm (λ_=>true) k ((k+1:Nat):Int)=true then sgn (k+2) (rm (λ_=>true) k) ((k+1:Nat):Int) * (Z k ((k+1:Nat):Int) * dt (k+2) Z k (rm (rm (λ_=>true) k) ((k+1:Nat):Int))) else 0)=_
  rw [Sg_zero λc c0 c1=>by
   split
   ·rw [h0 c c0 c1,Int.zero_mul,Int.mul_zero]
   ·rfl,Int.zero_add,rm_self,if_neg (by simp),Int.zero_add,if_pos (by rw [rm_ne (by omega)]),sgn_top λx a b _=>by omega,Int.one_mul,dt_shrink (n:=k+1) rm_self,rm_rm,dt_shrink rm_self,ec]
  congr 1
  exact dt_set k λx _ hx=>by rw [rm_ne (by omega),rm_ne (by omega)]
 rw [s0,s1,s2,d1,d2,if_pos rfl,if_pos rfl,ec]
 generalize det k Z=d
 generalize Z ((k:Int)+1) ((k:Int)+1)=x
 generalize Z ((k:Int)+1) k=y
 generalize Z k ((k:Int)+1)=z
 generalize Z k k=w
 rw [Int.mul_sub,Int.zero_add,Int.one_mul,<-Int.mul_assoc x,<-Int.mul_assoc y,Int.mul_comm d,Int.mul_comm d]
 omega
theorem sylv {i j:Int} (hi:(k:Int)<i) (hj:(k:Int)<j) (hd:det k B≠0):det k B * bm B (k+1) i j=bm B k i j * bm B k k k - bm B k i k * bm B k k j:=by
 obtain ⟨β,hβ⟩:=bm_lin (B:=B) (k:=k) (i:=(k:Int))
 obtain ⟨γ,hγ⟩:=bm_lin (B:=B) (k:=k) (i:=i)
 -- the matrix of the minor
 let Y:Mat:=λa b=>B (bd (k+1) i a) (bd (k+1) j b)
 have hY:bm B (k+1) i j=det (k+2) Y:=rfl
 have yl:∀ l b:Int,l<k->Y l b=B l (bd (k+1) j b):=λl b hl=>by show B (bd (k+1) i l) _=_;rw [bd_lo (by omega)]
 have y0:∀ b:Int,Y k b=B k (bd (k+1) j b):=λb=>by show B (bd (k+1) i k) _=_;rw [bd_lo (by omega)]
 have y1:∀ b:Int,Y ((k:Int)+1) b=B i (bd (k+1) j b):=λb=>by show B (bd (k+1) i ((k:Int)+1)) _=_;rw [bd_hi (by omega)]
 have r1:∀ b:Int,bm B k i (bd (k+1) j b)=Sg k (λl=>γ l * Y l b)+det k B * Y ((k:Int)+1) b:=λb=>by
  rw [hγ,y1];congr 1;exact Sg_congr λl _ hl=>by rw [yl l b hl]
 have r0:∀ b:Int,bm B k k (bd (k+1) j b)=Sg k (λl=>β l * Y l b)+det k B * Y k b:=λb=>by
  rw [hβ,y0];congr 1;exact Sg_congr λl _ hl=>by rw [yl l b hl]
 have m:=det_ml (n:=k+2)
 have e1:=m.comb Y ((k:Int)+1) (λb=>det k B * Y ((k:Int)+1) b) γ ⟨by omega,by omega⟩ k (by omega)
 rw [m.scale Y ((k:Int)+1) (det k B) (Y ((k:Int)+1)) (by omega) (by omega),rset_self] at e1
 obtain ⟨Y1,hY1⟩:∃ Y1,Y1=rset Y ((k:Int)+1) λb=>Sg k (λl=>γ l * Y l b)+det k B * Y ((k:Int)+1) b:=⟨_,rfl⟩
 rw [<- hY1] at e1
 have z1:∀ l b:Int,l≠(k:Int)+1->Y1 l b=Y l b:=λl b h=>by rw [hY1];exact if_neg h
 have e2:=m.comb Y1 k (λb=>det k B * Y1 k b) β ⟨by omega,by omega⟩ k (by omega)
 rw [m.scale Y1 k (det k B) (Y1 k) (by omega) (by omega),rset_self] at e2
 obtain ⟨Z,hZ⟩:∃ Z,Z=rset Y1 k λb=>Sg k (λl=>β l * Y1 l b)+det k B * Y1 k b:=⟨_,rfl⟩
 rw [<- hZ] at e2
 have zk:∀ b:Int,Z k b=bm B k k (bd (k+1) j b):=λb=>by
  rw [hZ,r0]
  show (if (k:Int)=k then _ else _)=_
  rw [if_pos rfl]
  show Sg k (λl=>β l * Y1 l b)+det k B * Y1 k b=_
  rw [z1 k b (by omega)]
  congr 1;exact Sg_congr λl _ hl=>by rw [z1 l b (by omega)]
 have zk1:∀ b:Int,Z ((k:Int)+1) b=bm B k i (bd (k+1) j b):=λb=>by
  rw [hZ,r1]
  show (if (k:Int)+1=k then _ else _)=_
  rw [if_neg (by omega),hY1]
  exact if_pos rfl
 have e3:=det_last2 (k:=k) (Z:=Z) (λb b0 b1=>by rw [zk,bd_lo (by omega)];exact bm_lo b0 b1) (λb b0 b1=>by rw [zk1,bd_lo (by omega)];exact bm_lo b0 b1)
 have e4:det k Z=det k B:=det_ml.cg λa b a0 a1 b0 b1=>by
  rw [hZ]
  show (if a=k then _ else Y1 a b)=_
  rw [if_neg (by omega),z1 a b (by omega),yl a b a1,bd_lo (by omega)]
 rw [zk,zk,zk1,zk1,bd_hi (by omega),bd_lo (by omega),e4,e2,e1,<-hY] at e3
 exact Int.eq_of_mul_eq_mul_left hd e3
theorem dt_few {X:Mat} (hX:∀ i j:Int,(k:Int)<=i->i<n->0<=j->j<=k->X i j=0):∀ (r:Nat) (S:Int->Bool),r<=n->(cnt n (λx=>S x&&decide ((k:Int)<x)):Int)<(r:Int) - k->dt n X r S=0
 | 0,S,_,h=>by omega
 | r+1,S,hr,h=>by
  refine Sg_zero λc c0 c1=>?_
  by_cases hc:S c=true
  ·rw [if_pos hc]
   by_cases q:c<=k
   ·rw [hX r c (by omega) (by omega) c0 q,Int.zero_mul,Int.mul_zero]
   ·have h1:=cnt_rem (n:=n) (P:=λx=>S x&&decide ((k:Int)<x)) (c:=c) c0 (by simp [hc];omega) c1
    rw [dt_few hX r (rm S c) (by omega) (by
     have:cnt n (λx=>rm S c x&&decide ((k:Int)<x))=cnt n (λj=>(S j&&decide ((k:Int)<j))&&decide (j≠c)):=cnt_out λx _ _=>by
      unfold rm;cases S x <;> simp [Bool.and_comm]
     omega),Int.mul_zero,Int.mul_zero]
  ·rw [if_neg hc]
theorem cnt_hi:∀ m:Nat,k<m->(cnt m (λx=>true&&decide ((k:Int)<x)):Int)=(m:Int) - k - 1
 | 0,h=>by omega
 | m+1,h=>by
  show ((cnt m (λx=>true&&decide ((k:Int)<x))+(if (true&&decide ((k:Int)<(m:Int)))=true then 1 else 0):Nat):Int)=_
  by_cases q:k<m
  ·rw [if_pos (by simp;omega)]
   have:=cnt_hi m q
   omega
  ·obtain rfl:k=m:=by omega
   rw [if_neg (by simp)]
   have:cnt k (λx=>true&&decide ((k:Int)<x))=0:=Nat.eq_zero_of_not_pos λq=>by
    obtain ⟨j,_,j1,j2⟩:=cnt_pos q
    simp at j2;omega
   omega
theorem ML.combs {f:Mat->Int} (h:ML n f) (A:Mat) (δ:Int) (hδ:δ≠0) (β:Int->Int->Int) (hk:k<=n):∀ (m:Nat),k+m<=n->f (λi j=>if (k:Int)<=i/\i<(k+m:Nat) then Sg k (λl=>β i l * A l j)+δ * A i j else A i j)=0->f A=0
 | 0,_,h0=>by
  have:(λi j=>if (k:Int)<=i/\i<((k+0:Nat):Int) then Sg k (λl=>β i l * A l j)+δ * A i j else A i j)=A:=by
   funext i j;rw [if_neg (by omega)]
  rw [this] at h0;exact h0
 | m+1,hm,h0=>by
  refine ML.combs h A δ hδ β hk m (by omega) ?_
  obtain ⟨D,hD⟩:∃ D:Mat,D=λi j=>if (k:Int)<=i/\i<(k+m:Nat) then Sg k (λl=>β i l * A l j)+δ * A i j else A i j:=⟨_,rfl⟩
  rw [<- hD]
  have lo:∀ l j:Int,l<k->D l j=A l j:=λl j hl=>by rw [hD];exact if_neg (by omega)
  have top:∀ j:Int,D ((k+m:Nat):Int) j=A ((k+m:Nat):Int) j:=λj=>by rw [hD];exact if_neg (by omega)
  have e1:=h.comb D ((k+m:Nat):Int) (λj=>δ * D ((k+m:Nat):Int) j) (β ((k+m:Nat):Int)) ⟨by omega,by omega⟩ k (by omega)
  rw [h.scale D ((k+m:Nat):Int) δ (D ((k+m:Nat):Int)) (by omega) (by omega),rset_self] at e1
  have e2:rset D ((k+m:Nat):Int) (λj=>Sg k (λl=>β ((k+m:Nat):Int) l * D l j)+δ * D ((k+m:Nat):Int) j)=λi j=>if (k:Int)<=i/\i<(k+(m+1):Nat) then Sg k (λl=>β i l * A l j)+δ * A i j else A i j:=by
   funext i j
   unfold rset
   by_cases e:i=((k+m:Nat):Int)
   ·subst e
    rw [if_pos rfl,if_pos (by omega)]
    show Sg k (λl=>β ((k+m:Nat):Int) l * D l j)+δ * D ((k+m:Nat):Int) j=_
    rw [top]
    congr 1;exact Sg_congr λl _ hl=>by rw [lo l j hl]
   ·rw [if_neg e,hD]
    show (if (k:Int)<=i/\i<((k+m:Nat):Int) then _ else _)=_
    by_cases q:(k:Int)<=i/\i<(k+m:Nat)
    ·rw [if_pos q,if_pos (by omega)]
    ·rw [if_neg q,if_neg (by omega)]
  rw [e2,h0] at e1
  exact (Int.mul_eq_zero.1 e1.symm).resolve_left hδ
theorem no_pivot (hk:k<n) (hd:det k B≠0) (h:∀ i:Int,(k:Int)<=i->i<n->bm B k i k=0):det n B=0:=by
 let β:Int->Int->Int:=λi=>(bm_lin (B:=B) (k:=k) (i:=i)).choose
 have hβ:∀ i j:Int,bm B k i j=Sg k (λl=>β i l * B l j)+det k B * B i j:=λi=>(bm_lin (B:=B) (k:=k) (i:=i)).choose_spec
 refine det_ml.combs (k:=k) B (det k B) hd β (by omega) (n - k) (by omega) ?_
 refine dt_few (k:=k) (λi j h1 h2 h3 h4=>?_) n _ (Nat.le_refl _) ?_
 ·show (if (k:Int)<=i/\i<(k+(n - k):Nat) then _ else _)=0
  rw [if_pos (by omega),<-hβ]
  by_cases e:j=k
  ·rw [e];exact h i h1 h2
  ·exact bm_lo h3 (by omega)
 ·have:=cnt_hi (k:=k) n hk
  omega
def ab0 (x:Int):Int:=if x<0 then -x else x
def rsum (n:Nat) (A:Mat) (i:Int):Int:=Sg n λj=>ab0 (A i j)
theorem ab0_nn (x:Int):0<=ab0 x:=by unfold ab0;split <;> omega
theorem ab0_mul (x y:Int):ab0 (x * y)=ab0 x * ab0 y:=by
 have e (z:Int):ab0 z=(z.natAbs:Int):=by unfold ab0;split <;> omega
 rw [e,e,e,Int.natAbs_mul,Int.natCast_mul]
theorem ab0_sum {f:Int->Int}:∀ n:Nat,ab0 (Sg n f)<=Sg n λi=>ab0 (f i)
 | 0=>by show ab0 0<=0;decide
 | n+1=>by
  show ab0 (Sg n f+f n)<=Sg n (λi=>ab0 (f i))+ab0 (f n)
  have:=ab0_sum (f:=f) n
  unfold ab0 at *
  split <;> split at this <;> split <;> omega
theorem dt_bound {A:Mat} {M:Int->Int}:∀ (r:Nat) (S:Int->Bool),(∀ i:Int,0<=i->i<r->rsum n A i<=M i/\0<=M i)->ab0 (dt n A r S)<=Pi r M
 | 0,_,_=>by show ab0 1<=1;decide
 | r+1,S,h=>by
  have ih:∀ c,ab0 (dt n A r (rm S c))<=Pi r M:=λc=>dt_bound r (rm S c) λi a b=>h i a (by omega)
  have p0:0<=Pi r M:=Int.le_trans (ab0_nn _) (ih 0)
  have h1:ab0 (dt n A (r+1) S)<=Sg n λc=>ab0 (A r c) * Pi r M:=by
   refine Int.le_trans (ab0_sum n) (Sg_le λc _ _=>?_)
   split
   ·have hs:ab0 (sgn n S c)=1:=by
     have:=sgn_sq (S:=S) (c:=c) n
     have e:ab0 (sgn n S c) * ab0 (sgn n S c)=1:=by rw [<- ab0_mul,this];rfl
     have:=ab0_nn (sgn n S c)
     rcases Int.lt_trichotomy (ab0 (sgn n S c)) 1 with q | q | q
     ·have:ab0 (sgn n S c)=0:=by omega
      rw [this] at e;cases e
     ·exact q
     ·exfalso
      have:ab0 (sgn n S c) * 1<ab0 (sgn n S c) * ab0 (sgn n S c):=Int.mul_lt_mul_of_pos_left q (by omega)
      omega
    rw [ab0_mul,ab0_mul,hs,Int.one_mul]
    exact Int.mul_le_mul_of_nonneg_left (ih c) (ab0_nn _)
   ·exact Int.mul_nonneg (ab0_nn _) p0
  rw [Sg_mulr] at h1
  refine Int.le_trans h1 ?_
  show rsum n A r * Pi r M<=Pi r M * M r
  rw [Int.mul_comm (Pi r M)]
  exact Int.mul_le_mul_of_nonneg_right (h r (by omega) (by omega)).1 p0
end Go.Proofs.Ytokekkacliomkaa.AE
end
section
namespace Go.Proofs.Ytokekkacliomkaa.AE
open Go Go.AE Go.Proofs
variable {n k:Nat} {A B:Mat} {f g:Int->Int}
def mx (n:Nat) (B:Mat) (i:Int):Int:=if rsum n B i<1 then 1 else rsum n B i
theorem mx_le (i:Int):rsum n B i<=mx n B i/\1<=mx n B i:=by unfold mx;split <;> omega
theorem Pi_congr:∀ {n:Nat},(∀ i:Int,0<=i->i<n->f i=g i)->Pi n f=Pi n g
 | 0,_=>rfl
 | n+1,h=>by
  show Pi n f * f n=Pi n g * g n
  rw [Pi_congr (n:=n) λi a b=>h i a (by omega),h n (by omega) (by omega)]
theorem Pi_pos (h:∀ i:Int,1<=f i):∀ n:Nat,1<=Pi n f
 | 0=>by show (1:Int)<=1;omega
 | n+1=>by
  show 1<=Pi n f * f n
  have h1:=Pi_pos h n
  have:Pi n f * 1<=Pi n f * f n:=Int.mul_le_mul_of_nonneg_left (h n) (by omega)
  omega
theorem Pi_pick (h:∀ i:Int,1<=f i) {i:Int} (hk:(k:Int)<=i):∀ {n:Nat},i<n->Pi k f * f i<=Pi n f
 | 0,hn=>by omega
 | n+1,hn=>by
  have up:∀ m:Nat,k<=m->Pi k f<=Pi m f:=λm hm=>by
   induction m with
   | zero=>
    obtain rfl:k=0:=by omega
    exact Int.le_refl _
   | succ m ih=>
    by_cases e:k=m+1
    ·rw [e];exact Int.le_refl _
    ·refine Int.le_trans (ih (by omega)) ?_
     show Pi m f<=Pi m f * f m
     have h1:=Pi_pos h m
     have:Pi m f * 1<=Pi m f * f m:=Int.mul_le_mul_of_nonneg_left (h m) (by omega)
     omega
  by_cases e:i=n
  ·subst e
   exact Int.mul_le_mul_of_nonneg_right (up n (by omega)) (by have:=h n;omega)
  ·refine Int.le_trans (Pi_pick h hk (n:=n) (by omega)) ?_
   show Pi n f<=Pi n f * f n
   have h1:=Pi_pos h n
   have:Pi n f * 1<=Pi n f * f n:=Int.mul_le_mul_of_nonneg_left (h n) (by omega)
   omega
theorem Pi_out {i:Int} (h0:0<=i):∀ {n:Nat},i<n->Pi n f=f i * Pi n λx=>if x=i then 1 else f x
 | 0,h=>by omega
 | n+1,h=>by
  show Pi n f * f n=f i * (Pi n (λx=>if x=i then 1 else f x) * (if (n:Int)=i then 1 else f n))
  by_cases e:i=n
  ·subst e
   rw [if_pos rfl,Int.mul_one,Int.mul_comm]
   congr 1
   exact Pi_congr λx _ hx=>(if_neg (by omega)).symm
  ·rw [if_neg (by omega),Pi_out h0 (n:=n) (by omega),Int.mul_assoc]
theorem sw_pp (p x:Int):sw p p x=x:=by unfold sw;split <;> simp_all
theorem Pi_sw {p q:Int} (hp:0<=p/\p<n) (hq:0<=q/\q<n):Pi n (λx=>f (sw p q x))=Pi n f:=by
 by_cases e:p=q
 ·subst e;congr 1;funext x;rw [sw_pp]
 ·rw [Pi_out (f:=f) hp.1 hp.2,Pi_out (f:=λx=>if x=p then 1 else f x) hq.1 hq.2,Pi_out (f:=λx=>f (sw p q x)) hp.1 hp.2,Pi_out (f:=λx=>if x=p then 1 else f (sw p q x)) hq.1 hq.2]
  have e1:sw p q p=q:=if_pos rfl
  have e2:sw p q q=p:=by unfold sw;rw [if_neg (by omega),if_pos rfl]
  rw [e1,e2,if_neg (Ne.symm e),if_neg (Ne.symm e),<-Int.mul_assoc,<-Int.mul_assoc,Int.mul_comm (f q)]
  congr 1
  congr 1
  funext x
  by_cases a:x=q
  ·rw [if_pos a,if_pos a]
  ·rw [if_neg a,if_neg a]
   by_cases b:x=p
   ·rw [if_pos b,if_pos b]
   ·rw [if_neg b,if_neg b]
    unfold sw
    rw [if_neg b,if_neg a]
theorem Sg_pick (h:∀ i:Int,0<=f i) {i:Int} (hk:(k:Int)<=i):∀ {n:Nat},i<n->Sg k f+f i<=Sg n f
 | 0,hn=>by omega
 | n+1,hn=>by
  have up:∀ m:Nat,k<=m->Sg k f<=Sg m f:=λm hm=>by
   induction m with
   | zero=>
    obtain rfl:k=0:=by omega
    exact Int.le_refl _
   | succ m ih=>
    by_cases e:k=m+1
    ·rw [e];exact Int.le_refl _
    ·have h1:=ih (by omega)
     have h2:=h m
     show Sg k f<=Sg m f+f m
     omega
  show Sg k f+f i<=Sg n f+f n
  by_cases e:i=n
  ·subst e
   have:=up n (by omega)
   omega
  ·have h1:=Sg_pick h hk (n:=n) (by omega)
   have h2:=h n
   omega
theorem bm_bound {i j:Int} (hi:(k:Int)<=i) (hi':i<n) (hj:(k:Int)<=j) (hj':j<n):ab0 (bm B k i j)<=Pi n (mx n B):=by
 show ab0 (dt (k+1) (λa b=>B (bd k i a) (bd k j b)) (k+1) λ_=>true)<=_
 refine Int.le_trans (dt_bound (n:=k+1) (A:=λa b=>B (bd k i a) (bd k j b)) (M:=λa=>mx n B (bd k i a)) (k+1) _ λa _ _=>⟨Int.le_trans ?_ (mx_le (bd k i a)).1,by have:=(mx_le (n:=n) (B:=B) (bd k i a)).2;omega⟩) ?_
 ·show Sg k (λb=>ab0 (B (bd k i a) (bd k j b)))+ab0 (B (bd k i a) (bd k j k))<=_
  rw [bd_hi (Int.le_refl _),Sg_congr (g:=λb=>ab0 (B (bd k i a) b)) λb _ hb=>by rw [bd_lo hb]]
  exact Sg_pick (f:=λb=>ab0 (B (bd k i a) b)) (λ_=>ab0_nn _) hj hj'
 ·show Pi k (λa=>mx n B (bd k i a)) * mx n B (bd k i k)<=_
  rw [bd_hi (Int.le_refl _),Pi_congr (g:=mx n B) λb _ hb=>by rw [bd_lo hb]]
  exact Pi_pick (λx=>(mx_le x).2) hi hi'
theorem det_bound:ab0 (det n B)<=Pi n (mx n B):=dt_bound n _ λi _ _=>⟨(mx_le i).1,by have:=(mx_le (n:=n) (B:=B) i).2;omega⟩
theorem det_one {X:Mat}:det 1 X=X 0 0:=by
 rw [det_diag λi j a b c d e=>by omega]
 show 1 * X _ _=_
 rw [Int.one_mul];rfl
theorem bm_zero {i j:Int}:bm B 0 i j=B i j:=by
 unfold bm
 rw [det_one,bd_hi (by decide),bd_hi (by decide)]
theorem bm_sw {p i j:Int} (hp:(k:Int)<=p) (hi:(k:Int)<=i):bm (swR B p k) k i j=bm B k (sw p k i) j:=det_ml.cg λa b _ _ _ _=>by
 show B (sw p k (bd k i a)) _=B (bd k (sw p k i) a) _
 by_cases h:a<k
 ·rw [bd_lo (i:=i) h,bd_lo (i:=sw p k i) h,sw_lo hp (Int.le_refl _) h]
 ·rw [bd_hi (i:=i) (a:=a) (by omega),bd_hi (i:=sw p k i) (a:=a) (by omega)]
theorem det_lo_sw {p:Int} (hp:(k:Int)<=p):det k (swR B p k)=det k B:=det_ml.cg λa b _ h _ _=>by
 show B (sw p k a) b=_
 rw [sw_lo hp (Int.le_refl _) h]
theorem vol_sw {p q:Int} (hp:0<=p/\p<n) (hq:0<=q/\q<n):Pi n (mx n (swR B p q))=Pi n (mx n B):=Pi_sw (f:=mx n B) hp hq
theorem mul_in {a b P:Int} (ha:-P<=a/\a<=P) (hb:-P<=b/\b<=P):-(P * P)<=a * b/\a * b<=P * P:=by
 have hP:0<=P:=by omega
 have h:(a * b).natAbs<=P.natAbs * P.natAbs:=by
  rw [Int.natAbs_mul];exact Nat.mul_le_mul (by omega) (by omega)
 have e:((P.natAbs * P.natAbs:Nat):Int)=P * P:=by rw [Int.natCast_mul,Int.natAbs_of_nonneg hP]
 omega
end Go.Proofs.Ytokekkacliomkaa.AE
end
section
namespace Go.Proofs.Ytokekkacliomkaa.AE
open Go Go.AE Go.Proofs
variable {n:Nat} {A:Mat}
def Ss:Nat->((Int->Bool)->Int)->Int
 | 0,f=>f λ_=>false
 | n+1,f=>Ss n f+Ss n λS=>f (ad1 S n)
abbrev Wi (n:Nat) (S:Int->Bool):Prop:=∀ x:Int,S x=true->0<=x/\x<n
theorem ad1_self {S:Int->Bool} {c:Int}:ad1 S c c=true:=by simp [ad1]
theorem ad1_ne {S:Int->Bool} {c x:Int} (h:x≠c):ad1 S c x=S x:=by simp [ad1,h]
theorem Ss_congr:∀ {n:Nat} {f g:(Int->Bool)->Int},(∀ S,Wi n S->f S=g S)->Ss n f=Ss n g
 | 0,_,_,h=>h _ λx hx=>by cases hx
 | n+1,f,g,h=>by
  show Ss n f+Ss n _=Ss n g+Ss n _
  rw [Ss_congr (n:=n) λS hS=>h S λx hx=>⟨(hS x hx).1,by have:=(hS x hx).2;omega⟩,Ss_congr (n:=n) (g:=λS=>g (ad1 S n)) λS hS=>h (ad1 S n) λx hx=>by
   by_cases e:x=n
   ·omega
   ·rw [ad1_ne e] at hx;have:=hS x hx;omega]
theorem Ss_add {f g:(Int->Bool)->Int}:∀ n:Nat,Ss n (λS=>f S+g S)=Ss n f+Ss n g
 | 0=>rfl
 | n+1=>by
  show Ss n _+Ss n (λS=>f (ad1 S n)+g (ad1 S n))=(Ss n f+Ss n _)+(Ss n g+Ss n _)
  rw [Ss_add n (f:=f) (g:=g),Ss_add n (f:=λS=>f (ad1 S n)) (g:=λS=>g (ad1 S n))]
  omega
theorem Ss_nul:∀ n:Nat,Ss n (λ_=>0)=0
 | 0=>rfl
 | n+1=>by show Ss n (λ_=>0)+Ss n (λ_=>0)=0;rw [Ss_nul n];rfl
theorem Ss_mul {c:Int} {f:(Int->Bool)->Int}:∀ n:Nat,Ss n (λS=>c * f S)=c * Ss n f
 | 0=>rfl
 | n+1=>by
  show Ss n _+Ss n (λS=>c * f (ad1 S n))=c * (Ss n f+Ss n _)
  rw [Ss_mul n (f:=f),Ss_mul n (f:=λS=>f (ad1 S n)),Int.mul_add]
theorem Ss_sg {f:(Int->Bool)->Int->Int}:∀ m:Nat,Ss n (λS=>Sg m (f S))=Sg m λi=>Ss n λS=>f S i
 | 0=>Ss_nul n
 | m+1=>by
  show Ss n (λS=>Sg m (f S)+f S m)=Sg m _+Ss n _
  rw [Ss_add,Ss_sg m]
theorem ad1_ad1 {S:Int->Bool} {c d:Int}:ad1 (ad1 S c) d=ad1 (ad1 S d) c:=by
 funext x;unfold ad1;cases S x <;> simp [Bool.or_comm]
theorem Ss_out {j:Int} (h0:0<=j):∀ {n:Nat} {f:(Int->Bool)->Int},j<n->Ss n f=Ss n λS=>if S j=true then 0 else f S+f (ad1 S j)
 | 0,_,h=>by omega
 | n+1,f,h=>by
  show Ss n f+Ss n (λS=>f (ad1 S n))=Ss n (λS=>if S j=true then 0 else f S+f (ad1 S j))+Ss n (λS=>if ad1 S n j=true then 0 else f (ad1 S n)+f (ad1 (ad1 S n) j))
  by_cases e:j=n
  ·subst e
   rw [<- Ss_add]
   have e2:Ss n (λS=>if ad1 S n n=true then 0 else f (ad1 S n)+f (ad1 (ad1 S n) n))=0:=by
    rw [Ss_congr (g:=λ_=>0) λS _=>if_pos ad1_self,Ss_nul]
   rw [e2,Int.add_zero]
   exact Ss_congr λS hS=>(if_neg λq=>by have:=hS _ q;omega).symm
  ·rw [Ss_out h0 (n:=n) (f:=f) (by omega),Ss_out h0 (n:=n) (f:=λS=>f (ad1 S n)) (by omega)]
   congr 1
   refine Ss_congr λS _=>?_
   rw [ad1_ne (show j≠(n:Int) by omega),ad1_ad1 (c:=j)]
theorem cnt_ad1 {S:Int->Bool} {c:Int} (h0:0<=c) (h1:c<n) (h:S c=false):cnt n (ad1 S c)=cnt n S+1:=by
 have:=rm_cnt (n:=n) (S:=ad1 S c) h0 h1 ad1_self
 have e:rm (ad1 S c) c=S:=by
  funext x
  by_cases q:x=c
  ·subst q;rw [rm_self,h]
  ·rw [rm_ne q,ad1_ne q]
 rw [e] at this;omega
def RS (A:Mat) (S:Int->Bool):Mat:=λa b=>if S a=true then A a b else if a=b then 1 else 0
def ek (n:Nat) (A:Mat) (k:Nat):Int:=Ss n λS=>if cnt n S=k then det n (RS A S) else 0
def Ek (n:Nat) (A:Mat) (k:Nat) (i j:Int):Int:=Ss n λS=>if S j=true/\cnt n S=k+1 then det n (rset (RS A S) j (A i)) else 0
theorem Sg_cnt {S:Int->Bool}:∀ n:Nat,Sg n (λi=>if S i=true then 1 else 0)=(cnt n S:Int)
 | 0=>rfl
 | n+1=>by
  show Sg n _+(if S n=true then 1 else 0)=((cnt n S+(if S n=true then 1 else 0):Nat):Int)
  rw [Sg_cnt n]
  split <;> omega
theorem Ek_tr (k:Nat):Sg n (λi=>Ek n A k i i)=((k:Int)+1) * ek n A (k+1):=by
 unfold Ek ek
 rw [<- Ss_sg n (f:=λS i=>if S i=true/\cnt n S=k+1 then det n (rset (RS A S) i (A i)) else 0),<-Ss_mul]
 refine Ss_congr λS _=>?_
 by_cases h:cnt n S=k+1
 ·rw [if_pos h,Sg_congr (g:=λi=>(if S i=true then 1 else 0) * det n (RS A S)) λi _ _=>?_,Sg_mulr,Sg_cnt,h]
  ·congr 1
  ·by_cases q:S i=true
   ·rw [if_pos ⟨q,h⟩,if_pos q,Int.one_mul]
    congr 1
    funext a b
    unfold rset RS
    by_cases e:a=i
    ·rw [if_pos e,e,if_pos q]
    ·rw [if_neg e]
   ·rw [if_neg (λh=>q h.1),if_neg q,Int.zero_mul]
 ·rw [if_neg h,Int.mul_zero]
  exact Sg_zero λi _ _=>if_neg λq=>h q.2
theorem ML.sum {f:Mat->Int} (h:ML n f) (A:Mat) {t:Int} (t0:0<=t) (t1:t<n) (u:Int->Int) (V:Int->Int->Int):∀ m:Nat,f (rset A t λj=>Sg m λs=>u s * V s j)=Sg m λs=>u s * f (rset A t (V s))
 | 0=>h.zero A t t0 t1
 | m+1=>by
  show f (rset A t λj=>Sg m (λs=>u s * V s j)+u m * V m j)=Sg m _+_
  rw [h.lin A t (u m) _ (V m) t0 t1,ML.sum h A t0 t1 u V m]
def fS (n:Nat) (A:Mat) (j:Int) (T:Int->Bool) (u:Int->Int):Int:=det n (rset (RS A T) j u)
theorem fS_ad {T:Int->Bool} {j:Int} {u:Int->Int}:fS n A j (ad1 T j) u=fS n A j T u:=by
 unfold fS;congr 1
 funext a b
 unfold rset RS
 by_cases e:a=j
 ·rw [if_pos e,if_pos e]
 ·rw [if_neg e,if_neg e,ad1_ne e]
def un (s:Int):Int->Int:=λb=>if s=b then 1 else 0
theorem fS_un {T:Int->Bool} {j s:Int} (j0:0<=j) (j1:j<n) (s0:0<=s) (s1:s<n) (hj:T j=false):fS n A j T (un s)=if s=j then det n (RS A T) else if T s=true then - fS n A j (rm T s) (A s) else 0:=by
 by_cases e:s=j
 ·subst e
  rw [if_pos rfl];unfold fS;congr 1
  funext a b
  unfold rset RS un
  by_cases q:a=s
  ·rw [if_pos q,q,if_neg (c:=T s=true) (by rw [hj];simp)]
  ·rw [if_neg q]
 ·rw [if_neg e]
  by_cases h:T s=true
  ·rw [if_pos h]
   unfold fS
   rw [<- det_ml.swp (rset (RS A (rm T s)) j (A s)) j s ⟨j0,j1⟩ ⟨s0,s1⟩ (Ne.symm e)]
   congr 1
   funext a b
   unfold swR sw rset RS un
   by_cases q:a=j
   ·subst q
    rw [if_pos rfl,if_pos rfl,if_neg e,if_neg (c:=rm T s s=true) (by rw [rm_self];simp)]
   ·rw [if_neg q,if_neg q]
    by_cases q2:a=s
    ·subst q2;rw [if_pos h,if_pos rfl,if_pos rfl]
    ·rw [if_neg q2,if_neg q,rm_ne q2]
  ·rw [if_neg h]
   refine det_ml.alt' _ j s ⟨j0,j1⟩ ⟨s0,s1⟩ (Ne.symm e) λb _ _=>?_
   unfold rset RS un
   rw [if_pos rfl,if_neg e,if_neg h]
theorem swap_sum {j s:Int} {k:Nat} (j0:0<=j) (j1:j<n) (s0:0<=s) (s1:s<n) (e:s≠j) :
  Ss n (λT=>if T j=false/\T s=true/\cnt n T=k then fS n A j (rm T s) (A s) else 0)=Ss n (λS=>if S j=true/\S s=false/\cnt n S=k then fS n A j S (A s) else 0):=by
 obtain ⟨F,hF⟩:∃ F:(Int->Bool)->Int,F=λT=>if T j=false/\T s=true/\cnt n T=k then fS n A j (rm T s) (A s) else 0:=⟨_,rfl⟩
 obtain ⟨G,hG⟩:∃ G:(Int->Bool)->Int,G=λS=>if S j=true/\S s=false/\cnt n S=k then fS n A j S (A s) else 0:=⟨_,rfl⟩
 rw [<- hF,<-hG,Ss_out s0 s1 (f:=F),Ss_out s0 s1 (f:=G),Ss_out j0 j1 (f:=λS=>if S s=true then 0 else F S+F (ad1 S s)),Ss_out j0 j1 (f:=λS=>if S s=true then 0 else G S+G (ad1 S s))]
 refine Ss_congr λU _=>?_
 cases h1:U j with
 | true=>simp
 | false=>
  rw [ad1_ne (c:=j) e]
  cases h2:U s with
  | true=>simp
  | false=>
   have er:rm (ad1 U s) s=U:=by
    funext x
    by_cases q:x=s
    ·subst q;rw [rm_self,h2]
    ·rw [rm_ne q,ad1_ne q]
   have js:j≠s:=Ne.symm e
   have a1:F U=0:=by rw [hF];simp [h2]
   have a2:F (ad1 U s)=if cnt n U+1=k then fS n A j U (A s) else 0:=by rw [hF];simp [ad1_ne js,h1,ad1_self,er,cnt_ad1 s0 s1 h2]
   have a3:F (ad1 U j)=0:=by rw [hF];simp [ad1_self]
   have a4:F (ad1 (ad1 U j) s)=0:=by rw [hF];simp [ad1_ne js,ad1_self]
   have b1:G U=0:=by rw [hG];simp [h1]
   have b2:G (ad1 U s)=0:=by rw [hG];simp [ad1_self]
   have b3:G (ad1 U j)=if cnt n U+1=k then fS n A j U (A s) else 0:=by rw [hG];simp [ad1_ne e,h2,ad1_self,cnt_ad1 j0 j1 h1,fS_ad]
   have b4:G (ad1 (ad1 U j) s)=0:=by rw [hG];simp [ad1_self]
   simp [a1,a2,a3,a4,b1,b2,b3,b4]
theorem Ek_out {i j:Int} (j0:0<=j) (j1:j<n) (k:Nat):Ek n A k i j=Ss n λT=>if T j=false/\cnt n T=k then fS n A j T (A i) else 0:=by
 obtain ⟨F,hF⟩:∃ F:(Int->Bool)->Int,F=λS=>if S j=true/\cnt n S=k+1 then det n (rset (RS A S) j (A i)) else 0:=⟨_,rfl⟩
 unfold Ek
 rw [<- hF,Ss_out j0 j1 (f:=F)]
 refine Ss_congr λU _=>?_
 cases h1:U j with
 | true=>simp
 | false=>
  have a1:F U=0:=by rw [hF];simp [h1]
  have a2:F (ad1 U j)=if cnt n U=k then fS n A j U (A i) else 0:=by
   rw [hF,<-fS_ad (T:=U)];simp [ad1_self,cnt_ad1 j0 j1 h1,fS]
  simp [a1,a2]
theorem Sg_split1 {u v:Int->Int} {j d:Int} (j0:0<=j) (j1:j<n):Sg n (λs=>u s * (if s=j then d else v s))=u j * d+Sg n λs=>u s * (if s=j then 0 else v s):=by
 have h:=Sg_one (f:=λs=>u s * d) j0 (n:=n)
 rw [if_pos j1] at h
 rw [<- h,<-Sg_add]
 refine Sg_congr λs _ _=>?_
 by_cases e:s=j
 ·rw [if_pos e,if_pos e,if_pos e];omega
 ·rw [if_neg e,if_neg e,if_neg e];omega
theorem fS_row {T:Int->Bool} {j:Int} {u:Int->Int} (j0:0<=j) (j1:j<n) (hj:T j=false) :
  fS n A j T u=u j * det n (RS A T)+Sg n λs=>u s * (if s=j then 0 else if T s=true then - fS n A j (rm T s) (A s) else 0):=by
 have h:=det_ml.sum (RS A T) j0 j1 u un n
 have e:det n (rset (RS A T) j λb=>Sg n λs=>u s * un s b)=fS n A j T u:=det_ml.cg λa b _ _ b0 b1=>by
  unfold rset
  by_cases q:a=j
  ·rw [if_pos q,if_pos q]
   have h2:=Sg_one (f:=u) b0 (n:=n)
   rw [if_pos b1] at h2
   rw [<- h2]
   refine Sg_congr λs _ _=>?_
   unfold un
   by_cases q:s=b
   ·rw [if_pos q,if_pos q,Int.mul_one]
   ·rw [if_neg q,if_neg q,Int.mul_zero]
  ·rw [if_neg q,if_neg q]
 rw [<- e,h,<-Sg_split1 j0 j1]
 refine Sg_congr λs s0 s1=>?_
 have h3:=fS_un (A:=A) (T:=T) j0 j1 s0 s1 hj
 unfold fS at h3 ⊢
 rw [h3]
theorem RS_none:det n (RS A λ_=>false)=1:=by
 rw [det_diag λi j _ _ _ _ e=>by show (if false=true then _ else if i=j then (1:Int) else 0)=0;simp [e]]
 have:∀ m:Nat,Pi m (λi=>RS A (λ_=>false) i i)=1:=λm=>by
  induction m with
  | zero=>rfl
  | succ m ih=>
   show Pi m _ * (if false=true then _ else if (m:Int)=m then (1:Int) else 0)=1
   rw [ih];simp
 exact this n
theorem Ss_empty:∀ {n:Nat} {f:(Int->Bool)->Int},(∀ S x,Wi n S->S x=true->f S=0)->Ss n f=f λ_=>false
 | 0,_,_=>rfl
 | n+1,f,h=>by
  show Ss n f+Ss n (λS=>f (ad1 S n))=_
  have up:∀ S,Wi n S->Wi (n+1) S:=λS hS x hx=>by have:=hS x hx;omega
  rw [Ss_empty (n:=n) λS x hS hx=>h S x (up S hS) hx,Ss_congr (n:=n) (g:=λ_=>0) λS hS=>h _ n (λx hx=>by
   by_cases e:x=n
   ·omega
   ·rw [ad1_ne e] at hx;exact up S hS x hx) ad1_self,Ss_nul,Int.add_zero]
theorem cnt_no:∀ n:Nat,cnt n (λ_=>false)=0
 | 0=>rfl
 | n+1=>by show cnt n (λ_=>false)+(if false=true then 1 else 0)=0;rw [cnt_no n];rfl
theorem ek_zero:ek n A 0=1:=by
 unfold ek
 rw [Ss_empty λS x hS hx=>if_neg λq=>cnt_zero (hS x hx).1 (hS x hx).2 hx q,if_pos (cnt_no n),RS_none]
theorem Ek_zero {i j:Int} (j0:0<=j) (j1:j<n):Ek n A 0 i j=A i j:=by
 rw [Ek_out j0 j1,Ss_empty λS x hS hx=>if_neg λq=>cnt_zero (hS x hx).1 (hS x hx).2 hx q.2,if_pos ⟨rfl,cnt_no n⟩,fS_row j0 j1 rfl,RS_none,Sg_zero λs _ _=>by simp]
 omega
theorem Ek_succ {i j:Int} (j0:0<=j) (j1:j<n) (k:Nat):Ek n A (k+1) i j=ek n A (k+1) * A i j - Sg n λs=>A i s * Ek n A k s j:=by
 obtain ⟨P,hP⟩:∃ P,P=Ss n λS=>if S j=false/\cnt n S=k+1 then det n (RS A S) else 0:=⟨_,rfl⟩
 obtain ⟨Q,hQ⟩:∃ Q,Q=Ss n λS=>if S j=true/\cnt n S=k+1 then det n (RS A S) else 0:=⟨_,rfl⟩
 obtain ⟨Y,hY⟩:∃ Y:Int->Int,Y=λs=>Ss n λS=>if S j=true/\S s=false/\cnt n S=k+1 then fS n A j S (A s) else 0:=⟨_,rfl⟩
 have e1:ek n A (k+1)=P+Q:=by
  rw [hP,hQ,<-Ss_add]
  refine Ss_congr λS _=>?_
  cases S j <;> simp
 have e2:Sg n (λs=>A i s * Ek n A k s j)=A i j * Q+Sg n λs=>A i s * (if s=j then 0 else Y s):=by
  rw [<- Sg_split1 j0 j1]
  refine Sg_congr λs s0 s1=>?_
  congr 1
  unfold Ek
  by_cases e:s=j
  ·subst e
   rw [if_pos rfl,hQ]
   refine Ss_congr λS _=>?_
   by_cases h:S s=true/\cnt n S=k+1
   ·rw [if_pos h,if_pos h];congr 1
    funext a b
    unfold rset RS
    by_cases q:a=s
    ·rw [if_pos q,q,if_pos h.1]
    ·rw [if_neg q]
   ·rw [if_neg h,if_neg h]
  ·rw [if_neg e,hY]
   refine Ss_congr λS _=>?_
   by_cases h:S j=true/\cnt n S=k+1
   ·rw [if_pos h]
    cases h2:S s with
    | false=>rw [if_pos ⟨h.1,rfl,h.2⟩];rfl
    | true=>
     rw [if_neg (by simp)]
     refine det_ml.alt' _ j s ⟨j0,j1⟩ ⟨s0,s1⟩ (Ne.symm e) λb _ _=>?_
     unfold rset RS
     rw [if_pos rfl,if_neg e,if_pos h2]
   ·rw [if_neg h,if_neg λq=>h ⟨q.1,q.2.2⟩]
 have e3:Ek n A (k+1) i j=A i j * P+Sg n λs=>A i s * (if s=j then 0 else - Y s):=by
  rw [Ek_out j0 j1,hP,<-Ss_mul]
  have h1:(Sg n λs=>A i s * (if s=j then 0 else - Y s))=Ss n λT=>Sg n λs=>A i s * (if s=j then 0 else if T j=false/\T s=true/\cnt n T=k+1 then - fS n A j (rm T s) (A s) else 0):=by
   rw [Ss_sg n (f:=λT s=>A i s * (if s=j then 0 else if T j=false/\T s=true/\cnt n T=k+1 then - fS n A j (rm T s) (A s) else 0))]
   refine Sg_congr λs s0 s1=>?_
   rw [Ss_mul]
   congr 1
   by_cases e:s=j
   ·simp only [if_pos e];exact (Ss_nul n).symm
   ·simp only [if_neg e]
    have h2:=swap_sum (A:=A) (k:=k+1) j0 j1 s0 s1 e
    rw [hY]
    dsimp only
    rw [<- h2]
    have h3:=Ss_mul (c:=-1) (f:=λT=>if T j=false/\T s=true/\cnt n T=k+1 then fS n A j (rm T s) (A s) else 0) n
    rw [Int.neg_mul,Int.one_mul] at h3
    rw [<- h3]
    refine Ss_congr λT _=>?_
    split <;> omega
  rw [h1,<-Ss_add]
  refine Ss_congr λT _=>?_
  by_cases h:T j=false/\cnt n T=k+1
  ·rw [if_pos h,if_pos h,fS_row j0 j1 h.1]
   congr 1
   refine Sg_congr λs _ _=>?_
   congr 1
   simp only [h.1,h.2,true_and,and_true]
  ·rw [if_neg h,if_neg h,Int.mul_zero,Int.zero_add]
   refine (Sg_zero λs _ _=>?_).symm
   rw [if_neg (c:=T j=false/\T s=true/\cnt n T=k+1) λq=>h ⟨q.1,q.2.2⟩]
   split <;> exact Int.mul_zero _
 have e4:(Sg n λs=>A i s * (if s=j then 0 else - Y s))=- Sg n λs=>A i s * (if s=j then 0 else Y s):=by
  have h3:=Sg_mul (c:=-1) (f:=λs=>A i s * (if s=j then 0 else Y s)) n
  rw [Int.neg_mul,Int.one_mul] at h3
  rw [<- h3]
  refine Sg_congr λs _ _=>?_
  split
  ·rw [Int.mul_zero,Int.mul_zero]
  ·rw [Int.mul_neg,Int.neg_mul,Int.one_mul]
 rw [e3,e4,e2,e1,Int.add_mul,Int.mul_comm P,Int.mul_comm Q]
 omega
end Go.Proofs.Ytokekkacliomkaa.AE
end
section
namespace Go.Proofs.Ytokekkacliomkaa.AE
open Go Go.AE Go.Proofs
variable {n m:Nat} {A:Mat}
theorem det_unit_last {Z:Mat} (h:∀ b:Int,0<=b->b<n->Z n b=0) (h1:Z n n=1):det (n+1) Z=det n Z:=by
 show Sg n _+(if true=true then sgn (n+1) (λ_=>true) (n:Int) * (Z n n * dt (n+1) Z n (rm (λ_=>true) n)) else 0)=_
 rw [Sg_zero λc c0 c1=>by
  dsimp only
  split
  ·rw [h c c0 c1,Int.zero_mul,Int.mul_zero]
  ·rfl,if_pos rfl,sgn_top λx a b _=>by omega,h1,dt_shrink rm_self,Int.one_mul,Int.one_mul,Int.zero_add]
 exact dt_set n λx _ hx=>by rw [rm_ne (by omega)]
theorem det_unit {Z:Mat} (hm:m<=n) (h:∀ a b:Int,(m:Int)<=a->a<n->0<=b->b<n->Z a b=if a=b then 1 else 0):∀ d:Nat,m+d<=n->det (m+d) Z=det m Z
 | 0,_=>rfl
 | d+1,hd=>by
  rw [show m+(d+1)=m+d+1 by omega,det_unit_last (λb b0 b1=>by rw [h _ b (by omega) (by omega) b0 (by omega),if_neg (by omega)]) (by rw [h _ _ (by omega) (by omega) (by omega) (by omega),if_pos rfl])]
  exact det_unit hm h d (by omega)
theorem sw_rng {p q x:Int} (hp:0<=p/\p<n) (hq:0<=q/\q<n) (hx:0<=x/\x<n):0<=sw p q x/\sw p q x<n:=by unfold sw;split <;> (try split) <;> omega
theorem det_conj {X:Mat} {p q:Int} (hp:0<=p/\p<n) (hq:0<=q/\q<n):det n (λa b=>X (sw p q a) (sw p q b))=det n X:=by
 show det n (swC (swR X p q) p q)=_
 rw [<- det_tr]
 show det n (swR (tr (swR X p q)) p q)=_
 by_cases e:p=q
 ·subst e
  have:swR (tr (swR X p p)) p p=tr X:=by
   funext a b;show X (sw p p b) (sw p p a)=X b a;rw [sw_pp,sw_pp]
  rw [this,det_tr]
 ·rw [det_ml.swp _ p q hp hq e,det_tr,det_ml.swp X p q hp hq e,Int.neg_neg]
structure Lst (n m:Nat) (S:Int->Bool) (l:Int->Int):Prop where
 rng:∀ a:Int,0<=a->a<m->0<=l a/\l a<n/\S (l a)=true
 inc:∀ a b:Int,0<=a->a<b->b<m->l a<l b
 all:∀ x:Int,0<=x->x<n->S x=true->∃ a:Int,0<=a/\a<m/\l a=x
theorem Lst.ge {S:Int->Bool} {l:Int->Int} (h:Lst n m S l):∀ a:Nat,a<m->(a:Int)<=l a
 | 0,ha=>(h.rng 0 (by omega) (by omega)).1
 | a+1,ha=>by
  have h1:=h.ge a (by omega)
  have h2:=h.inc a ((a+1:Nat):Int) (by omega) (by omega) (by omega)
  omega
theorem det_perm {X:Mat} {S:Int->Bool} {l:Int->Int} (h:Lst n m S l):∀ k:Nat,k<=m->∃ p:Int->Int,det n (λa b=>X (p a) (p b))=det n X /\
  (∀ a:Int,0<=a->a<n->0<=p a/\p a<n)/\(∀ a b:Int,0<=a->a<n->0<=b->b<n->p a=p b->a=b)/\(∀ a:Int,0<=a->a<k->p a=l a)/\∀ a:Int,(k:Int)<=a->a<m->p (l a)=l a
 | 0,_=>⟨λx=>x,rfl,λa h0 h1=>⟨h0,h1⟩,λa b _ _ _ _ e=>e,λa h0 h1=>by omega,λa _ _=>rfl⟩
 | k+1,hk=>by
  obtain ⟨p,p1,p2,p3,p4,p5⟩:=det_perm (X:=X) h k (by omega)
  have hl:=h.rng k (by omega) (by omega)
  have hg:=h.ge k (by omega)
  have r1:0<=(k:Int)/\(k:Int)<n:=⟨by omega,by omega⟩
  have r2:0<=l k/\l k<n:=⟨hl.1,hl.2.1⟩
  refine ⟨λx=>p (sw k (l k) x),?_,λa h0 h1=>?_,λa b a0 a1 b0 b1 e=>?_,λa h0 h1=>?_,λa h0 h1=>?_⟩
  ·rw [<- p1]
   exact det_conj (X:=λa b=>X (p a) (p b)) r1 r2
  ·have:=sw_rng r1 r2 ⟨h0,h1⟩
   exact p2 _ this.1 this.2
  ·have ha:=sw_rng r1 r2 ⟨a0,a1⟩
   have hb:=sw_rng r1 r2 ⟨b0,b1⟩
   have e1:=p3 _ _ ha.1 ha.2 hb.1 hb.2 e
   have e2:sw k (l k) (sw k (l k) a)=sw k (l k) (sw k (l k) b):=by rw [e1]
   rw [sw_sw,sw_sw] at e2;exact e2
  ·dsimp only
   by_cases e:a=k
   ·subst e
    rw [show sw k (l k) k=l k from if_pos rfl]
    exact p5 k (by omega) (by omega)
   ·rw [show sw k (l k) a=a by unfold sw;rw [if_neg e,if_neg (by omega)]]
    exact p4 a h0 (by omega)
  ·dsimp only
   have h2:=h.inc k a (by omega) (by omega) h1
   rw [show sw k (l k) (l a)=l a by unfold sw;rw [if_neg (by omega),if_neg (by omega)]]
   exact p5 a (by omega) h1
theorem det_sub {S:Int->Bool} {l:Int->Int} (h:Lst n m S l):det n (RS A S)=det m λa b=>A (l a) (l b):=by
 obtain ⟨p,p1,p2,p3,p4,p5⟩:=det_perm (X:=RS A S) h m (Nat.le_refl m)
 have hm:m<=n:=by
  rcases Nat.eq_zero_or_pos m with q | q
  ·omega
  ·have h1:=h.ge (m - 1) (by omega)
   have h2:=(h.rng ((m - 1:Nat):Int) (by omega) (by omega)).2.1
   omega
 have h1:∀ a b:Int,(m:Int)<=a->a<n->0<=b->b<n->RS A S (p a) (p b)=if a=b then 1 else 0:=λa b a0 a1 b0 b1=>by
  have ha:=p2 a (by omega) a1
  unfold RS
  rw [if_neg λq=>by
   obtain ⟨c,c0,c1,c2⟩:=h.all (p a) ha.1 ha.2 q
   rw [<- p4 c c0 c1] at c2
   have:=p3 _ _ c0 (by omega) (by omega) a1 c2
   omega]
  by_cases e:a=b
  ·rw [e,if_pos rfl,if_pos rfl]
  ·rw [if_neg e,if_neg λq=>e (p3 a b (by omega) a1 b0 b1 q)]
 have h2:=det_unit (Z:=λa b=>RS A S (p a) (p b)) hm h1 (n - m) (by omega)
 rw [show m+(n - m)=n by omega] at h2
 rw [<- p1,h2]
 exact det_ml.cg λa b a0 a1 b0 b1=>by
  rw [p4 a a0 a1,p4 b b0 b1]
  exact if_pos (h.rng a a0 a1).2.2
def bs (w:Nat):Int->Bool:=λi=>decide (0<=i)&&w.testBit i.toNat
def Sn:Nat->(Nat->Int)->Int
 | 0,_=>0
 | n+1,f=>Sn n f+f n
theorem Sn_add (f:Nat->Int) (a:Nat):∀ b:Nat,Sn (a+b) f=Sn a f+Sn b λx=>f (a+x)
 | 0=>(Int.add_zero _).symm
 | b+1=>by
  show Sn (a+b) f+f (a+b)=Sn a f+(Sn b (λx=>f (a+x))+f (a+b))
  rw [Sn_add f a b];omega
theorem Sn_congr {f g:Nat->Int}:∀ {n:Nat},(∀ i,i<n->f i=g i)->Sn n f=Sn n g
 | 0,_=>rfl
 | n+1,h=>by
  show Sn n f+f n=Sn n g+g n
  rw [Sn_congr (n:=n) λi hi=>h i (by omega),h n (by omega)]
theorem bs_ad {n w:Nat} (h:w<2 ^ n):bs (2 ^ n+w)=ad1 (bs w) n:=by
 funext i
 show (decide (0<=i)&&(2 ^ n+w).testBit i.toNat)=((decide (0<=i)&&w.testBit i.toNat) || decide (i=(n:Int)))
 by_cases h0:0<=i
 ·rw [decide_eq_true h0,Bool.true_and,Bool.true_and]
  obtain ⟨a,rfl⟩:=Int.eq_ofNat_of_zero_le h0
  rw [Int.toNat_natCast]
  rcases Nat.lt_trichotomy a n with q | q | q
  ·rw [Nat.testBit_two_pow_add_gt q,decide_eq_false (by omega),Bool.or_false]
  ·subst q
   rw [Nat.testBit_two_pow_add_eq,Nat.testBit_lt_two_pow h,decide_eq_true rfl];rfl
  ·rw [Nat.testBit_lt_two_pow (Nat.lt_of_lt_of_le (show 2 ^ n+w<2 ^ (n+1) by rw [Nat.pow_succ];omega) (Nat.pow_le_pow_right (by omega) q)),Nat.testBit_lt_two_pow (Nat.lt_of_lt_of_le h (Nat.pow_le_pow_right (by omega) (by omega))),decide_eq_false (by omega)];rfl
 ·rw [decide_eq_false h0,decide_eq_false (by omega)];rfl
theorem Ss_Sn:∀ (n:Nat) (f:(Int->Bool)->Int),Ss n f=Sn (2 ^ n) λw=>f (bs w)
 | 0,f=>by
  show f _=0+f (bs 0)
  rw [Int.zero_add];congr 1
  funext i;unfold bs;rw [Nat.zero_testBit,Bool.and_false]
 | n+1,f=>by
  show Ss n f+Ss n (λS=>f (ad1 S n))=_
  rw [Nat.pow_succ,show 2 ^ n * 2=2 ^ n+2 ^ n by omega,Sn_add,Ss_Sn n f,Ss_Sn n λS=>f (ad1 S n)]
  congr 1
  exact Sn_congr λw hw=>by rw [bs_ad hw]
end Go.Proofs.Ytokekkacliomkaa.AE
end
section
namespace Go.Proofs.Ytokekkacliomkaa.AE
open Go Go.AE Go.Proofs
variable {R C F:Nat} {A:Mat} {i j k:Int}
theorem rowS_good {u:St} (h:u.good R C) (t f b:Int):(rowS u t f b).good R C:=by
 obtain ⟨g1,g2,g3,g4,g5⟩:=h
 exact ⟨g1.adR,g2.adR,g3.adC,g4,g5⟩
theorem colS_good {u:St} (h:u.good R C) (t f b:Int):(colS u t f b).good R C:=by
 obtain ⟨g1,g2,g3,g4,g5⟩:=h
 exact ⟨g1.adC,g2,g3,g4.adC,g5.adR⟩
theorem ab_neg (x:Int):ab (-x)=ab x:=by unfold ab;split <;> split <;> omega
theorem row_both (hR:R<=1000) (hC:C<=1000) (hF:5000000<F) {u:St} (hg:u.good R C) {t f q:Int} (ht0:0<=t) (ht:t<R) (hf0:0<=f) (hf:f<R) (htf:t≠f) (hq:ab q<=4000000000000) (hq0:q≠0) :
  ∃ bad',eS.p F R (mk R R u.l) R R (mk R R u.m) C (mk R C u.d) false t f (-q)=some (mk R R (rowS u t f (-q)).l,mk R R (rowS u t f (-q)).m,mk R C (rowS u t f (-q)).d,bad') /\
   (∃ x y z,Ec.p F C (mk R C u.d) R (mk R R u.l) R R (mk R R u.m) false t f q=some (x,y,z,bad')/\(bad'=false->x=mk R C (rowS u t f (-q)).d/\y=mk R R (rowS u t f (-q)).l/\z=mk R R (rowS u t f (-q)).m)) /\
   (bad'=false->¬ nfR C u.d t f (-q)/\¬ nfR R u.l t f (-q)/\¬ nfC R u.m f t (- -q)):=by
 obtain ⟨g1,g2,g3,g4,g5⟩:=hg
 have bq:=ab_bd hq
 have hq':ab (-q)<=4000000000000:=by rw [ab_neg];exact hq
 obtain ⟨b1,e1,h1⟩:=Vl (F:=F) (bad:=false) hR hC (by omega) g1 ht0 ht hf0 hf htf hq'
 obtain ⟨b2,e2,h2⟩:=Vl (F:=F) (bad:=b1) hR hR (by omega) g2 ht0 ht hf0 hf htf hq'
 obtain ⟨b3,e3,h3⟩:=Vm (F:=F) (q:=- -q) (bad:=b2) hR hR (by omega) g3 hf0 hf ht0 ht (Ne.symm htf) (by rw [ab_neg];exact hq')
 refine ⟨b3,?_,?_,?_⟩
 ·unfold eS.p
  rw [e1,Option.bind_some]
  simp only []
  rw [e2,Option.bind_some]
  simp only []
  rw [ap (by omega) (by omega),Int.zero_sub,e3,Option.bind_some]
  rfl
 ·unfold Ec.p
  rw [show (q != 0)=true from bne_iff_ne.2 hq0,cond_true]
  obtain ⟨c1,x,f1,i1,j1⟩:=Vn (F:=F) hR hC (by omega) g1 ht0 ht hf0 hf htf hq
  rw [f1,Option.bind_some]
  simp only []
  cases c1 with
  | true=>
   rw [Vp (by omega),Option.bind_some]
   simp only []
   rw [Vq (by omega),Option.bind_some]
   have hb:b3=true:=h3.2 (.inl (h2.2 (.inl (h1.2 (.inr (i1.1 rfl))))))
   subst hb
   exact ⟨_,_,_,rfl,λh=>by cases h⟩
  | false=>
   have n1:¬ nfR C u.d t f (-q):=λh=>by have:=i1.2 h;cases this
   obtain ⟨c2,y,f2,i2,j2⟩:=Vn (F:=F) hR hR (by omega) g2 ht0 ht hf0 hf htf hq
   rw [f2,Option.bind_some]
   simp only []
   cases c2 with
   | true=>
    rw [Vq (by omega),Option.bind_some]
    have hb:b3=true:=h3.2 (.inl (h2.2 (.inr (i2.1 rfl))))
    subst hb
    exact ⟨_,_,_,rfl,λh=>by cases h⟩
   | false=>
    have n2:¬ nfR R u.l t f (-q):=λh=>by have:=i2.2 h;cases this
    obtain ⟨c3,z,f3,i3,j3⟩:=Vo (F:=F) (q:=-q) hR hR (by omega) g3 hf0 hf ht0 ht (Ne.symm htf) hq'
    rw [ap (by omega) (by omega),Int.zero_sub,f3,Option.bind_some]
    have hb:b3=c3:=by
     rw [Bool.eq_iff_iff,h3,i3]
     constructor
     ·rintro (h | h)
      ·rcases h2.1 h with h | h
       ·rcases h1.1 h with h | h
        ·cases h
        ·exact absurd h n1
       ·exact absurd h n2
      ·exact h
     ·exact λh=>.inr h
    subst hb
    exact ⟨_,_,_,rfl,λh=>⟨j1 rfl,j2 rfl,j3 h⟩⟩
 ·intro hb
  refine ⟨λhn=>?_,λhn=>?_,λhn=>?_⟩
  ·have:b3=true:=h3.2 (.inl (h2.2 (.inl (h1.2 (.inr hn)))))
   rw [hb] at this;cases this
  ·have:b3=true:=h3.2 (.inl (h2.2 (.inr hn)))
   rw [hb] at this;cases this
  ·have:b3=true:=h3.2 (.inr hn)
   rw [hb] at this;cases this
theorem col_both (hR:R<=1000) (hC:C<=1000) (hF:5000000<F) {u:St} (hg:u.good R C) {t f q:Int} (ht0:0<=t) (ht:t<C) (hf0:0<=f) (hf:f<C) (htf:t≠f) (hq:ab q<=4000000000000) (hq0:q≠0) :
  ∃ bad',gy.p F R C (mk R C u.d) C C (mk C C u.r) C (mk C C u.s) false t f (-q)=some (mk R C (colS u t f (-q)).d,mk C C (colS u t f (-q)).r,mk C C (colS u t f (-q)).s,bad') /\
   (∃ x y z,KN.p F R C (mk R C u.d) C C (mk C C u.r) C (mk C C u.s) false t f q=some (x,y,z,bad')/\(bad'=false->x=mk R C (colS u t f (-q)).d/\y=mk C C (colS u t f (-q)).r/\z=mk C C (colS u t f (-q)).s)) /\
   (bad'=false->¬ nfC R u.d t f (-q)/\¬ nfC C u.r t f (-q)/\¬ nfR C u.s f t (- -q)):=by
 obtain ⟨g1,g2,g3,g4,g5⟩:=hg
 have bq:=ab_bd hq
 have hq':ab (-q)<=4000000000000:=by rw [ab_neg];exact hq
 obtain ⟨b1,e1,h1⟩:=Vm (F:=F) (bad:=false) hR hC (by omega) g1 ht0 ht hf0 hf htf hq'
 obtain ⟨b2,e2,h2⟩:=Vm (F:=F) (bad:=b1) hC hC (by omega) g4 ht0 ht hf0 hf htf hq'
 obtain ⟨b3,e3,h3⟩:=Vl (F:=F) (q:=- -q) (bad:=b2) hC hC (by omega) g5 hf0 hf ht0 ht (Ne.symm htf) (by rw [ab_neg];exact hq')
 refine ⟨b3,?_,?_,?_⟩
 ·unfold gy.p
  rw [e1,Option.bind_some]
  simp only []
  rw [e2,Option.bind_some]
  simp only []
  rw [ap (by omega) (by omega),Int.zero_sub,e3,Option.bind_some]
  rfl
 ·unfold KN.p
  rw [show (q != 0)=true from bne_iff_ne.2 hq0,cond_true]
  obtain ⟨c1,x,f1,i1,j1⟩:=Vo (F:=F) hR hC (by omega) g1 ht0 ht hf0 hf htf hq
  rw [f1,Option.bind_some]
  simp only []
  cases c1 with
  | true=>
   rw [Vq (by omega),Option.bind_some]
   simp only []
   rw [Vp (by omega),Option.bind_some]
   have hb:b3=true:=h3.2 (.inl (h2.2 (.inl (h1.2 (.inr (i1.1 rfl))))))
   subst hb
   exact ⟨_,_,_,rfl,λh=>by cases h⟩
  | false=>
   have n1:¬ nfC R u.d t f (-q):=λh=>by have:=i1.2 h;cases this
   obtain ⟨c2,y,f2,i2,j2⟩:=Vo (F:=F) hC hC (by omega) g4 ht0 ht hf0 hf htf hq
   rw [f2,Option.bind_some]
   simp only []
   cases c2 with
   | true=>
    rw [Vp (by omega),Option.bind_some]
    have hb:b3=true:=h3.2 (.inl (h2.2 (.inr (i2.1 rfl))))
    subst hb
    exact ⟨_,_,_,rfl,λh=>by cases h⟩
   | false=>
    have n2:¬ nfC C u.r t f (-q):=λh=>by have:=i2.2 h;cases this
    obtain ⟨c3,z,f3,i3,j3⟩:=Vn (F:=F) (q:=-q) hC hC (by omega) g5 hf0 hf ht0 ht (Ne.symm htf) hq'
    rw [ap (by omega) (by omega),Int.zero_sub,f3,Option.bind_some]
    have hb:b3=c3:=by
     rw [Bool.eq_iff_iff,h3,i3]
     constructor
     ·rintro (h | h)
      ·rcases h2.1 h with h | h
       ·rcases h1.1 h with h | h
        ·cases h
        ·exact absurd h n1
       ·exact absurd h n2
      ·exact h
     ·exact λh=>.inr h
    subst hb
    exact ⟨_,_,_,rfl,λh=>⟨j1 rfl,j2 rfl,j3 h⟩⟩
 ·intro hb
  refine ⟨λhn=>?_,λhn=>?_,λhn=>?_⟩
  ·have:b3=true:=h3.2 (.inl (h2.2 (.inl (h1.2 (.inr hn)))))
   rw [hb] at this;cases this
  ·have:b3=true:=h3.2 (.inl (h2.2 (.inr hn)))
   rw [hb] at this;cases this
  ·have:b3=true:=h3.2 (.inr hn)
   rw [hb] at this;cases this
end Go.Proofs.Ytokekkacliomkaa.AE
end
section
namespace Go.Proofs.Ytokekkacliomkaa.AE
open Go Go.AE Go.Proofs
variable {R C F:Nat} {A:Mat} {i j k:Int}
abbrev i13 (F g R C:Nat) (u:St) (bad:Bool) (k i:Int):=aL.pl13 F g R (mk R R u.l) R R (mk R R u.m) R C (mk R C u.d) C C (mk C C u.r) C (mk C C u.s) bad k R C i
abbrev i4 (F R C:Nat) (u:St) (bad:Bool) (k:Int):=aL.pj4 F (mk R R u.l) (mk R R u.m) R C (mk R C u.d) C C (mk C C u.r) C (mk C C u.s) bad k C
abbrev i15 (F g R C:Nat) (u:St) (bad:Bool) (k j:Int):=aL.pl15 F g (mk R R u.l) (mk R R u.m) R C (mk R C u.d) C C (mk C C u.r) C (mk C C u.s) bad k C j
abbrev s29 (F g R C:Nat) (u:St) (bad:Bool) (k i:Int):=fT.pl29 F g R C (mk R C u.d) R (mk R R u.l) R R (mk R R u.m) C C (mk C C u.r) C (mk C C u.s) bad k i
abbrev s2 (F R C:Nat) (u:St) (bad:Bool) (k:Int):=fT.pj2 F R C (mk R C u.d) R (mk R R u.l) R R (mk R R u.m) C C (mk C C u.r) C (mk C C u.s) bad k
abbrev s61 (F g R C:Nat) (u:St) (bad:Bool) (k i:Int):=fT.pl61 F g R C (mk R C u.d) R (mk R R u.l) R R (mk R R u.m) C C (mk C C u.r) C (mk C C u.s) bad k i
abbrev s1 (F R C:Nat) (u:St) (bad:Bool) (k:Int):=fT.pj1 F R C (mk R C u.d) R (mk R R u.l) R R (mk R R u.m) (mk C C u.r) (mk C C u.s) bad k
theorem i15_bad {g:Nat} {l m d r s:List Int} {c6 c7 c9 c10 c13 k x j:Int}:aL.pl15 F (g+1) l m c6 c7 d c9 c10 r c13 s true k x j=some (true,l,m,d,r,s):=by
 rw [aL.pl15]
 cases decide (j<x) <;> rfl
theorem i13_bad {g:Nat} {l m d r s:List Int} {c1 c3 c4 c6 c7 c9 c10 c13 k x y i:Int} (hF:0<F):aL.pl13 F (g+1) c1 l c3 c4 m c6 c7 d c9 c10 r c13 s true k x y i=some (true,l,m,d,r,s):=by
 obtain ⟨f,rfl⟩:∃ f,F=f+1:=⟨F - 1,by omega⟩
 rw [aL.pl13]
 unfold aL.pj4
 cases decide (i<x)
 ·exact i15_bad
 ·exact i15_bad
theorem s61_bad {g:Nat} {l m d r s:List Int} {c0 c1 c4 c6 c7 c9 c10 c13 k i:Int}:fT.pl61 F (g+1) c0 c1 d c4 l c6 c7 m c9 c10 r c13 s true k i=some (false,false,d,l,m,r,s,true):=by
 rw [fT.pl61]
 cases decide (i<c1) <;> rfl
theorem s29_bad {g:Nat} {l m d r s:List Int} {c0 c1 c4 c6 c7 c9 c10 c13 k i:Int} (hF:0<F):fT.pl29 F (g+1) c0 c1 d c4 l c6 c7 m c9 c10 r c13 s true k i=some (false,false,d,l,m,r,s,true):=by
 obtain ⟨f,rfl⟩:∃ f,F=f+1:=⟨F - 1,by omega⟩
 rw [fT.pl29]
 unfold fT.pj2
 cases decide (i<c0)
 ·exact s61_bad
 ·exact s61_bad
theorem mod_eq {x p:Int}:x+p * -(x / p)=x % p:=by
 have:=Int.mul_ediv_add_emod x p
 rw [Int.mul_neg];omega
theorem quo_ne {x p:Int} (h:x / p=0):x % p=x:=by
 have:=Int.mul_ediv_add_emod x p
 rw [h] at this;omega
theorem clr_rows (hR:R<=1000) (hC:C<=1000) (hF:5000000<F) (hk:0<=k) (hkR:k<R) (hkC:k<C) {p:Int} (hp:0<p):∀ (n g h:Nat) (u:St) (i:Int),u.good R C->u.d k k=p->R - i=n->n+1<g->n+1<h->k<i ->
  (∃ v:St,v.good R C/\Rch R C k u v/\(∀ a b:Int,a<i->v.d a b=u.d a b)/\(∀ b:Int,0<=b->b<C->v.d k b=u.d k b)/\(∀ a:Int,i<=a->a<R->v.d a k=u.d a k % p)/\(∀ a:Int,0<=a->a<i->v.d a k=u.d a k) /\
   i13 F g R C u false k i=i4 F R C v false k/\s29 F h R C u false k i=s2 F R C v false k) \/
  (∃ l m d r s,i13 F g R C u false k i=some (true,l,m,d,r,s))/\(∃ l m d r s,s29 F h R C u false k i=some (false,false,d,l,m,r,s,true)):=by
 intro n
 induction n with
 | zero=>
  intro g h u i hu hkk hn hg hh hki
  obtain ⟨g,rfl⟩:∃ g',g=g'+1:=⟨g - 1,by omega⟩
  obtain ⟨h,rfl⟩:∃ g',h=g'+1:=⟨h - 1,by omega⟩
  left
  refine ⟨u,hu,.refl _,λ_ _ _=>rfl,λ_ _ _=>rfl,λa h1 h2=>by omega,λ_ _ _=>rfl,?_,?_⟩
  ·unfold i13
   rw [aL.pl13,show decide (i<(R:Int))=false from decide_eq_false (by omega),cond_false]
  ·unfold s29
   rw [fT.pl29,show decide (i<(R:Int))=false from decide_eq_false (by omega),cond_false]
 | succ n ih=>
  intro g h u i hu hkk hn hg hh hki
  obtain ⟨g,rfl⟩:∃ g',g=g'+1:=⟨g - 1,by omega⟩
  obtain ⟨h,rfl⟩:∃ g',h=g'+1:=⟨h - 1,by omega⟩
  have bik:=hu.1.ab (i:=i) (j:=k) (by omega) (by omega) hk hkC
  have bq:=(quo_bd hp bik).1
  have bq':=ab_bd bq
  unfold i13 s29
  rw [aL.pl13,show decide (i<(R:Int))=true from decide_eq_true (by omega),cond_true,Bool.not_false,cond_true]
  rw [fT.pl29,show decide (i<(R:Int))=true from decide_eq_true (by omega),cond_true,Bool.not_false,cond_true]
  simp (disch:=omega) only [at_mk,eL,fj,Option.bind_some]
  rw [hkk,aeK hp bik,aeL hp bik,Option.bind_some,Option.bind_some]
  by_cases hq:u.d i k / p=0
  ·rw [hq,show ((0:Int) != 0)=false from rfl,cond_false]
   unfold aL.pj5 Ec.p
   rw [show ((0:Int) != 0)=false from rfl,cond_false,Option.bind_some,ap (by omega) (by omega)]
   rcases ih g h u (i+1) hu hkk (by omega) (by omega) (by omega) (by omega) with ⟨v,q1,qr,q0,q2,q3,q4,q5,q6⟩ | hbad
   ·left
    refine ⟨v,q1,qr,λa b h=>q0 a b (by omega),q2,λa h1 h2=>?_,λa h1 h2=>q4 a h1 (by omega),q5,q6⟩
    by_cases e:a=i
    ·subst e
     rw [q4 a (by omega) (by omega),quo_ne hq]
    ·exact q3 a (by omega) h2
   ·exact .inr hbad
  ·rw [show (u.d i k / p != 0)=true from bne_iff_ne.2 hq,cond_true,ap (x:=0 - u.d i k / p) (by omega) (by omega),Int.zero_sub]
   obtain ⟨bad',e1,⟨x,y,z,e2,e3⟩,e4⟩:=row_both (q:=u.d i k / p) hR hC hF hu (by omega:0<=i) (by omega) hk hkR (by omega) (by omega) hq
   rw [e1,e2,Option.bind_some,Option.bind_some]
   unfold aL.pj5
   rw [ap (x:=i+1) (by omega) (by omega)]
   simp only []
   cases bad' with
   | true=>
    right
    obtain ⟨g,rfl⟩:∃ g',g=g'+1:=⟨g - 1,by omega⟩
    obtain ⟨h,rfl⟩:∃ g',h=g'+1:=⟨h - 1,by omega⟩
    exact ⟨⟨_,_,_,_,_,i13_bad (by omega)⟩,⟨_,_,_,_,_,s29_bad (by omega)⟩⟩
   | false=>
    obtain ⟨rfl,rfl,rfl⟩:=e3 rfl
    have e4:=e4 rfl
    have key:∀ b:Int,0<=b->b<C->(rowS u i k (-(u.d i k / p))).d i b=u.d i b+u.d k b * -(u.d i k / p):=by
     intro b h1 h2
     show adR u.d i k (-(u.d i k / p)) i b=_
     unfold adR
     rw [if_pos rfl]
     apply ad_fit
     exact Classical.byContradiction λhh=>e4.1 ⟨b,h1,h2,hh⟩
    have oth:∀ a b,a≠i->(rowS u i k (-(u.d i k / p))).d a b=u.d a b:=by
     intro a b h1
     show adR u.d i k (-(u.d i k / p)) a b=_
     unfold adR
     rw [if_neg h1]
    rcases ih g h (rowS u i k (-(u.d i k / p))) (i+1) (rowS_good hu _ _ _) (by rw [oth k k (by omega)];exact hkk) (by omega) (by omega) (by omega) (by omega) with ⟨v,q1,qr,q0,q2,q3,q4,q5,q6⟩ | hbad
    ·left
     refine ⟨v,q1,(Rch.row u i k _ (by omega) (by omega) (by omega) (by omega) (by omega) e4.1 e4.2.1 e4.2.2).trans qr,λa b h=>(q0 a b (by omega)).trans (oth a b (by omega)),λb h1 h2=>?_,λa h1 h2=>?_,λa h1 h2=>?_,q5,q6⟩
     ·rw [q2 b h1 h2,oth k b (by omega)]
     ·by_cases e:a=i
      ·subst e
       rw [q4 a (by omega) (by omega),key k hk hkC,hkk,mod_eq]
      ·rw [q3 a (by omega) h2,oth a k e]
     ·rw [q4 a h1 (by omega),oth a k (by omega)]
    ·exact .inr hbad
theorem clr_cols (hR:R<=1000) (hC:C<=1000) (hF:5000000<F) (hk:0<=k) (hkR:k<R) (hkC:k<C) {p:Int} (hp:0<p):∀ (n g h:Nat) (u:St) (j:Int),u.good R C->u.d k k=p->C - j=n->n+1<g->n+1<h->k<j ->
  (∃ v:St,v.good R C/\Rch R C k u v/\(∀ a b:Int,b<j->v.d a b=u.d a b)/\(∀ a:Int,0<=a->a<R->v.d a k=u.d a k)/\(∀ b:Int,j<=b->b<C->v.d k b=u.d k b % p)/\(∀ b:Int,0<=b->b<j->v.d k b=u.d k b) /\
   i15 F g R C u false k j=some (false,mk R R v.l,mk R R v.m,mk R C v.d,mk C C v.r,mk C C v.s)/\s61 F h R C u false k j=s1 F R C v false k) \/
  (∃ l m d r s,i15 F g R C u false k j=some (true,l,m,d,r,s))/\(∃ l m d r s,s61 F h R C u false k j=some (false,false,d,l,m,r,s,true)):=by
 intro n
 induction n with
 | zero=>
  intro g h u i hu hkk hn hg hh hki
  obtain ⟨g,rfl⟩:∃ g',g=g'+1:=⟨g - 1,by omega⟩
  obtain ⟨h,rfl⟩:∃ g',h=g'+1:=⟨h - 1,by omega⟩
  left
  refine ⟨u,hu,.refl _,λ_ _ _=>rfl,λ_ _ _=>rfl,λa h1 h2=>by omega,λ_ _ _=>rfl,?_,?_⟩
  ·unfold i15
   rw [aL.pl15,show decide (i<(C:Int))=false from decide_eq_false (by omega),cond_false]
  ·unfold s61
   rw [fT.pl61,show decide (i<(C:Int))=false from decide_eq_false (by omega),cond_false]
 | succ n ih=>
  intro g h u j hu hkk hn hg hh hki
  obtain ⟨g,rfl⟩:∃ g',g=g'+1:=⟨g - 1,by omega⟩
  obtain ⟨h,rfl⟩:∃ g',h=g'+1:=⟨h - 1,by omega⟩
  have bik:=hu.1.ab (i:=k) (j:=j) hk hkR (by omega) (by omega)
  have bq:=(quo_bd hp bik).1
  have bq':=ab_bd bq
  unfold i15 s61
  rw [aL.pl15,show decide (j<(C:Int))=true from decide_eq_true (by omega),cond_true,Bool.not_false,cond_true]
  rw [fT.pl61,show decide (j<(C:Int))=true from decide_eq_true (by omega),cond_true,Bool.not_false,cond_true]
  simp (disch:=omega) only [at_mk,eL,fj,Option.bind_some]
  rw [hkk,aeK hp bik,aeL hp bik,Option.bind_some,Option.bind_some]
  by_cases hq:u.d k j / p=0
  ·rw [hq,show ((0:Int) != 0)=false from rfl,cond_false]
   unfold aL.pj3 KN.p
   rw [show ((0:Int) != 0)=false from rfl,cond_false,Option.bind_some,ap (by omega) (by omega)]
   rcases ih g h u (j+1) hu hkk (by omega) (by omega) (by omega) (by omega) with ⟨v,q1,qr,q0,q2,q3,q4,q5,q6⟩ | hbad
   ·left
    refine ⟨v,q1,qr,λa b h=>q0 a b (by omega),q2,λa h1 h2=>?_,λa h1 h2=>q4 a h1 (by omega),q5,q6⟩
    by_cases e:a=j
    ·subst e
     rw [q4 a (by omega) (by omega),quo_ne hq]
    ·exact q3 a (by omega) h2
   ·exact .inr hbad
  ·rw [show (u.d k j / p != 0)=true from bne_iff_ne.2 hq,cond_true,ap (x:=0 - u.d k j / p) (by omega) (by omega),Int.zero_sub]
   obtain ⟨bad',e1,⟨x,y,z,e2,e3⟩,e4⟩:=col_both (q:=u.d k j / p) hR hC hF hu (by omega:0<=j) (by omega) hk hkC (by omega) (by omega) hq
   rw [e1,e2,Option.bind_some,Option.bind_some]
   unfold aL.pj3
   rw [ap (x:=j+1) (by omega) (by omega)]
   simp only []
   cases bad' with
   | true=>
    right
    obtain ⟨g,rfl⟩:∃ g',g=g'+1:=⟨g - 1,by omega⟩
    obtain ⟨h,rfl⟩:∃ g',h=g'+1:=⟨h - 1,by omega⟩
    exact ⟨⟨_,_,_,_,_,i15_bad⟩,⟨_,_,_,_,_,s61_bad⟩⟩
   | false=>
    obtain ⟨rfl,rfl,rfl⟩:=e3 rfl
    have e4:=e4 rfl
    have key:∀ a:Int,0<=a->a<R->(colS u j k (-(u.d k j / p))).d a j=u.d a j+u.d a k * -(u.d k j / p):=by
     intro b h1 h2
     show adC u.d j k (-(u.d k j / p)) b j=_
     unfold adC
     rw [if_pos rfl]
     apply ad_fit
     exact Classical.byContradiction λhh=>e4.1 ⟨b,h1,h2,hh⟩
    have oth:∀ a b,b≠j->(colS u j k (-(u.d k j / p))).d a b=u.d a b:=by
     intro a b h1
     show adC u.d j k (-(u.d k j / p)) a b=_
     unfold adC
     rw [if_neg h1]
    rcases ih g h (colS u j k (-(u.d k j / p))) (j+1) (colS_good hu _ _ _) (by rw [oth k k (by omega)];exact hkk) (by omega) (by omega) (by omega) (by omega) with ⟨v,q1,qr,q0,q2,q3,q4,q5,q6⟩ | hbad
    ·left
     refine ⟨v,q1,(Rch.col u j k _ (by omega) (by omega) (by omega) (by omega) (by omega) e4.1 e4.2.1 e4.2.2).trans qr,λa b h=>(q0 a b (by omega)).trans (oth a b (by omega)),λb h1 h2=>?_,λa h1 h2=>?_,λa h1 h2=>?_,q5,q6⟩
     ·rw [q2 b h1 h2,oth b k (by omega)]
     ·by_cases e:a=j
      ·subst e
       rw [q4 a (by omega) (by omega),key k hk hkR,hkk,mod_eq]
      ·rw [q3 a (by omega) h2,oth k a e]
     ·rw [q4 a h1 (by omega),oth k a (by omega)]
    ·exact .inr hbad
theorem clr_both (hR:R<=1000) (hC:C<=1000) (hF:5000000<F) (hk:0<=k) (hkR:k<R) (hkC:k<C) {p:Int} (hp:0<p) {u:St} (hu:u.good R C) (hkk:u.d k k=p) :
  (∃ v:St,v.good R C/\Rch R C k u v/\(∀ a b:Int,a<k->b<k->v.d a b=u.d a b)/\v.d k k=p/\(∀ a:Int,k<a->a<R->v.d a k=u.d a k % p)/\(∀ b:Int,k<b->b<C->v.d k b=u.d k b % p) /\
   aL.p F R (mk R R u.l) R R (mk R R u.m) R C (mk R C u.d) C C (mk C C u.r) C (mk C C u.s) false k=some (false,mk R R v.l,mk R R v.m,mk R C v.d,mk C C v.r,mk C C v.s)/\s29 F F R C u false k (IntKind.i64.wrap (k+1))=s1 F R C v false k) \/
  (∃ l m d r s,aL.p F R (mk R R u.l) R R (mk R R u.m) R C (mk R C u.d) C C (mk C C u.r) C (mk C C u.s) false k=some (true,l,m,d,r,s))/\(∃ l m d r s,s29 F F R C u false k (IntKind.i64.wrap (k+1))=some (false,false,d,l,m,r,s,true)):=by
 unfold aL.p
 rw [ap (x:=k+1) (by omega) (by omega)]
 rcases clr_rows hR hC hF hk hkR hkC hp (R - (k+1)).toNat F F u (k+1) hu hkk (by omega) (by omega) (by omega) (by omega) with ⟨v,q1,qr,q0,q2,q3,q4,q5,q6⟩ | ⟨h1,h2⟩
 ·rcases clr_cols hR hC hF hk hkR hkC hp (C - (k+1)).toNat F F v (k+1) q1 (by rw [q4 k hk (by omega)];exact hkk) (by omega) (by omega) (by omega) (by omega) with ⟨w,p1,pr,p0,p2,p3,p4,p5,p6⟩ | ⟨h1,h2⟩
  ·left
   refine ⟨w,p1,qr.trans pr,λa b h1 h2=>(p0 a b (by omega)).trans (q0 a b (by omega)),by rw [p2 k hk hkR,q4 k hk (by omega)];exact hkk,λa h1 h2=>by rw [p2 a (by omega) h2,q3 a (by omega) h2],λb h1 h2=>by rw [p3 b (by omega) h2,q2 b (by omega) h2],?_,?_⟩
   ·rw [show aL.pl13 F F R (mk R R u.l) R R (mk R R u.m) R C (mk R C u.d) C C (mk C C u.r) C (mk C C u.s) false k R C (k+1)=_ from q5]
    unfold i4 aL.pj4
    rw [ap (x:=k+1) (by omega) (by omega)]
    exact p5
   ·rw [q6]
    unfold s2 fT.pj2
    rw [ap (x:=k+1) (by omega) (by omega)]
    exact p6
  ·right
   obtain ⟨a1,a2,a3,a4,a5,h1⟩:=h1
   obtain ⟨b1,b2,b3,b4,b5,h2⟩:=h2
   refine ⟨⟨a1,a2,a3,a4,a5,?_⟩,⟨b1,b2,b3,b4,b5,?_⟩⟩
   ·rw [show aL.pl13 F F R (mk R R u.l) R R (mk R R u.m) R C (mk R C u.d) C C (mk C C u.r) C (mk C C u.s) false k R C (k+1)=_ from q5]
    unfold i4 aL.pj4
    rw [ap (x:=k+1) (by omega) (by omega)]
    exact h1
   ·rw [q6]
    unfold s2 fT.pj2
    rw [ap (x:=k+1) (by omega) (by omega)]
    exact h2
 ·exact .inr ⟨h1,h2⟩
end Go.Proofs.Ytokekkacliomkaa.AE
end
section
namespace Go.Proofs.Ytokekkacliomkaa.AE
open Go Go.AE Go.Proofs
variable {R C F:Nat} {A:Mat} {i j k:Int}
theorem cutf_row (hR:R<=1000) (hC:C<=1000) (hk0:0<=k) (hk:k<R):∃ x,dx.p F C (mk R C A) k=some x/\x.length=C/\∀ n:Nat,n<C->gt x n=A k n:=by
 obtain ⟨k,rfl⟩:=Int.eq_ofNat_of_zero_le hk0
 have h1:(k+1) * C<=R * C:=Nat.mul_le_mul_right _ (by omega)
 have h2:R * C<=1000 * 1000:=Nat.mul_le_mul hR hC
 have h3:(k+1) * C=k * C+C:=Nat.succ_mul _ _
 unfold dx.p
 rw [ap (x:=(k:Int)+1) (by omega) (by omega),show (k:Int)+1=((k+1:Nat):Int) by omega,<-Int.natCast_mul,<-Int.natCast_mul,ap (by omega) (by omega),ap (by omega) (by omega)]
 unfold cutf
 rw [if_pos (by rw [dG];omega),Option.bind_some]
 refine ⟨_,rfl,?_,?_⟩
 ·rw [List.length_drop,List.length_take,dG]
  omega
 ·intro n hn
  unfold gt
  rw [List.getD_eq_getElem?_getD,List.getElem?_drop,List.getElem?_take_of_lt (by omega),Int.toNat_natCast,BE hn (by omega)]
  rfl
theorem cutf_end {x:List Int} (hk0:0<=k) (hk:k<=x.length):∃ y,cutf x k (x.length:Int)=some y/\(y.length:Int)=x.length - k/\∀ n:Nat,gt y n=gt x (k.toNat+n):=by
 unfold cutf
 rw [if_pos (by omega)]
 refine ⟨_,rfl,?_,?_⟩
 ·rw [List.length_drop,List.length_take];omega
 ·intro n
  unfold gt
  rw [List.getD_eq_getElem?_getD,List.getD_eq_getElem?_getD,List.getElem?_drop,Int.toNat_natCast,List.take_length]
theorem idx_155 {y:List Int} (hy:y.length<=1000):∀ (n g:Nat) (i:Int),y.length - i=n->n<g->0<=i ->
  ∃ r,dp.pl13 F g y y.length i=some r/\(r>=0↔∃ a:Int,i<=a/\a<y.length/\gt y a.toNat≠0):=by
 intro n
 induction n with
 | zero=>
  intro g i hn hg hi
  obtain ⟨g,rfl⟩:∃ g',g=g'+1:=⟨g - 1,by omega⟩
  rw [dp.pl13,show decide (i<(y.length:Int))=false from decide_eq_false (by omega),cond_false]
  exact ⟨_,rfl,⟨λh=>absurd h (by decide),λ⟨a,h1,h2,_⟩=>by omega⟩⟩
 | succ n ih=>
  intro g i hn hg hi
  obtain ⟨g,rfl⟩:∃ g',g=g'+1:=⟨g - 1,by omega⟩
  rw [dp.pl13,show decide (i<(y.length:Int))=true from decide_eq_true (by omega),cond_true]
  unfold ix jx.p
  rw [if_pos (by omega),Option.bind_some,Option.bind_some]
  by_cases h:gt y i.toNat=0
  ·rw [h,show ((0:Int) != 0)=false from rfl,cond_false,ap (by omega) (by omega)]
   obtain ⟨r,e,hr⟩:=ih g (i+1) (by omega) (by omega) (by omega)
   refine ⟨r,e,hr.trans ⟨λ⟨a,h1,h2,h3⟩=>⟨a,by omega,h2,h3⟩,λ⟨a,h1,h2,h3⟩=>?_⟩⟩
   by_cases e:a=i
   ·subst e;exact absurd h h3
   ·exact ⟨a,by omega,h2,h3⟩
  ·rw [show (gt y i.toNat != 0)=true from bne_iff_ne.2 h,cond_true]
   exact ⟨_,rfl,⟨λ_=>⟨i,by omega,by omega,h⟩,λ_=>hi⟩⟩
theorem isClear_l (hR:R<=1000) (hC:C<=1000) (hF:5000000<F) (hk:0<=k) (hkR:k<R) (hkC:k<C):∀ (n g:Nat) (i:Int),R - i=n->n<g->k<i ->
  ∃ b:Bool,cq.pl29 F g k R C (mk R C A) i=some b/\(b=true↔(∀ a:Int,i<=a->a<R->A a k=0)/\(∀ a:Int,k<a->a<C->A k a=0)):=by
 intro n
 induction n with
 | zero=>
  intro g i hn hg hi
  obtain ⟨g,rfl⟩:∃ g',g=g'+1:=⟨g - 1,by omega⟩
  rw [cq.pl29,show decide (i<(R:Int))=false from decide_eq_false (by omega),cond_false]
  unfold cq.pj1
  obtain ⟨x,ex,xl,xg⟩:=cutf_row (F:=F) (A:=A) hR hC hk hkR
  rw [ex,Option.bind_some,ap (by omega) (by omega)]
  obtain ⟨y,ey,yl,yg⟩:=cutf_end (x:=x) (k:=k+1) (by omega) (by omega)
  rw [ey,Option.bind_some]
  unfold il.p dp.p
  obtain ⟨r,er,hr⟩:=idx_155 (F:=F) (y:=y) (by omega) y.length F 0 (by omega) (by omega) (by omega)
  rw [er,Option.bind_some,Option.bind_some]
  refine ⟨_,rfl,?_⟩
  have:(!decide (r>=0))=true↔¬ (r>=0):=by simp
  rw [this,hr]
  constructor
  ·intro h
   refine ⟨λa h1 h2=>by omega,λa h1 h2=>?_⟩
   refine Classical.byContradiction λhne=>h ⟨a - (k+1),by omega,by omega,?_⟩
   rw [yg,show (k+1).toNat+(a - (k+1)).toNat=a.toNat by omega,xg _ (by omega),Int.toNat_of_nonneg (by omega)]
   exact hne
  ·rintro ⟨_,h⟩ ⟨a,h1,h2,h3⟩
   apply h3
   rw [yg,xg _ (by omega),show (((k+1).toNat+a.toNat:Nat):Int)=k+1+a by omega]
   exact h _ (by omega) (by omega)
 | succ n ih=>
  intro g i hn hg hi
  obtain ⟨g,rfl⟩:∃ g',g=g'+1:=⟨g - 1,by omega⟩
  rw [cq.pl29,show decide (i<(R:Int))=true from decide_eq_true (by omega),cond_true]
  simp (disch:=omega) only [eL,fj,Option.bind_some]
  by_cases h:A i k=0
  ·rw [h,show ((0:Int) != 0)=false from rfl,cond_false,ap (by omega) (by omega)]
   obtain ⟨b,e,hb⟩:=ih g (i+1) (by omega) (by omega) (by omega)
   refine ⟨b,e,hb.trans ⟨λ⟨h1,h2⟩=>⟨λa h3 h4=>?_,h2⟩,λ⟨h1,h2⟩=>⟨λa h3 h4=>h1 a (by omega) h4,h2⟩⟩⟩
   by_cases e:a=i
   ·subst e;exact h
   ·exact h1 a (by omega) h4
  ·rw [show (A i k != 0)=true from bne_iff_ne.2 h,cond_true]
   exact ⟨_,rfl,⟨λh=>(by cases h),λ⟨h1,_⟩=>absurd (h1 i (by omega) (by omega)) h⟩⟩
theorem specClear_in (hR:R<=1000) (hC:C<=1000) (hk:0<=k) (hkR:k<R) (hkC:k<C):∀ (n g:Nat) (j:Int),C - j=n->n<g->k<j ->
  ∃ b:Bool,kn.pl29 F g C (mk R C A) k j=some b/\(b=true↔(∀ a:Int,j<=a->a<C->A k a=0)):=by
 intro n
 induction n with
 | zero=>
  intro g i hn hg hi
  obtain ⟨g,rfl⟩:∃ g',g=g'+1:=⟨g - 1,by omega⟩
  rw [kn.pl29,show decide (i<(C:Int))=false from decide_eq_false (by omega),cond_false]
  exact ⟨_,rfl,⟨λ_ a h1 h2=>by omega,λ_=>rfl⟩⟩
 | succ n ih=>
  intro g i hn hg hi
  obtain ⟨g,rfl⟩:∃ g',g=g'+1:=⟨g - 1,by omega⟩
  rw [kn.pl29,show decide (i<(C:Int))=true from decide_eq_true (by omega),cond_true]
  simp (disch:=omega) only [at_mk,Option.bind_some]
  by_cases h:A k i=0
  ·rw [h,show ((0:Int) != 0)=false from rfl,cond_false,ap (by omega) (by omega)]
   obtain ⟨b,e,hb⟩:=ih g (i+1) (by omega) (by omega) (by omega)
   refine ⟨b,e,hb.trans ⟨λh1 a h3 h4=>?_,λh1 a h3 h4=>h1 a (by omega) h4⟩⟩
   by_cases e:a=i
   ·subst e;exact h
   ·exact h1 a (by omega) h4
  ·rw [show (A k i != 0)=true from bne_iff_ne.2 h,cond_true]
   exact ⟨_,rfl,⟨λh=>(by cases h),λh1=>absurd (h1 i (by omega) (by omega)) h⟩⟩
theorem specClear_l (hR:R<=1000) (hC:C<=1000) (hF:5000000<F) (hk:0<=k) (hkR:k<R) (hkC:k<C):∀ (n g:Nat) (i:Int),R - i=n->n<g->k<i ->
  ∃ b:Bool,kn.pl13 F g R C (mk R C A) k i=some b/\(b=true↔(∀ a:Int,i<=a->a<R->A a k=0)/\(∀ a:Int,k<a->a<C->A k a=0)):=by
 intro n
 induction n with
 | zero=>
  intro g i hn hg hi
  obtain ⟨g,rfl⟩:∃ g',g=g'+1:=⟨g - 1,by omega⟩
  rw [kn.pl13,show decide (i<(R:Int))=false from decide_eq_false (by omega),cond_false]
  unfold kn.pj1
  rw [ap (by omega) (by omega)]
  obtain ⟨b,e,hb⟩:=specClear_in (F:=F) (A:=A) hR hC hk hkR hkC (C - (k+1)).toNat F (k+1) (by omega) (by omega) (by omega)
  exact ⟨b,e,hb.trans ⟨λh=>⟨λa h1 h2=>by omega,λa h1 h2=>h a (by omega) h2⟩,λ⟨_,h⟩ a h1 h2=>h a (by omega) h2⟩⟩
 | succ n ih=>
  intro g i hn hg hi
  obtain ⟨g,rfl⟩:∃ g',g=g'+1:=⟨g - 1,by omega⟩
  rw [kn.pl13,show decide (i<(R:Int))=true from decide_eq_true (by omega),cond_true]
  simp (disch:=omega) only [at_mk,Option.bind_some]
  by_cases h:A i k=0
  ·rw [h,show ((0:Int) != 0)=false from rfl,cond_false,ap (by omega) (by omega)]
   obtain ⟨b,e,hb⟩:=ih g (i+1) (by omega) (by omega) (by omega)
   refine ⟨b,e,hb.trans ⟨λ⟨h1,h2⟩=>⟨λa h3 h4=>?_,h2⟩,λ⟨h1,h2⟩=>⟨λa h3 h4=>h1 a (by omega) h4,h2⟩⟩⟩
   by_cases e:a=i
   ·subst e;exact h
   ·exact h1 a (by omega) h4
  ·rw [show (A i k != 0)=true from bne_iff_ne.2 h,cond_true]
   exact ⟨_,rfl,⟨λh=>(by cases h),λ⟨h1,_⟩=>absurd (h1 i (by omega) (by omega)) h⟩⟩
theorem clear_both (hR:R<=1000) (hC:C<=1000) (hF:5000000<F) (hk:0<=k) (hkR:k<R) (hkC:k<C) :
  ∃ b:Bool,cq.p F R C (mk R C A) k=some b/\kn.p F R C (mk R C A) k=some b/\(b=true↔(∀ a:Int,k<a->a<R->A a k=0)/\(∀ a:Int,k<a->a<C->A k a=0)):=by
 obtain ⟨b,e,hb⟩:=isClear_l (F:=F) (A:=A) hR hC hF hk hkR hkC (R - (k+1)).toNat F (k+1) (by omega) (by omega) (by omega)
 obtain ⟨c,e',hc⟩:=specClear_l (F:=F) (A:=A) hR hC hF hk hkR hkC (R - (k+1)).toNat F (k+1) (by omega) (by omega) (by omega)
 have:b=c:=by rw [Bool.eq_iff_iff,hb,hc]
 subst this
 unfold cq.p kn.p
 rw [ap (by omega) (by omega)]
 exact ⟨b,e,e',hb⟩
theorem idx_156 {y:List Int} (hR:R<=1000) (hC:C<=1000) (hk:0<=k) (hkR:k<R) (hkC:k<C) (hp:A k k≠0) (hy:y.length<=1000):∀ (n g:Nat) (i:Int),y.length - i=n->n<g->0<=i ->
  ∃ r,dq.pl13 F g y C (mk R C A) k y.length i=some r/\(r>=0↔∃ a:Int,i<=a/\a<y.length/\Int.tmod (gt y a.toNat) (A k k)≠0):=by
 intro n
 induction n with
 | zero=>
  intro g i hn hg hi
  obtain ⟨g,rfl⟩:∃ g',g=g'+1:=⟨g - 1,by omega⟩
  rw [dq.pl13,show decide (i<(y.length:Int))=false from decide_eq_false (by omega),cond_false]
  exact ⟨_,rfl,⟨λh=>absurd h (by decide),λ⟨a,h1,h2,_⟩=>by omega⟩⟩
 | succ n ih=>
  intro g i hn hg hi
  obtain ⟨g,rfl⟩:∃ g',g=g'+1:=⟨g - 1,by omega⟩
  rw [dq.pl13,show decide (i<(y.length:Int))=true from decide_eq_true (by omega),cond_true]
  unfold iE.p
  rw [eL hR hC hk hkR hk hkC]
  unfold ix
  rw [if_pos (by omega),Option.bind_some,Option.bind_some,fj hk hkR hk hkC,if_neg hp,Option.bind_some]
  by_cases h:Int.tmod (gt y i.toNat) (A k k)=0
  ·rw [h,show ((0:Int) != 0)=false from rfl,cond_false,ap (by omega) (by omega)]
   obtain ⟨r,e,hr⟩:=ih g (i+1) (by omega) (by omega) (by omega)
   refine ⟨r,e,hr.trans ⟨λ⟨a,h1,h2,h3⟩=>⟨a,by omega,h2,h3⟩,λ⟨a,h1,h2,h3⟩=>?_⟩⟩
   by_cases e:a=i
   ·subst e;exact absurd h h3
   ·exact ⟨a,by omega,h2,h3⟩
  ·rw [show (Int.tmod (gt y i.toNat) (A k k) != 0)=true from bne_iff_ne.2 h,cond_true]
   exact ⟨_,rfl,⟨λ_=>⟨i,by omega,by omega,h⟩,λ_=>hi⟩⟩
theorem specOdd_in (hR:R<=1000) (hC:C<=1000) (hk:0<=k) (hkR:k<R) (hkC:k<C) (hp:A k k≠0) (hi:k<i) (hiR:i<R) {pC}:∀ (n g:Nat) (j:Int),C - j=n->n<g->k<j ->
  ((∃ b:Int,j<=b/\b<C/\Int.tmod (A i b) (A k k)≠0)/\jn.pl213 F pC g R C (mk R C A) k i j=some i) \/
  ((∀ b:Int,j<=b->b<C->Int.tmod (A i b) (A k k)=0)/\jn.pl213 F pC g R C (mk R C A) k i j=pC R C (mk R C A) k (i+1)):=by
 intro n
 induction n with
 | zero=>
  intro g j hn hg hj
  obtain ⟨g,rfl⟩:∃ g',g=g'+1:=⟨g - 1,by omega⟩
  rw [jn.pl213,show decide (j<(C:Int))=false from decide_eq_false (by omega),cond_false]
  unfold jn.pj4 jn.pj3
  rw [ap (by omega) (by omega)]
  exact .inr ⟨λb h1 h2=>by omega,rfl⟩
 | succ n ih=>
  intro g j hn hg hj
  obtain ⟨g,rfl⟩:∃ g',g=g'+1:=⟨g - 1,by omega⟩
  rw [jn.pl213,show decide (j<(C:Int))=true from decide_eq_true (by omega),cond_true]
  simp (disch:=omega) only [at_mk,Option.bind_some]
  rw [if_neg hp]
  by_cases h:Int.tmod (A i j) (A k k)=0
  ·rw [h,show ((0:Int) != 0)=false from rfl,cond_false,ap (by omega) (by omega)]
   rcases ih g (j+1) (by omega) (by omega) (by omega) with ⟨⟨b,h1,h2,h3⟩,e⟩ | ⟨h1,e⟩
   ·exact .inl ⟨⟨b,by omega,h2,h3⟩,e⟩
   ·refine .inr ⟨λb h3 h4=>?_,e⟩
    by_cases e:b=j
    ·subst e;exact h
    ·exact h1 b (by omega) h4
  ·rw [show (Int.tmod (A i j) (A k k) != 0)=true from bne_iff_ne.2 h,cond_true]
   exact .inl ⟨⟨j,by omega,by omega,h⟩,rfl⟩
theorem odd_l (hR:R<=1000) (hC:C<=1000) (hF:5000000<F) (hk:0<=k) (hkR:k<R) (hkC:k<C) (hp:A k k≠0):∀ (n g h:Nat) (i:Int),R - i=n->n<g->n<h->k<i ->
  ∃ r:Int,cJ.pl29 F g k R C (mk R C A) i=some r/\jn.pl13 F h R C (mk R C A) k i=some r/\((r=-1/\∀ a b:Int,i<=a->a<R->k<b->b<C->Int.tmod (A a b) (A k k)=0)\/(k<r/\r<R/\∃ b:Int,k<b/\b<C/\Int.tmod (A r b) (A k k)≠0)):=by
 intro n
 induction n with
 | zero=>
  intro g h i hn hg hh hi
  obtain ⟨g,rfl⟩:∃ g',g=g'+1:=⟨g - 1,by omega⟩
  obtain ⟨h,rfl⟩:∃ g',h=g'+1:=⟨h - 1,by omega⟩
  rw [cJ.pl29,jn.pl13,show decide (i<(R:Int))=false from decide_eq_false (by omega),cond_false,cond_false]
  exact ⟨-1,rfl,rfl,.inl ⟨rfl,λa b h1 h2=>by omega⟩⟩
 | succ n ih=>
  intro g h i hn hg hh hi
  obtain ⟨g,rfl⟩:∃ g',g=g'+1:=⟨g - 1,by omega⟩
  obtain ⟨h,rfl⟩:∃ g',h=g'+1:=⟨h - 1,by omega⟩
  rw [cJ.pl29,jn.pl13,show decide (i<(R:Int))=true from decide_eq_true (by omega),cond_true,cond_true]
  obtain ⟨x,ex,xl,xg⟩:=cutf_row (F:=F) (A:=A) (k:=i) hR hC (by omega) (by omega)
  rw [ex,Option.bind_some,ap (x:=k+1) (by omega) (by omega)]
  obtain ⟨y,ey,yl,yg⟩:=cutf_end (x:=x) (k:=k+1) (by omega) (by omega)
  rw [ey,Option.bind_some]
  unfold iF.p dq.p
  obtain ⟨r,er,hr⟩:=idx_156 (F:=F) (y:=y) hR hC hk hkR hkC hp (by omega) y.length F 0 (by omega) (by omega) (by omega)
  rw [er,Option.bind_some,Option.bind_some]
  have yv:∀ a:Int,0<=a->a<y.length->gt y a.toNat=A i (k+1+a):=by
   intro a h1 h2
   rw [yg,xg _ (by omega),show (((k+1).toNat+a.toNat:Nat):Int)=k+1+a by omega]
  rcases specOdd_in (F:=F) (pC:=jn.pl13 F h) hR hC hk hkR hkC hp hi (by omega) (C - (k+1)).toNat F (k+1) (by omega) (by omega) (by omega) with ⟨⟨b,h1,h2,h3⟩,e⟩ | ⟨h1,e⟩
  ·have:r>=0:=hr.2 ⟨b - (k+1),by omega,by omega,by rw [yv _ (by omega) (by omega),show k+1+(b - (k+1))=b by omega];exact h3⟩
   rw [decide_eq_true this,cond_true,e]
   exact ⟨i,rfl,rfl,.inr ⟨hi,by omega,b,by omega,h2,h3⟩⟩
  ·have:¬ r>=0:=by
    rw [hr]
    rintro ⟨a,h2,h3,h4⟩
    rw [yv a h2 h3] at h4
    exact h4 (h1 _ (by omega) (by omega))
   rw [decide_eq_false this,cond_false,e,ap (by omega) (by omega)]
   obtain ⟨s,f1,f2,f3⟩:=ih g h (i+1) (by omega) (by omega) (by omega) (by omega)
   refine ⟨s,f1,f2,f3.imp (λ⟨q,hq⟩=>⟨q,λa b h3 h4 h5 h6=>?_⟩) id⟩
   by_cases ea:a=i
   ·rw [ea];exact h1 b (by omega) h6
   ·exact hq a b (by omega) h4 h5 h6
theorem odd_both (hR:R<=1000) (hC:C<=1000) (hF:5000000<F) (hk:0<=k) (hkR:k<R) (hkC:k<C) (hp:A k k≠0) :
  ∃ r:Int,cJ.p F R C (mk R C A) k=some r/\jn.p F R C (mk R C A) k=some r/\((r=-1/\∀ a b:Int,k+1<=a->a<R->k<b->b<C->Int.tmod (A a b) (A k k)=0)\/(k<r/\r<R/\∃ b:Int,k<b/\b<C/\Int.tmod (A r b) (A k k)≠0)):=by
 unfold cJ.p jn.p
 rw [ap (by omega) (by omega)]
 exact odd_l hR hC hF hk hkR hkC hp (R - (k+1)).toNat F F (k+1) (by omega) (by omega) (by omega) (by omega)
end Go.Proofs.Ytokekkacliomkaa.AE
end
section
namespace Go.Proofs.Ytokekkacliomkaa.AE
open Go Go.AE Go.Proofs
variable {R C F:Nat} {A:Mat} {i j k:Int}
abbrev ir (F g R C:Nat) (u:St) (bad:Bool) (k:Int):=bg.pl3 F g R (mk R R u.l) R R (mk R R u.m) R C (mk R C u.d) C C (mk C C u.r) C (mk C C u.s) bad k
abbrev sr (F R C:Nat) (u:St) (k:Int):=fT.p F R C (mk R C u.d) R (mk R R u.l) R R (mk R R u.m) C C (mk C C u.r) C (mk C C u.s) false k
theorem ir_bad {g:Nat} {l m d r s:List Int} {c1 c3 c4 c6 c7 c9 c10 c13 k:Int}:bg.pl3 F (g+1) c1 l c3 c4 m c6 c7 d c9 c10 r c13 s true k=some (l,m,d,r,s,true):=by
 rw [bg.pl3];rfl
def Ust (R C:Nat) (k:Int) (u:St) (P:Int):Prop:=u.d k k=P/\(∀ a:Int,k<a->a<R->u.d a k=0)/\∃ b:Int,k<b/\b<C/\Int.tmod (u.d k b) P≠0
def HasLt (R C:Nat) (k:Int) (u:St) (P:Int):Prop:=∃ a b:Int,k<=a/\a<R/\k<=b/\b<C/\u.d a b≠0/\ab (u.d a b)<P
def Same (k:Int) (u v:St):Prop:=∀ a:Int,0<=a->a<k->v.d a a=u.d a a
theorem pv_same {u:St} {p q k:Int} (hp:k<=p) (hq:k<=q):Same k u (pvS u p q k):=by
 intro a _ h2
 have e:(swS u p q k).d a a=u.d a a:=by
  show swC (swR u.d p k) q k a a=_
  unfold swC swR sw
  rw [if_neg (by omega),if_neg (by omega),if_neg (by omega),if_neg (by omega)]
 unfold pvS
 split
 ·show (ngS (swS u p q k) k).d a a=_
  rw [<- e]
  unfold ngS
  simp only
  first | rw [ngR_ne (by omega)] | (unfold ngR;rw [if_neg (by omega)])
 ·exact e
theorem round_both (hR:R<=1000) (hC:C<=1000) (hF:5000000<F) (hk:0<=k) (hkR:k<R) (hkC:k<C) {u:St} (hu:u.good R C) (g:Nat) :
  ((∀ a b,k<=a->a<R->k<=b->b<C->u.d a b=0)/\ir F (g+1) R C u false k=some (mk R R u.l,mk R R u.m,mk R C u.d,mk C C u.r,mk C C u.s,false)/\sr F R C u k=some (true,true,mk R C u.d,mk R R u.l,mk R R u.m,mk C C u.r,mk C C u.s,false)) \/
  ∃ p q,SI k C u.d R k (some (p,q)) /\
   (((∃ l m d r s,ir F (g+2) R C u false k=some (l,m,d,r,s,true))/\(∃ l m d r s,sr F R C u k=some (false,false,d,l,m,r,s,true))) \/
   (∃ v:St,v.good R C/\ir F (g+1) R C u false k=ir F g R C v false k/\sr F R C u k=some (false,false,mk R C v.d,mk R R v.l,mk R R v.m,mk C C v.r,mk C C v.s,false) /\
    Same k u v/\Rch R C k u v/\(HasLt R C k v (ab (u.d p q))\/(Ust R C k v (ab (u.d p q))/\∀ b:Int,k<b->b<C->(pvS u p q k).d k b % ab (u.d p q)=0))) \/
   (∃ v:St,v.good R C/\ir F (g+1) R C u false k=ir F g R C v false (k+1)/\sr F R C u k=some (true,false,mk R C v.d,mk R R v.l,mk R R v.m,mk C C v.r,mk C C v.s,false)/\0<v.d k k/\Same k u v/\Rch R C k u v/\Clr R C k v)):=by
 unfold ir sr fT.p
 have hmin:k<(if (C:Int)<R then (C:Int) else R):=by split <;> omega
 rcases pivot_both hR hC hF hu hk hkR hkC with ⟨h0,e1,e2⟩ | ⟨p,q,hs,w,hw,hwg,hwk,e1,e2⟩
 ·left
  refine ⟨h0,?_,?_⟩
  ·rw [bg.pl3,decide_eq_true hmin]
   simp only [Bool.not_false,cond_true]
   rw [e2,Option.bind_some]
   rfl
  ·rw [e1,Option.bind_some]
   rfl
 ·right
  refine ⟨p,q,hs,?_⟩
  have hP:0<ab (u.d p q):=ab_pos.2 hs.2.1
  rw [e1,Option.bind_some]
  simp only [Bool.not_true,cond_false]
  have hI:∀ g,bg.pl3 F (g+1) R (mk R R u.l) R R (mk R R u.m) R C (mk R C u.d) C C (mk C C u.r) C (mk C C u.s) false k =
    (aL.p F R (mk R R w.l) R R (mk R R w.m) R C (mk R C w.d) C C (mk C C w.r) C (mk C C w.s) false k).bind λr3=>(bif r3.1 then (bg.pj4 F (bg.pl3 F g) R r3.2.1 R R r3.2.2.1 R C r3.2.2.2.1 C C r3.2.2.2.2.1 C r3.2.2.2.2.2 r3.1 k) else ((cq.p F R C r3.2.2.2.1 k).bind λr7=>(bif (!r7) then (bg.pj4 F (bg.pl3 F g) R r3.2.1 R R r3.2.2.1 R C r3.2.2.2.1 C C r3.2.2.2.2.1 C r3.2.2.2.2.2 r3.1 k) else ((cJ.p F R C r3.2.2.2.1 k).bind λr12=>(bif (decide (r12>=0)) then ((eS.p F R r3.2.1 R R r3.2.2.1 C r3.2.2.2.1 r3.1 k r12 1).bind λr16=>bg.pj6 F (bg.pl3 F g) R r16.1 R R r16.2.1 R C r16.2.2.1 C C r3.2.2.2.2.1 C r3.2.2.2.2.2 r16.2.2.2 k) else (bg.pj6 F (bg.pl3 F g) R r3.2.1 R R r3.2.2.1 R C r3.2.2.2.1 C C r3.2.2.2.2.1 C r3.2.2.2.2.2 r3.1 (IntKind.i64.wrap (k+1)))))))):=by
   intro g
   rw [bg.pl3,decide_eq_true hmin]
   simp only [Bool.not_false,cond_true]
   rw [e2,Option.bind_some]
   rfl
  have hpv:Same k u w:=by rw [hw];exact pv_same hs.1.1 hs.1.2.1
  have hpr:Rch R C k u w:=by
   rw [hw]
   obtain ⟨s1,s2,s3,s4⟩:=hs.1
   exact .piv u p q k s1 (by omega) s2 s3 (Int.le_refl _) hkR hkC
  rcases clr_both hR hC hF hk hkR hkC hP hwg hwk with ⟨v,hv,hvr,hv0,hvk,hva,hvb,c1,c2⟩ | ⟨⟨l,m,d,r,s,c1⟩,⟨l',m',d',r',s',c2⟩⟩
  ·have c2:fT.pl29 F F R C (mk R C w.d) R (mk R R w.l) R R (mk R R w.m) C C (mk C C w.r) C (mk C C w.s) false k (IntKind.i64.wrap (k+1))=_:=c2
   rw [c2]
   simp only [c1,Option.bind_some,cond_false] at hI
   obtain ⟨b,d1,d2,hb⟩:=clear_both (F:=F) (A:=v.d) hR hC hF hk hkR hkC
   unfold s1 fT.pj1
   simp only [cond_false]
   rw [d2,Option.bind_some]
   simp only [d1,Option.bind_some] at hI
   cases b with
   | false=>
    right;left
    refine ⟨v,hv,hI g,rfl,λa h1 h2=>(hv0 a a h2 h2).trans (hpv a h1 h2),hpr.trans hvr,.inl ?_⟩
    have hn:¬ ((∀ a:Int,k<a->a<R->v.d a k=0)/\(∀ a:Int,k<a->a<C->v.d k a=0)):=λh=>by have:=hb.2 h;cases this
    rcases Classical.not_and_iff_not_or_not.1 hn with h | h
    ·obtain ⟨a,h⟩:=Classical.not_forall.1 h
     have h:=not_imp.1 h
     obtain ⟨h1,h⟩:=h
     obtain ⟨h2,h3⟩:=not_imp.1 h
     refine ⟨a,k,by omega,h2,by omega,hkC,h3,?_⟩
     have:=hva a h1 h2
     have g1:=Int.emod_nonneg (w.d a k) (Int.ne_of_gt hP)
     have g2:=Int.emod_lt_of_pos (w.d a k) hP
     unfold ab at *
     rw [if_neg (by omega)];omega
    ·obtain ⟨a,h⟩:=Classical.not_forall.1 h
     have h:=not_imp.1 h
     obtain ⟨h1,h⟩:=h
     obtain ⟨h2,h3⟩:=not_imp.1 h
     refine ⟨k,a,by omega,hkR,by omega,h2,h3,?_⟩
     have:=hvb a h1 h2
     have g1:=Int.emod_nonneg (w.d k a) (Int.ne_of_gt hP)
     have g2:=Int.emod_lt_of_pos (w.d k a) hP
     unfold ab at *
     rw [if_neg (by omega)];omega
   | true=>
    obtain ⟨z1,z2⟩:=hb.1 rfl
    obtain ⟨r,f1,f2,hr⟩:=odd_both (F:=F) (A:=v.d) hR hC hF hk hkR hkC (by rw [hvk];omega)
    simp only [Bool.not_true,cond_false]
    rw [f2,Option.bind_some]
    simp only [Bool.not_true,cond_false,f1,Option.bind_some] at hI
    rcases hr with ⟨rfl,hdv⟩ | ⟨r1,r2,b,r3,r4,r5⟩
    ·right;right
     refine ⟨v,hv,?_,rfl,by rw [hvk];exact hP,λa h1 h2=>(hv0 a a h2 h2).trans (hpv a h1 h2),hpr.trans hvr,⟨z1,z2,λa b h1 h2 h3 h4=>Int.dvd_of_tmod_eq_zero (hdv a b (by omega) h2 h3 h4)⟩⟩
     rw [hI g,show decide ((-1:Int)>=0)=false from rfl,cond_false,ap (by omega) (by omega)]
     rfl
    ·rw [decide_eq_false (show ¬ r<0 by omega),cond_false]
     simp only [decide_eq_true (show r>=0 by omega),cond_true] at hI
     obtain ⟨bad',t1,⟨x,y,z,t2,t3⟩,t4⟩:=row_both (q:=-1) hR hC hF hv hk hkR (by omega:0<=r) r2 (by omega) (by decide) (by decide)
     rw [show (- -1:Int)=1 from rfl] at *
     rw [t2,Option.bind_some]
     simp only [t1,Option.bind_some] at hI
     cases bad' with
     | true=>
      left
      refine ⟨?_,⟨_,_,_,_,_,rfl⟩⟩
      rw [hI (g+1)]
      unfold bg.pj6 bg.pj5
      exact ⟨_,_,_,_,_,ir_bad⟩
     | false=>
      obtain ⟨rfl,rfl,rfl⟩:=t3 rfl
      have t4:=t4 rfl
      right;left
      refine ⟨rowS v k r 1,rowS_good hv _ _ _,hI g,rfl,?_,(hpr.trans hvr).trans (Rch.row v k r 1 (by omega) hkR (by omega) r2 (by omega) t4.1 t4.2.1 t4.2.2),.inr ⟨⟨?_,?_,?_⟩,?_⟩⟩
      all_goals
       have key:∀ b:Int,0<=b->b<C->(rowS v k r 1).d k b=v.d k b+v.d r b * 1:=by
        intro b h1 h2
        show adR v.d k r 1 k b=_
        unfold adR
        rw [if_pos rfl]
        apply ad_fit
        exact Classical.byContradiction λhh=>t4.1 ⟨b,h1,h2,hh⟩
       have oth:∀ a b,a≠k->(rowS v k r 1).d a b=v.d a b:=by
        intro a b h1
        show adR v.d k r 1 a b=_
        unfold adR
        rw [if_neg h1]
      ·exact λa h1 h2=>(oth a a (by omega)).trans ((hv0 a a h2 h2).trans (hpv a h1 h2))
      ·rw [key k hk hkC,hvk,z1 r r1 r2];omega
      ·intro a h1 h2
       rw [oth a k (by omega)]
       exact z1 a h1 h2
      ·refine ⟨b,r3,r4,?_⟩
       rw [key b (by omega) r4,z2 b r3 r4,<-hvk]
       rw [show 0+v.d r b * 1=v.d r b by omega]
       exact r5
      ·intro b h1 h2
       rw [<- hw,<-hvb b h1 h2]
       exact z2 b h1 h2
  ·left
   have c2:fT.pl29 F F R C (mk R C w.d) R (mk R R w.l) R R (mk R R w.m) C C (mk C C w.r) C (mk C C w.s) false k (IntKind.i64.wrap (k+1))=_:=c2
   rw [c2,hI (g+1),c1,Option.bind_some]
   unfold bg.pj4
   simp only [cond_true]
   exact ⟨⟨_,_,_,_,_,ir_bad⟩,⟨_,_,_,_,_,rfl⟩⟩
end Go.Proofs.Ytokekkacliomkaa.AE
end
section
namespace Go.Proofs.Ytokekkacliomkaa.AE
open Go Go.AE Go.Proofs
variable {R C F:Nat} {A:Mat} {i j k:Int}
abbrev sd (F:Nat) pC (g R C:Nat) (u:St) (k:Int):=gP.pl938 F pC g R C R C (mk R C u.d) R R (mk R R u.l) R R (mk R R u.m) C C (mk C C u.r) C C (mk C C u.s) false k false false
abbrev sO (F g R C:Nat) (u:St) (k:Int):=gP.pl29 F g R C R C (mk R C u.d) R R (mk R R u.l) R R (mk R R u.m) C C (mk C C u.r) C C (mk C C u.s) false k
def RBad (x:Option (List Int×List Int×List Int×List Int×List Int×Bool)):Prop:=∃ l m d r s,x=some (l,m,d,r,s,true)
def SBad (x:Option (Int×Int×List Int×Int×Int×List Int×Int×Int×List Int×Int×Int×List Int×Int×Int×List Int×Bool)):Prop:=∃ a1 a2 d a3 a4 l a5 a6 m a7 a8 r a9 a10 s,x=some (a1,a2,d,a3,a4,l,a5,a6,m,a7,a8,r,a9,a10,s,true)
theorem sd_bad {pC} {g:Nat} {l m d r s:List Int} {c1 c2 a1 a2 a3 a4 a5 a6 a7 a8 a9 a10 k:Int}:SBad (gP.pl938 F pC (g+1) c1 c2 a1 a2 d a3 a4 l a5 a6 m a7 a8 r a9 a10 s true k false false):=by
 rw [gP.pl938]
 exact ⟨_,_,_,_,_,_,_,_,_,_,_,_,_,_,_,rfl⟩
theorem inner_both (hR:R<=1000) (hC:C<=1000) (hF:5000000<F) (hk:0<=k) (hkR:k<R) (hkC:k<C) {pC}:∀ (m:Nat) (u:St) (g h:Nat),u.good R C->HasLt R C k u (m+1)->2 * m+3<=g->2 * m+3<=h ->
  (RBad (ir F g R C u false k)/\SBad (sd F pC h R C u k)) \/
  (∃ v:St,v.good R C/\0<v.d k k/\Same k u v/\Rch R C k u v/\Clr R C k v/\∃ g',g<=g'+(2 * m+2)/\ir F g R C u false k=ir F g' R C v false (k+1)/\sd F pC h R C u k=pC R C R C (mk R C v.d) R R (mk R R v.l) R R (mk R R v.m) C C (mk C C v.r) C C (mk C C v.s) false (k+1)):=by
 intro m
 induction m using Nat.strongRecOn with
 | _ m ih=>
 intro u g h hu hlt hg hh
 have stepS:∀ (u:St) (h:Nat),sd F pC (h+1) R C u k=(sr F R C u k).bind λr2=>gP.pl938 F pC h R C R C r2.2.2.1 R R r2.2.2.2.1 R R r2.2.2.2.2.1 C C r2.2.2.2.2.2.1 C C r2.2.2.2.2.2.2.1 r2.2.2.2.2.2.2.2 k r2.1 r2.2.1:=by
  intro u h
  unfold sd
  rw [gP.pl938]
  rfl
 have done:∀ (v:St) (h:Nat),gP.pl938 F pC (h+1) R C R C (mk R C v.d) R R (mk R R v.l) R R (mk R R v.m) C C (mk C C v.r) C C (mk C C v.s) false k true false=pC R C R C (mk R C v.d) R R (mk R R v.l) R R (mk R R v.m) C C (mk C C v.r) C C (mk C C v.s) false (k+1):=by
  intro v h
  rw [gP.pl938]
  unfold gP.pj4 gP.pj3
  simp only [Bool.not_true,cond_false]
  rw [ap (by omega) (by omega)]
 obtain ⟨g,rfl⟩:∃ g',g=g'+3:=⟨g - 3,by omega⟩
 obtain ⟨h,rfl⟩:∃ g',h=g'+3:=⟨h - 3,by omega⟩
 rcases round_both hR hC hF hk hkR hkC hu (g+2) with ⟨h0,_,_⟩ | ⟨p,q,hs,hcase⟩
 ·obtain ⟨a,b,h1,h2,h3,h4,h5,_⟩:=hlt
  exact absurd (h0 a b h1 h2 h3 h4) h5
 ·have hP:0<ab (u.d p q):=ab_pos.2 hs.2.1
  have hPm:ab (u.d p q)<m+1:=by
   obtain ⟨a,b,h1,h2,h3,h4,h5,h6⟩:=hlt
   have:=(hs.2.2 a b ⟨h1,h3,h4,.inl h2⟩ h5).1
   omega
  generalize ab (u.d p q)=P at hP hPm hcase
  have rec_:∀ (v:St) (g h:Nat),v.good R C->HasLt R C k v P->2 * m+1<=g->2 * m+1<=h ->
    (RBad (ir F g R C v false k)/\SBad (sd F pC h R C v k)) \/
    (∃ w:St,w.good R C/\0<w.d k k/\Same k v w/\Rch R C k v w/\Clr R C k w/\∃ g',g<=g'+2 * m/\ir F g R C v false k=ir F g' R C w false (k+1)/\sd F pC h R C v k=pC R C R C (mk R C w.d) R R (mk R R w.l) R R (mk R R w.m) C C (mk C C w.r) C C (mk C C w.s) false (k+1)):=by
   intro v g h hv hl hg hh
   rcases ih (P.toNat - 1) (by omega) v g h hv (by rw [show (((P.toNat - 1:Nat):Int)+1)=P by omega];exact hl) (by omega) (by omega) with hb | ⟨w,hw,hw0,hw1,hwr,hwc,g',h1,h2,h3⟩
   ·exact .inl hb
   ·exact .inr ⟨w,hw,hw0,hw1,hwr,hwc,g',by omega,h2,h3⟩
  rcases hcase with ⟨⟨l,m',d,r,s,e1⟩,⟨l',m'',d',r',s',e2⟩⟩ | ⟨v,hv,e1,e2,hsm,hrc,hprog⟩ | ⟨v,hv,e1,e2,hpos,hsm,hrc,hcl⟩
  ·left
   refine ⟨?_,?_⟩
   ·rcases round_both hR hC hF hk hkR hkC hu (g+1) with ⟨h0,_,_⟩ | ⟨p1,q1,hs1,hcase⟩
    ·obtain ⟨a,b,h1,h2,h3,h4,h5,_⟩:=hlt
     exact absurd (h0 a b h1 h2 h3 h4) h5
    ·rcases hcase with ⟨⟨l,m',d,r,s,e1⟩,_⟩ | ⟨v,hv,_,e3,_⟩ | ⟨v,hv,_,e3,_⟩
     ·exact ⟨_,_,_,_,_,e1⟩
     ·rw [e2] at e3;simp at e3
     ·rw [e2] at e3;simp at e3
   ·rw [stepS,e2,Option.bind_some]
    exact sd_bad
  ·rw [e1,stepS,e2,Option.bind_some]
   rcases hprog with hl | ⟨⟨k1,k2,b,k3,k4,k5⟩,_⟩
   ·rcases rec_ v (g+2) (h+2) hv hl (by omega) (by omega) with hb | ⟨w,hw,hw0,hw1,hwr,hwc,g',h1,h2,h3⟩
    ·exact .inl hb
    ·exact .inr ⟨w,hw,hw0,λa h1 h2=>(hw1 a h1 h2).trans (hsm a h1 h2),hrc.trans hwr,hwc,g',by omega,h2,h3⟩
   ·by_cases hl:HasLt R C k v P
    ·rcases rec_ v (g+2) (h+2) hv hl (by omega) (by omega) with hb | ⟨w,hw,hw0,hw1,hwr,hwc,g',h1,h2,h3⟩
     ·exact .inl hb
     ·exact .inr ⟨w,hw,hw0,λa h1 h2=>(hw1 a h1 h2).trans (hsm a h1 h2),hrc.trans hwr,hwc,g',by omega,h2,h3⟩
    ·have hkk:v.d k k≠0:=by omega
     have abP:ab P=P:=by unfold ab;rw [if_neg (by omega)]
     rcases round_both hR hC hF hk hkR hkC hv (g+1) with ⟨h0,_,_⟩ | ⟨p1,q1,hs1,hcase⟩
     ·exact absurd (h0 k k (by omega) hkR (by omega) hkC) hkk
     ·obtain ⟨s1,s2,s3⟩:=hs1
      obtain ⟨t1,t2,t3,t4⟩:=s1
      have hkk3:=s3 k k ⟨by omega,by omega,hkC,.inl hkR⟩ hkk
      have hge:¬ ab (v.d p1 q1)<P:=λhh=>hl ⟨p1,q1,t1,by omega,t2,t3,s2,hh⟩
      have hpq:p1=k/\q1=k:=by
       refine Classical.byContradiction λhne=>?_
       have:=hkk3.2 (by omega)
       rw [k1,abP] at this
       exact hge this
      obtain ⟨hp1,hq1⟩:=hpq
      rw [hp1,hq1] at hcase
      have hPP:ab (v.d k k)=P:=by rw [k1,abP]
      rw [hPP] at hcase
      have hpv:pvS v k k k=swS v k k k:=by
       unfold pvS
       rw [if_neg]
       show ¬ swC (swR v.d k k) k k k k<0
       unfold swC swR sw
       simp only [if_true]
       omega
      rcases hcase with ⟨⟨l,m',d,r,s,f1⟩,⟨l',m'',d',r',s',f2⟩⟩ | ⟨w,hw,f1,f2,hsm2,hrc2,hprog⟩ | ⟨w,hw,f1,f2,hpos2,hsm2,hrc2,hcl2⟩
      ·left
       refine ⟨?_,?_⟩
       ·rcases round_both hR hC hF hk hkR hkC hv g with ⟨h0,_,_⟩ | ⟨p2,q2,hs1,hcase⟩
        ·exact absurd (h0 _ _ (by omega) hkR (by omega) hkC) hkk
        ·rcases hcase with ⟨⟨l,m',d,r,s,e1⟩,_⟩ | ⟨v,hv,_,e3,_⟩ | ⟨v,hv,_,e3,_⟩
         ·exact ⟨_,_,_,_,_,e1⟩
         ·rw [f2] at e3;simp at e3
         ·rw [f2] at e3;simp at e3
       ·show SBad (sd F pC (h+1+1) R C v k)
        rw [stepS,f2,Option.bind_some]
        exact sd_bad
      ·rcases hprog with hl2 | ⟨_,hz⟩
       ·have hx:sd F pC (h+2) R C v k=sd F pC (h+1) R C w k:=by
         show sd F pC (h+1+1) R C v k=_
         rw [stepS,f2,Option.bind_some]
        rcases rec_ w (g+1) (h+1) hw hl2 (by omega) (by omega) with hb | ⟨x,hx',hx0,hx1,hxr,hxc,g',h1,h2,h3⟩
        ·left
         refine ⟨?_,?_⟩
         ·show RBad (ir F (g+1+1) R C v false k)
          rw [f1];exact hb.1
         ·show SBad (sd F pC (h+2) R C v k)
          rw [hx];exact hb.2
        ·right
         refine ⟨x,hx',hx0,λa h1 h2=>(hx1 a h1 h2).trans ((hsm2 a h1 h2).trans (hsm a h1 h2)),(hrc.trans hrc2).trans hxr,hxc,g',by omega,?_,?_⟩
         ·exact f1.trans h2
         ·exact hx.trans h3
       ·exfalso
        have:=hz b k3 k4
        rw [hpv] at this
        have e:(swS v k k k).d k b=v.d k b:=by
         show swC (swR v.d k k) k k k b=_
         unfold swC swR sw
         grind
        rw [e] at this
        exact k5 (Int.tmod_eq_zero_of_dvd (Int.dvd_of_emod_eq_zero this))
      ·right
       refine ⟨w,hw,hpos2,λa h1 h2=>(hsm2 a h1 h2).trans (hsm a h1 h2),hrc.trans hrc2,hcl2,g+1,by omega,f1,?_⟩
       show sd F pC (h+1+1) R C v k=_
       rw [stepS,f2,Option.bind_some]
       exact done w h
  ·right
   refine ⟨v,hv,hpos,hsm,hrc,hcl,g+2,by omega,e1,?_⟩
   rw [stepS,e2,Option.bind_some]
   exact done v (h+1)
theorem run_both (hR:R<=1000) (hC:C<=1000) (hF:2000000000100<=F):∀ (n:Nat) (k:Int) (u:St) (g h:Nat),u.good R C->Stg R C k u->0<=k->(if (C:Int)<R then (C:Int) else R) - k=n->n * 2000000000100+1<=g->n+1<=h ->
  (RBad (ir F g R C u false k)/\SBad (sO F h R C u k)) \/
  (∃ v:St,v.good R C/\Same k u v/\((∀ A,Red R C A u->Red R C A v)/\Rch R C k u v)/\Dia R C v.d/\(∀ a:Int,k<=a->a<R->a<C->0<=v.d a a)/\ir F g R C u false k=some (mk R R v.l,mk R R v.m,mk R C v.d,mk C C v.r,mk C C v.s,false) /\
   sO F h R C u k=some ((R:Int),(C:Int),mk R C v.d,(R:Int),(R:Int),mk R R v.l,(R:Int),(R:Int),mk R R v.m,(C:Int),(C:Int),mk C C v.r,(C:Int),(C:Int),mk C C v.s,false)):=by
 intro n
 induction n with
 | zero=>
  intro k u g h hu hs hk hn hg hh
  obtain ⟨g,rfl⟩:∃ g',g=g'+1:=⟨g - 1,by omega⟩
  obtain ⟨h,rfl⟩:∃ g',h=g'+1:=⟨h - 1,by omega⟩
  right
  refine ⟨u,hu,λ_ _ _=>rfl,⟨λ_ h=>h,.refl _⟩,hs.dia hk (by by_cases c:(R:Int)<=k;exact .inl c;exact .inr (.inl (by split at hn <;> omega))),λa h1 h2 h3=>by split at hn <;> omega,?_,?_⟩
  ·unfold ir
   rw [bg.pl3,decide_eq_false (by omega)]
   rfl
  ·unfold sO
   rw [gP.pl29,decide_eq_false (by omega)]
   rfl
 | succ n ih=>
  intro k u g h hu hs hk hn hg hh
  obtain ⟨g,rfl⟩:∃ g',g=g'+1:=⟨g - 1,by omega⟩
  obtain ⟨h,rfl⟩:∃ g',h=g'+1:=⟨h - 1,by omega⟩
  have hkC:k<C:=by split at hn <;> omega
  have hkR:k<R:=by split at hn <;> omega
  have hS:sO F (h+1) R C u k=sd F (gP.pl29 F h) F R C u k:=by
   unfold sO sd
   rw [gP.pl29,decide_eq_true (by omega),cond_true]
  rw [hS]
  by_cases hz:∀ a b,k<=a->a<R->k<=b->b<C->u.d a b=0
  ·rcases round_both (F:=F) hR hC (by omega) hk hkR hkC hu g with ⟨h0,e1,e2⟩ | ⟨p1,q1,⟨⟨t1,t2,t3,t4⟩,s2,s3⟩,hcase⟩
   ·right
    refine ⟨u,hu,λ_ _ _=>rfl,⟨λ_ h=>h,.refl _⟩,hs.dia hk (.inr (.inr hz)),λa h1 h2 h3=>by rw [hz a a h1 h2 h1 h3];omega,e1,?_⟩
    obtain ⟨f,rfl⟩:∃ g',F=g'+2:=⟨F - 2,by omega⟩
    unfold sd
    rw [gP.pl938]
    simp only [Bool.not_false,cond_true]
    have e2:fT.p (f+2) R C (mk R C u.d) R (mk R R u.l) R R (mk R R u.m) C C (mk C C u.r) C (mk C C u.s) false k=_:=e2
    rw [e2,Option.bind_some]
    rw [gP.pl938]
    rfl
   ·exact absurd (hz p1 q1 t1 (by omega) t2 t3) s2
  ·obtain ⟨M,hM⟩:∃ M:Nat,M=1000000000000:=⟨_,rfl⟩
   have hl:HasLt R C k u ((M:Int)+1):=by
    refine Classical.byContradiction λhne=>hz λa b h1 h2 h3 h4=>?_
    refine Classical.byContradiction λh5=>hne ⟨a,b,h1,h2,h3,h4,h5,?_⟩
    have:=hu.1.ab (i:=a) (j:=b) (by omega) h2 (by omega) h4
    omega
   rcases inner_both (F:=F) (pC:=gP.pl29 F h) hR hC (by omega) hk hkR hkC M u (g+1) F hu hl (by omega) (by omega) with ⟨hb1,hb2⟩ | ⟨v,hv,hv0,hv1,hvr,hvc,g',h1,h2,h3⟩
   ·exact .inl ⟨hb1,hb2⟩
   ·rw [h2,h3]
    have q1:n * 2000000000100+1<=g':=by
     rw [Nat.succ_mul] at hg
     generalize n * 2000000000100=N at *
     omega
    have q2:(if (C:Int)<R then (C:Int) else R) - (k+1)=n:=by omega
    have q3:n+1<=h:=by omega
    rcases ih (k+1) v g' h hv ((hvr.stg hk hs).next hk hkR hkC hvc (by omega)) (by omega) q2 q1 q3 with hb | ⟨w,hw,hw1,hwr,hwd,hw2,e⟩
    ·exact .inl hb
    ·refine .inr ⟨w,hw,λa h1 h2=>(hw1 a h1 (by omega)).trans (hv1 a h1 h2),⟨λA h=>hwr.1 A (hvr.red hk h),hvr.trans (hwr.2.mono (by omega))⟩,hwd,λa h1 h2 h3=>?_,e⟩
     by_cases ea:a=k
     ·subst ea;rw [hw1 a hk (by omega)];omega
     ·exact hw2 a (by omega) h2 h3
end Go.Proofs.Ytokekkacliomkaa.AE
end
section
namespace Go.Proofs.Ytokekkacliomkaa.AE
open Go Go.AE Go.Proofs
variable {R C F:Nat} {A:Mat} {i j k:Int}
theorem gt_set_eq {l:List Int} {n:Nat} {x:Int} (h:n<l.length):gt (l.set n x) n=x:=by
 unfold gt;rw [List.getD_eq_getElem?_getD,List.getElem?_set_self h];rfl
theorem gt_set_ne {l:List Int} {n m:Nat} {x:Int} (h:n≠m):gt (l.set n x) m=gt l m:=by
 unfold gt;rw [List.getD_eq_getElem?_getD,List.getD_eq_getElem?_getD,List.getElem?_set_ne h]
theorem ix_of {l:List Int} (h0:0<=i) (h:i<l.length):ix l i=some i.toNat:=by
 unfold ix;rw [if_pos ⟨h0,h⟩]
def InR (x a b:Int):Prop:=a<=x/\x<=b
instance (x a b:Int):Decidable (InR x a b):=by unfold InR;infer_instance
theorem Vr {x a b:Int}:iA.p F x a b=some (decide (InR x a b)):=by
 unfold iA.p InR
 by_cases h:x>=a
 ·rw [decide_eq_true h,cond_true];congr 1;simp only [ge_iff_le] at h;simp [h]
 ·rw [decide_eq_false h,cond_false];congr 1;simp only [ge_iff_le] at h;simp [h]
theorem Vs {x a b:Int}:gQ.p F x a b=some (decide (InR x a b)):=by
 unfold gQ.p InR
 by_cases h:a<=x
 ·rw [decide_eq_true h,cond_true];congr 1;simp [h]
 ·rw [decide_eq_false h,cond_false];congr 1;simp [h]
end Go.Proofs.Ytokekkacliomkaa.AE
end
section
namespace Go.Proofs.Ytokekkacliomkaa.AE
open Go Go.AE Go.Proofs
variable {R C F:Nat} {A:Mat} {i j k:Int}
theorem idM_bd {n:Nat}:Bd n n idM:=by
 intro a b _ _ _ _
 unfold idM;split <;> decide
theorem one_l {n:Nat} (hn:n<=1000):∀ (m g:Nat) (A:Mat) (i:Int),n - i=m->m<g->0<=i->(∀ a b:Int,0<=a->a<n->0<=b->b<n->A a b=if a<i then idM a b else 0) ->
  nT.pl29 F g n n n (mk n n A) i=some ((n:Int),(n:Int),mk n n idM):=by
 intro m
 induction m with
 | zero=>
  intro g A i hm hg hi hA
  obtain ⟨g,rfl⟩:∃ g',g=g'+1:=⟨g - 1,by omega⟩
  rw [nT.pl29,decide_eq_false (by omega),cond_false]
  rw [cY (A:=A) (B:=idM) (λa b h1 h2 h3 h4=>by rw [hA a b h1 h2 h3 h4,if_pos (by omega)])]
 | succ m ih=>
  intro g A i hm hg hi hA
  obtain ⟨g,rfl⟩:∃ g',g=g'+1:=⟨g - 1,by omega⟩
  rw [nT.pl29,decide_eq_true (by omega),cond_true]
  simp (disch:=omega) only [eL,jF,Option.bind_some,ap]
  refine ih g _ (i+1) (by omega) (by omega) (by omega) λa b h1 h2 h3 h4=>?_
  have:=hA a b h1 h2 h3 h4
  unfold upd idM at *
  grind
theorem mk_zero (n m:Nat):List.replicate (n * m) (0:Int)=mk n m λ_ _=>0:=by
 apply List.ext_getElem
 ·rw [dG,List.length_replicate]
 ·intro a h1 h2
  simp [mk]
theorem aeO {n:Nat} (hn:n<=1000) (hF:5000000<F):nT.p F n=some ((n:Int),(n:Int),mk n n idM):=by
 have hm:n * n<=1000 * 1000:=Nat.mul_le_mul hn hn
 unfold nT.p cD.p mkn
 rw [<- Int.natCast_mul,ap (by omega) (by omega),if_pos (by omega),Option.bind_some,Option.bind_some,Int.toNat_natCast,mk_zero]
 exact one_l hn n F _ 0 (by omega) (by omega) (by omega) λa b h1 _ _ _=>by rw [if_neg (by omega)]
theorem id_l {n:Nat} (hn:n<=1000):∀ (m g:Nat) (A:Mat) (i:Int),n - i=m->m<g->0<=i->(∀ a b:Int,0<=a->a<n->0<=b->b<n->A a b=if a<i then idM a b else 0) ->
  cK.pl29 F g n n (mk n n A) n i=some ((n:Int),(n:Int),mk n n idM):=by
 intro m
 induction m with
 | zero=>
  intro g A i hm hg hi hA
  obtain ⟨g,rfl⟩:∃ g',g=g'+1:=⟨g - 1,by omega⟩
  rw [cK.pl29,decide_eq_false (by omega),cond_false]
  rw [cY (A:=A) (B:=idM) (λa b h1 h2 h3 h4=>by rw [hA a b h1 h2 h3 h4,if_pos (by omega)])]
 | succ m ih=>
  intro g A i hm hg hi hA
  obtain ⟨g,rfl⟩:∃ g',g=g'+1:=⟨g - 1,by omega⟩
  rw [cK.pl29,decide_eq_true (by omega),cond_true]
  simp (disch:=omega) only [eL,jF,Option.bind_some,ap]
  refine ih g _ (i+1) (by omega) (by omega) (by omega) λa b h1 h2 h3 h4=>?_
  have:=hA a b h1 h2 h3 h4
  unfold upd idM at *
  grind
theorem Lm {n:Nat} (hn:n<=1000) (hF:5000000<F):cK.p F n=some ((n:Int),(n:Int),mk n n idM):=by
 have hm:n * n<=1000 * 1000:=Nat.mul_le_mul hn hn
 unfold cK.p cO.p mkn
 rw [<- Int.natCast_mul,ap (by omega) (by omega),if_pos (by omega),Option.bind_some,Option.bind_some,Int.toNat_natCast,mk_zero]
 exact id_l hn n F _ 0 (by omega) (by omega) (by omega) λa b h1 _ _ _=>by rw [if_neg (by omega)]
theorem smith_both (hR:R<=48) (hC:C<=48) (hF:1000000000000000<=F) (hb:Bd R C A) :
  (gJ.p F R C (mk R C A)=some (0,0,([]:List Int),0,0,([]:List Int),0,0,([]:List Int),0,0,([]:List Int),0,0,([]:List Int),3)/\SBad (gP.p F R C (mk R C A))) \/
  (∃ v:St,v.good R C/\(Red R C A v/\Rch R C 0 ⟨A,idM,idM,idM,idM⟩ v)/\Dia R C v.d/\(∀ a:Int,0<=a->a<R->a<C->0<=v.d a a)/\gJ.p F R C (mk R C A)=some ((R:Int),(R:Int),mk R R v.l,(R:Int),(R:Int),mk R R v.m,(R:Int),(C:Int),mk R C v.d,(C:Int),(C:Int),mk C C v.r,(C:Int),(C:Int),mk C C v.s,0) /\
   gP.p F R C (mk R C A)=some ((R:Int),(C:Int),mk R C v.d,(R:Int),(R:Int),mk R R v.l,(R:Int),(R:Int),mk R R v.m,(C:Int),(C:Int),mk C C v.r,(C:Int),(C:Int),mk C C v.s,false)):=by
 have hm:R * C<=48 * 48:=Nat.mul_le_mul hR hC
 unfold gJ.p gP.p ib.p jw.p apn bg.p
 rw [if_pos (by rw [dG];simp;omega),List.nil_append,aeO (by omega) (by omega),aeO (by omega) (by omega),Lm (by omega) (by omega),Lm (by omega) (by omega)]
 simp only [Option.bind_some]
 obtain ⟨n,hn⟩:∃ n:Nat,(if (C:Int)<R then (C:Int) else R) - 0=n:=⟨(if (C:Int)<R then (C:Int) else R).toNat,by split <;> omega⟩
 have hn48:n<=48:=by split at hn <;> omega
 have q1:n * 2000000000100+1<=F:=by omega
 rcases run_both (F:=F) (R:=R) (C:=C) (by omega) (by omega) (by omega) n 0 ⟨A,idM,idM,idM,idM⟩ F F ⟨hb,idM_bd,idM_bd,idM_bd,idM_bd⟩ Stg.zero (by omega) hn q1 (by omega) with ⟨⟨l,m,d,r,s,e1⟩,e2⟩ | ⟨v,hv,_,hre,hdi,hv2,e1,e2⟩
 ·left
  have e1:bg.pl3 F F R (mk R R idM) R R (mk R R idM) R C (mk R C A) C C (mk C C idM) C (mk C C idM) false 0=_:=e1
  rw [e1]
  exact ⟨rfl,e2⟩
 ·right
  have e1:bg.pl3 F F R (mk R R idM) R R (mk R R idM) R C (mk R C A) C C (mk C C idM) C (mk C C idM) false 0=_:=e1
  rw [e1]
  exact ⟨v,hv,⟨hre.1 A Red.start,hre.2⟩,hdi,λa h1 h2 h3=>hv2 a h1 h2 h3,rfl,e2⟩
end Go.Proofs.Ytokekkacliomkaa.AE
end
section
namespace Go.Proofs.Ytokekkacliomkaa.AE
open Go Go.AE Go.Proofs
variable {F n:Nat} {A:Mat}
theorem wr_add (a b:Int):IntKind.i64.wrap (IntKind.i64.wrap a+IntKind.i64.wrap b)=IntKind.i64.wrap (a+b):=by
 simp only [IntKind.wrap,IntKind.signed,IntKind.bits]
 simp
 omega
abbrev C7:=Int->List Int->Int->List Int->Int->List Int->Int->Option (List Int)
abbrev C12:=Int->List Int->Int->List Int->Int->List Int->Int->Int->List Int->Int->Int->Int->Option (List Int)
abbrev C15:=Int->List Int->Int->List Int->Int->List Int->Int->Int->List Int->Int->Int->Int->Int->Int->Int->Option (List Int)
def sg2:Nat->Int
 | 0=>1
 | k+1=>- sg2 k
theorem sg2_or:∀ k:Nat,sg2 k=1\/sg2 k=-1
 | 0=>.inl rfl
 | k+1=>by have:=sg2_or k;show - sg2 k=1\/- sg2 k=-1;omega
section
variable {c:List Int} {B W:Mat} {k:Int} (hn:n<=12)
include hn
theorem ch_in {C:C7} {C':C12} {C2:C15} {tr i j:Int} (i0:0<=i) (i1:i<n) (j0:0<=j) (j1:j<n) {Q:Mat}:∀ (d g l:Nat),n - l=d->d<g->l<=n ->
  aj.pl531344731 F C C' C2 g n (mk n n A) n c n (mk n n B) k n (mk n n (upd Q i j (IntKind.i64.wrap (Sg l λx=>A i x * B x j)))) tr n i i n j j n l =
   C2 n (mk n n A) n c n (mk n n B) k n (mk n n (upd Q i j (IntKind.i64.wrap (Sg n λx=>A i x * B x j)))) tr n i i n (j+1):=by
 intro d
 induction d with
 | zero=>
  intro g l hd hg hl
  obtain ⟨g,rfl⟩:∃ g',g=g'+1:=⟨g - 1,by omega⟩
  obtain rfl:l=n:=by omega
  rw [aj.pl531344731,decide_eq_false (by omega),cond_false]
  unfold aj.pj29 aj.pj28
  rw [ap (x:=j+1) (by omega) (by omega)]
 | succ d ih=>
  intro g l hd hg hl
  obtain ⟨g,rfl⟩:∃ g',g=g'+1:=⟨g - 1,by omega⟩
  rw [aj.pl531344731,decide_eq_true (by omega),cond_true,eL (i:=i) (j:=j) (by omega) (by omega) i0 i1 j0 j1,Option.bind_some,eL (i:=i) (j:=(l:Int)) (by omega) (by omega) i0 i1 (by omega) (by omega),Option.bind_some,
   eL (i:=(l:Int)) (j:=j) (by omega) (by omega) (by omega) (by omega) j0 j1,Option.bind_some,Option.bind_some,fj (i:=i) (j:=j) i0 i1 j0 j1,fj (i:=i) (j:=(l:Int)) i0 i1 (by omega) (by omega),fj (i:=(l:Int)) (j:=j) (by omega) (by omega) j0 j1,
   jF i0 i1 j0 j1,Eu,wr_add,ap (x:=(l:Int)+1) (by omega) (by omega)]
  have e:upd (upd Q i j (IntKind.i64.wrap (Sg l λx=>A i x * B x j))) i j (IntKind.i64.wrap ((Sg l λx=>A i x * B x j)+A i l * B l j))=upd Q i j (IntKind.i64.wrap (Sg (l+1) λx=>A i x * B x j)):=by
   funext a b;unfold upd;split <;> rfl
  rw [e]
  exact ih g (l+1) (by omega) (by omega) (by omega)
def pM (W:Mat) (i j:Int):Mat:=λa b=>if a<i\/a=i/\b<j then W a b else 0
variable (hW:∀ i j:Int,0<=i->i<n->0<=j->j<n->IntKind.i64.wrap (Sg n λx=>A i x * B x j)=W i j) (hF:1000<F)
include hW hF
theorem ch_col {C:C7} {C':C12} {tr i:Int} (i0:0<=i) (i1:i<n):∀ (d g:Nat) (j:Int),n - j=d->d<g->0<=j->j<=n ->
  aj.pl8302261 F C C' g n (mk n n A) n c n (mk n n B) k n (mk n n (pM W i j)) tr n i i n j=C' n (mk n n A) n c n (mk n n B) k n (mk n n (pM W (i+1) 0)) (IntKind.i64.wrap (tr+W i i)) n (i+1):=by
 intro d
 induction d with
 | zero=>
  intro g j hd hg hj hj2
  obtain ⟨g,rfl⟩:∃ g',g=g'+1:=⟨g - 1,by omega⟩
  have e:mk n n (pM W i j)=mk n n (pM W (i+1) 0):=cY λa b a0 a1 b0 b1=>by
   unfold pM
   by_cases h:a<i\/a=i/\b<j
   ·rw [if_pos h,if_pos (by omega)]
   ·rw [if_neg h,if_neg (by omega)]
  rw [aj.pl8302261,decide_eq_false (by omega),cond_false,e]
  unfold aj.pj27 aj.pj26
  rw [eL (i:=i) (j:=i) (by omega) (by omega) i0 i1 i0 i1,Option.bind_some,fj i0 i1 i0 i1,ap (x:=i+1) (by omega) (by omega)]
  have e2:pM W (i+1) 0 i i=W i i:=if_pos (by omega)
  rw [e2]
 | succ d ih=>
  intro g j hd hg hj hj2
  obtain ⟨g,rfl⟩:∃ g',g=g'+1:=⟨g - 1,by omega⟩
  have h:=ch_in (F:=F) (A:=A) (B:=B) (c:=c) (k:=k) hn (C:=C) (C':=C') (C2:=aj.pl8302261 F C C' g) (tr:=tr) i0 i1 hj (show j<n by omega) (Q:=pM W i j) n F 0 (by omega) (by omega) (by omega)
  have e0:upd (pM W i j) i j (IntKind.i64.wrap (Sg 0 λx=>A i x * B x j))=pM W i j:=by
   funext a b
   unfold upd pM
   by_cases q:a=i/\b=j
   ·rw [if_pos q,if_neg (by omega)]
    show IntKind.i64.wrap 0=0
    decide
   ·rw [if_neg q]
  have e1:upd (pM W i j) i j (W i j)=pM W i (j+1):=by
   funext a b
   unfold upd pM
   by_cases q:a=i/\b=j
   ·rw [if_pos q,if_pos (by omega),q.1,q.2]
   ·rw [if_neg q]
    by_cases h:a<i\/a=i/\b<j
    ·rw [if_pos h,if_pos (by omega)]
    ·rw [if_neg h,if_neg (by omega)]
  rw [e0,hW i j i0 i1 hj (by omega),e1,show ((0:Nat):Int)=0 from rfl] at h
  rw [aj.pl8302261,decide_eq_true (by omega),cond_true,h]
  exact ih g (j+1) (by omega) (by omega) (by omega) (by omega)
theorem ch_row {C:C7} (hT:∀ m:Nat,m<=n->IntKind.i64.wrap (Sg m λi=>W i i)=Sg m λi=>W i i):∀ (d g i:Nat),n - i=d->d<g->i<=n ->
  aj.pl64861 F C g n (mk n n A) n c n (mk n n B) k n (mk n n (pM W i 0)) (Sg i λi=>W i i) n i=aj.pj23 F C n (mk n n A) n c k n (mk n n W) (Sg n λi=>W i i):=by
 intro d
 induction d with
 | zero=>
  intro g i hd hg hi
  obtain ⟨g,rfl⟩:∃ g',g=g'+1:=⟨g - 1,by omega⟩
  obtain rfl:i=n:=by omega
  have e:mk i i (pM W i 0)=mk i i W:=cY λa b a0 a1 b0 b1=>if_pos (by omega)
  rw [aj.pl64861,decide_eq_false (by omega),cond_false,e]
 | succ d ih=>
  intro g i hd hg hi
  obtain ⟨g,rfl⟩:∃ g',g=g'+1:=⟨g - 1,by omega⟩
  rw [aj.pl64861,decide_eq_true (by omega),cond_true,ch_col hn hW hF (by omega) (by omega) n F 0 (by omega) (by omega) (by omega) (by omega)]
  have h:=hT (i+1) (by omega)
  rw [show (Sg (i+1) λi=>W i i)=(Sg i λi=>W i i)+W i i from rfl] at h
  rw [h]
  exact ih g (i+1) (by omega) (by omega) (by omega)
end
def dM (M:Mat) (d i:Int):Mat:=λa b=>if a=b/\a<i then M a b+d else M a b
theorem ch_dia {C:C7} {c:List Int} {M:Mat} {d k:Int} {Q:List Int} {tr:Int} (hn:n<=12) (hk:1<=k) (hk2:k<=n) (hc:c.length=n+1) (hd:gt c ((n:Int) - k+1).toNat=d) (hM:∀ i:Int,0<=i->i<n->IntKind.i64.wrap (M i i+d)=M i i+d):∀ (e g:Nat) (i:Int),n - i=e->e<g->0<=i->i<=n ->
  aj.pl32429 F C g n (mk n n A) n c n (mk n n (dM M d i)) k n Q tr n i=aj.pj30 F C n (mk n n A) n c n (mk n n (dM M d n)) k n Q tr:=by
 intro e
 induction e with
 | zero=>
  intro g i he hg hi hi2
  obtain ⟨g,rfl⟩:∃ g',g=g'+1:=⟨g - 1,by omega⟩
  obtain rfl:i=n:=by omega
  rw [aj.pl32429,decide_eq_false (by omega),cond_false]
 | succ e ih=>
  intro g i he hg hi hi2
  obtain ⟨g,rfl⟩:∃ g',g=g'+1:=⟨g - 1,by omega⟩
  have hix:ix c ((n:Int) - k+1)=some ((n:Int) - k+1).toNat:=by unfold ix;rw [if_pos (by omega)]
  have e1:dM M d i i i=M i i:=if_neg (by omega)
  have e2:upd (dM M d i) i i (M i i+d)=dM M d (i+1):=by
   funext a b
   unfold upd dM
   by_cases q:a=i/\b=i
   ·rw [if_pos q,if_pos (by omega),q.1,q.2]
   ·rw [if_neg q]
    by_cases h:a=b/\a<i
    ·rw [if_pos h,if_pos (by omega)]
    ·rw [if_neg h,if_neg (by omega)]
  rw [aj.pl32429,decide_eq_true (by omega),cond_true,eL (i:=i) (j:=i) (by omega) (by omega) hi (by omega) hi (by omega),Option.bind_some,ap (x:=(n:Int) - k) (by omega) (by omega),ap (x:=(n:Int) - k+1) (by omega) (by omega),hix,Option.bind_some,Option.bind_some,
   fj hi (by omega) hi (by omega),hd,e1,hM i hi (by omega),jF hi (by omega) hi (by omega),e2,ap (x:=i+1) (by omega) (by omega)]
  exact ih g (i+1) (by omega) (by omega) (by omega) (by omega)
structure Cf (n:Nat) (A:Mat) (k:Nat) (c:List Int):Prop where
 len:c.length=n+1
 val:∀ t:Nat,t<=n->t<k->gt c (n - t)=sg2 t * ek n A t
def Mk (n:Nat) (A:Mat):Nat->Mat
 | 0=>λ_ _=>0
 | k+1=>λi j=>sg2 k * Ek n A k i j
theorem Mk_step {i j:Int} (k:Nat) (i0:0<=i) (i1:i<n) (j0:0<=j) (j1:j<n):Sg n (λx=>A i x * dM (Mk n A k) (sg2 k * ek n A k) n x j)=Mk n A (k+1) i j:=by
 have e:Sg n (λx=>A i x * dM (Mk n A k) (sg2 k * ek n A k) n x j)=Sg n (λx=>A i x * Mk n A k x j)+A i j * (sg2 k * ek n A k):=by
  have h:=Sg_one (f:=λx=>A i x * (sg2 k * ek n A k)) j0 (n:=n)
  rw [if_pos j1] at h
  rw [<- h,<-Sg_add]
  refine Sg_congr λx x0 x1=>?_
  unfold dM
  by_cases q:x=j
  ·rw [if_pos ⟨q,x1⟩,if_pos q,Int.mul_add]
  ·rw [if_neg λh=>q h.1,if_neg q,Int.add_zero]
 rw [e]
 cases k with
 | zero=>
  rw [Sg_zero λx _ _=>by show A i x * 0=0;rw [Int.mul_zero],ek_zero]
  show 0+A i j * (1 * 1)=1 * Ek n A 0 i j
  rw [Ek_zero j0 j1];omega
 | succ k=>
  show Sg n (λx=>A i x * (sg2 k * Ek n A k x j))+A i j * (- sg2 k * ek n A (k+1))=- sg2 k * Ek n A (k+1) i j
  rw [Ek_succ j0 j1,Sg_congr (g:=λx=>sg2 k * (A i x * Ek n A k x j)) λx _ _=>by rw [<- Int.mul_assoc,<-Int.mul_assoc,Int.mul_comm (A i x)],Sg_mul]
  rcases sg2_or k with e | e <;> rw [e]
  ·rw [Int.mul_comm (A i j)];simp only [Int.neg_mul,Int.one_mul];omega
  ·rw [Int.mul_comm (A i j)];simp only [Int.neg_mul,Int.one_mul,Int.neg_neg];omega
structure Sml (n:Nat) (A:Mat):Prop where
 e:∀ k:Nat,-10000000000000<=ek n A k/\ek n A k<=10000000000000
 m:∀ (k:Nat) (i j:Int),0<=i->i<n->0<=j->j<n->-10000000000000<=Ek n A k i j/\Ek n A k i j<=10000000000000
theorem char_v (hn:n<=12) (hF:1000<F) (hs:Sml n A):∀ (d g k:Nat) (c:List Int),n - k=d->d+1<g->k<=n->Cf n A (k+1) c ->
  ∃ c',Cf n A (n+1) c'/\aj.pl253 F g n (mk n n A) n c n (mk n n (Mk n A k)) ((k:Int)+1)=some c':=by
 intro d
 induction d with
 | zero=>
  intro g k c hd hg hk hc
  obtain ⟨g,rfl⟩:∃ g',g=g'+1:=⟨g - 1,by omega⟩
  obtain rfl:k=n:=by omega
  rw [aj.pl253,decide_eq_false (by omega),cond_false]
  exact ⟨c,hc,rfl⟩
 | succ d ih=>
  intro g k c hd hg hk hc
  obtain ⟨g,rfl⟩:∃ g',g=g'+1:=⟨g - 1,by omega⟩
  have hm:n * n<=12 * 12:=Nat.mul_le_mul hn hn
  have bM:∀ i j:Int,0<=i->i<n->0<=j->j<n->∀ q:Nat,-10000000000000<=Mk n A q i j/\Mk n A q i j<=10000000000000:=λi j i0 i1 j0 j1 q=>by
   cases q with
   | zero=>show -10000000000000<=(0:Int)/\(0:Int)<=_;omega
   | succ q=>
    have:=hs.m q i j i0 i1 j0 j1
    show _<=sg2 q * Ek n A q i j/\sg2 q * Ek n A q i j<=_
    rcases sg2_or q with e | e <;> rw [e] <;> omega
  have bd:∀ q:Nat,-10000000000000<=sg2 q * ek n A q/\sg2 q * ek n A q<=10000000000000:=λq=>by
   have:=hs.e q
   rcases sg2_or q with e | e <;> rw [e] <;> omega
  have hz:cO.p F n n=some ((n:Int),(n:Int),mk n n λ_ _=>0):=by
   unfold cO.p mkn
   rw [<- Int.natCast_mul,ap (by omega) (by omega),if_pos (by omega),Option.bind_some,Int.toNat_natCast,mk_zero]
  rw [aj.pl253,decide_eq_true (by omega),cond_true,hz,Option.bind_some]
  simp only []
  have hgc:gt c ((n:Int) - ((k:Int)+1)+1).toNat=sg2 k * ek n A k:=by
   rw [<- hc.val k hk (by omega)];congr 1;omega
  have e0:mk n n (Mk n A k)=mk n n (dM (Mk n A k) (sg2 k * ek n A k) 0):=cY λa b a0 a1 b0 b1=>(if_neg (by omega)).symm
  rw [e0,ch_dia (M:=Mk n A k) hn (by omega) (by omega) hc.len hgc (λi i0 i1=>by
   have h1:=bM i i i0 i1 i0 i1 k
   have h2:=bd k
   exact ap (by omega) (by omega)) n F 0 (by omega) (by omega) (by omega) (by omega)]
  unfold aj.pj30
  have e1:(mk n n λ_ _=>0)=mk n n (pM (Mk n A (k+1)) ((0:Nat):Int) 0):=cY λa b a0 a1 b0 b1=>(if_neg (by omega)).symm
  have tb:∀ m:Nat,m<=n->-(10000000000000 * (m:Int))<=(Sg m λi=>Mk n A (k+1) i i)/\(Sg m λi=>Mk n A (k+1) i i)<=10000000000000 * (m:Int):=λm=>by
   induction m with
   | zero=>intro _;show _<=(0:Int)/\(0:Int)<=_;omega
   | succ m ihm=>
    intro h
    have h1:=ihm (by omega)
    have h2:=bM m m (by omega) (by omega) (by omega) (by omega) (k+1)
    show _<=(Sg m λi=>Mk n A (k+1) i i)+Mk n A (k+1) m m/\(Sg m λi=>Mk n A (k+1) i i)+Mk n A (k+1) m m<=_
    omega
  have hr:=ch_row (F:=F) (A:=A) (c:=c) (B:=dM (Mk n A k) (sg2 k * ek n A k) n) (W:=Mk n A (k+1)) (k:=(k:Int)+1) hn (λi j i0 i1 j0 j1=>by
   rw [Mk_step k i0 i1 j0 j1]
   have:=bM i j i0 i1 j0 j1 (k+1)
   exact ap (by omega) (by omega)) hF (C:=aj.pl253 F g) (λm h=>by
   have:=tb m h
   exact ap (by omega) (by omega)) n F 0 (by omega) (by omega) (by omega)
  rw [e1]
  rw [show (Sg 0 λi=>Mk n A (k+1) i i)=0 from rfl,show ((0:Nat):Int)=0 from rfl] at hr
  rw [show ((0:Nat):Int)=0 from rfl,hr]
  unfold aj.pj23 aj.pj22
  have et:(Sg n λi=>Mk n A (k+1) i i)=((k:Int)+1) * (sg2 k * ek n A (k+1)):=by
   show (Sg n λi=>sg2 k * Ek n A k i i)=_
   rw [Sg_mul,Ek_tr,<-Int.mul_assoc,Int.mul_comm (sg2 k),Int.mul_assoc]
  have t1:=tb n (Nat.le_refl n)
  have ev:IntKind.i64.wrap (Int.tdiv (IntKind.i64.wrap (0 - Sg n λi=>Mk n A (k+1) i i)) ((k:Int)+1))=sg2 (k+1) * ek n A (k+1):=by
   rw [ap (x:=0 - _) (by omega) (by omega),et]
   have:0 - ((k:Int)+1) * (sg2 k * ek n A (k+1))=((k:Int)+1) * (sg2 (k+1) * ek n A (k+1)):=by
    show _=((k:Int)+1) * (- sg2 k * ek n A (k+1))
    rw [Int.neg_mul,Int.mul_neg,Int.zero_sub]
   rw [this,Int.mul_tdiv_cancel_left _ (by omega)]
   have:=bd (k+1)
   exact ap (by omega) (by omega)
  have hl:=hc.len
  have hix:ix c ((n:Int) - ((k:Int)+1))=some (n - (k+1)):=by
   unfold ix;rw [if_pos (by omega)];congr 1;omega
  rw [if_neg (by omega),ap (x:=(n:Int) - ((k:Int)+1)) (by omega) (by omega),hix,Option.bind_some,Option.bind_some,ev,ap (x:=(k:Int)+1+1) (by omega) (by omega)]
  exact ih g (k+1) _ (by omega) (by omega) (by omega) ⟨by rw [List.length_set];exact hl,λt h1 h2=>by
   by_cases e:t=k+1
   ·subst e;exact gt_set_eq (by omega)
   ·rw [gt_set_ne (by omega)];exact hc.val t h1 (by omega)⟩
theorem char_p (hn:n<=12) (hF:1000<F) (hs:Sml n A):∃ c,Cf n A (n+1) c/\aj.p F n n (mk n n A)=some c:=by
 have hm:n * n<=12 * 12:=Nat.mul_le_mul hn hn
 have hz:cO.p F n n=some ((n:Int),(n:Int),mk n n λ_ _=>0):=by
  unfold cO.p mkn
  rw [<- Int.natCast_mul,ap (by omega) (by omega),if_pos (by omega),Option.bind_some,Int.toNat_natCast,mk_zero]
 have hk:mkn (IntKind.i64.wrap ((n:Int)+1)) (0:Int)=some (List.replicate (n+1) 0):=by
  rw [ap (by omega) (by omega)]
  unfold mkn
  rw [if_pos (by omega)];congr 1
 have hix:ix (List.replicate (n+1) (0:Int)) (n:Int)=some n:=by
  unfold ix;rw [if_pos (by rw [List.length_replicate];omega)];congr 1
 unfold aj.p
 rw [hk,Option.bind_some,hix,Option.bind_some,Option.bind_some,hz,Option.bind_some]
 simp only []
 exact char_v hn hF hs n F 0 _ (by omega) (by omega) (by omega) ⟨by rw [List.length_set,List.length_replicate],λt h1 h2=>by
  obtain rfl:t=0:=by omega
  rw [ek_zero]
  exact gt_set_eq (by rw [List.length_replicate];omega)⟩
end Go.Proofs.Ytokekkacliomkaa.AE
end
section
namespace Go.Proofs.Ytokekkacliomkaa.AE
open Go Go.AE Go.Proofs
variable {R C F:Nat} {A:Mat} {i j k:Int}
def okL (l:List Int) (i:Int):Prop:=∀ a:Nat,i<=a->a<l.length->InR (gt l a) (-1000000000000) 1000000000000
theorem specM_l {l:List Int} (hl:l.length<=2000000):∀ (n g:Nat) (i:Int),l.length - i=n->n<g->0<=i->∃ b,cz.pl29 F g l i=some b/\(b=true↔okL l i):=by
 intro n
 induction n with
 | zero=>
  intro g i hn hg hi
  obtain ⟨g,rfl⟩:∃ g',g=g'+1:=⟨g - 1,by omega⟩
  rw [cz.pl29,decide_eq_false (by omega),cond_false]
  exact ⟨_,rfl,⟨λ_ a h1 h2=>by omega,λ_=>rfl⟩⟩
 | succ n ih=>
  intro g i hn hg hi
  obtain ⟨g,rfl⟩:∃ g',g=g'+1:=⟨g - 1,by omega⟩
  rw [cz.pl29,decide_eq_true (by omega),cond_true,ix_of hi (by omega),Option.bind_some,Vr,Option.bind_some]
  by_cases h:InR (gt l i.toNat) (-1000000000000) 1000000000000
  ·rw [decide_eq_true h,Bool.not_true,cond_false,ap (by omega) (by omega)]
   obtain ⟨b,e,hb⟩:=ih g (i+1) (by omega) (by omega) (by omega)
   refine ⟨b,e,hb.trans ⟨λh1 a h3 h4=>?_,λh1 a h3 h4=>h1 a (by omega) h4⟩⟩
   by_cases e:a=i.toNat
   ·subst e;exact h
   ·exact h1 a (by omega) h4
  ·rw [decide_eq_false h,Bool.not_false,cond_true]
   exact ⟨_,rfl,⟨λh=>(by cases h),λh1=>absurd (h1 i.toNat (by omega) (by omega)) h⟩⟩
theorem implM_l {l:List Int} (hl:l.length<=2000000):∀ (n g:Nat) (i:Int),l.length - i=n->n<g->0<=i->∃ r:Int,cZ.pl13 F g l l.length i=some r/\(¬ r>=0↔okL l i):=by
 intro n
 induction n with
 | zero=>
  intro g i hn hg hi
  obtain ⟨g,rfl⟩:∃ g',g=g'+1:=⟨g - 1,by omega⟩
  rw [cZ.pl13,decide_eq_false (by omega),cond_false]
  exact ⟨_,rfl,⟨λ_ a h1 h2=>by omega,λ_=>by decide⟩⟩
 | succ n ih=>
  intro g i hn hg hi
  obtain ⟨g,rfl⟩:∃ g',g=g'+1:=⟨g - 1,by omega⟩
  unfold cZ.pl13 iw.p
  rw [decide_eq_true (by omega),cond_true,ix_of hi (by omega),Option.bind_some,Vs,Option.bind_some,Option.bind_some]
  by_cases h:InR (gt l i.toNat) (-1000000000000) 1000000000000
  ·rw [decide_eq_true h,Bool.not_true,cond_false,ap (by omega) (by omega)]
   obtain ⟨b,e,hb⟩:=ih g (i+1) (by omega) (by omega) (by omega)
   refine ⟨b,e,hb.trans ⟨λh1 a h3 h4=>?_,λh1 a h3 h4=>h1 a (by omega) h4⟩⟩
   by_cases e:a=i.toNat
   ·subst e;exact h
   ·exact h1 a (by omega) h4
  ·rw [decide_eq_false h,Bool.not_false,cond_true]
   exact ⟨_,rfl,⟨λh=>absurd hi h,λh1=>absurd (h1 i.toNat (by omega) (by omega)) h⟩⟩
theorem isMatrix_both {a b:Int} {l:List Int} (hF:5000000<F) (hl:l.length<=2000000) :
  ∃ v:Bool,cz.p F a b l=some v/\c_.p F a b l=some v/\(v=true->∃ (R C:Nat) (A:Mat),a=R/\b=C/\R<=48/\C<=48/\l=mk R C A/\Bd R C A):=by
 unfold cz.p c_.p
 rw [Vr,Vr,Vs,Vs]
 simp only [Option.bind_some]
 by_cases ha:InR a 0 48
 ·rw [decide_eq_true ha]
  simp only [Bool.not_true,cond_false,cond_true]
  by_cases hb:InR b 0 48
  ·rw [decide_eq_true hb]
   simp only [Bool.not_true,cond_false,cond_true]
   unfold gr.p
   rw [Option.bind_some]
   obtain ⟨ha0,ha1⟩:=ha
   obtain ⟨hb0,hb1⟩:=hb
   obtain ⟨R,rfl⟩:=Int.eq_ofNat_of_zero_le ha0
   obtain ⟨C,rfl⟩:=Int.eq_ofNat_of_zero_le hb0
   have hm:R * C<=48 * 48:=Nat.mul_le_mul (by omega) (by omega)
   rw [<- Int.natCast_mul,ap (by omega) (by omega)]
   by_cases h:(l.length:Int)=((R * C:Nat):Int)
   ·rw [h,bne_self_eq_false,cond_false,beq_self_eq_true,cond_true]
    unfold iy.p cZ.p
    obtain ⟨v,e1,h1⟩:=specM_l (F:=F) hl l.length F 0 (by omega) (by omega) (by omega)
    obtain ⟨r,e2,h2⟩:=implM_l (F:=F) hl l.length F 0 (by omega) (by omega) (by omega)
    rw [e1,e2,Option.bind_some,Option.bind_some]
    have:(!decide (r>=0))=v:=by
     rw [Bool.eq_iff_iff,h1,<-h2];simp
    rw [this]
    refine ⟨v,rfl,rfl,λhv=>⟨R,C,_,rfl,rfl,by omega,by omega,afJ (by omega),?_⟩⟩
    intro i j hi0 hi hj0 hj
    obtain ⟨x,y,rfl,rfl,g1,g2,g3,g4,g5⟩:=BD hi0 hi hj0 hj
    show InR (gt l ((x:Int) * C+y).toNat) (-1000000000000) 1000000000000
    rw [g3]
    exact h1.1 hv _ (by omega) (by omega)
   ·rw [show ((l.length:Int) != ((R * C:Nat):Int))=true from bne_iff_ne.2 h,show ((l.length:Int)==((R * C:Nat):Int))=false from beq_eq_false_iff_ne.2 h]
    exact ⟨false,rfl,rfl,λh=>(by cases h)⟩
  ·rw [decide_eq_false hb]
   exact ⟨false,rfl,rfl,λh=>(by cases h)⟩
 ·rw [decide_eq_false ha]
  exact ⟨false,rfl,rfl,λh=>(by cases h)⟩
end Go.Proofs.Ytokekkacliomkaa.AE
end
section
namespace Go.Proofs.Ytokekkacliomkaa.AE
open Go Go.AE Go.Proofs
variable {F n:Nat}
abbrev DS:=Int->Int->List Int->Int->Int->Int->Option Int
abbrev DI:=Int->Int->List Int->Int->Int->Int->Int->Option (Int×List Int)
abbrev DS2:=Int->Int->List Int->Int->Int->Int->Int->Option Int
abbrev DI2:=Int->Int->List Int->Int->Int->Int->Int->Int->Int->Option (Int×List Int)
theorem pivot_v {C:DS} {C':DI} {M:Mat} (hn:n<=48) {s l k:Int} (k0:0<=k) (hk:k<n):∀ (d g:Nat) (p:Int),n - p=d->d<g->k<=p->p<=n->(∀ i:Int,k<=i->i<p->M i k=0) ->
  ∃ p':Int,k<=p'/\p'<=n/\(∀ i:Int,k<=i->i<p'->M i k=0)/\(p'<n->M p' k≠0)/\ak.pl4010 F C g n n (mk n n M) s l k p=ak.pj17 F C n n (mk n n M) s l k p' /\
   cC.pl3766 F C' g n n (mk n n M) s l n k k p=cC.pj21 F C' n n (mk n n M) s l k p' n k:=by
 intro d
 induction d with
 | zero=>
  intro g p hd hg hp hp2 hz
  obtain ⟨g,rfl⟩:∃ g',g=g'+1:=⟨g - 1,by omega⟩
  refine ⟨p,hp,hp2,hz,λq=>by omega,?_,?_⟩
  ·rw [ak.pl4010,decide_eq_false (by omega),cond_false]
  ·rw [cC.pl3766,decide_eq_false (by omega),cond_false]
 | succ d ih=>
  intro g p hd hg hp hp2 hz
  obtain ⟨g,rfl⟩:∃ g',g=g'+1:=⟨g - 1,by omega⟩
  rw [ak.pl4010,decide_eq_true (by omega),cond_true,at_mk (by omega) (by omega) (by omega) (by omega) k0 hk,Option.bind_some,cC.pl3766,decide_eq_true (by omega),cond_true,eL (by omega) (by omega) (by omega) (by omega) k0 hk,Option.bind_some,fj (by omega) (by omega) k0 hk,ap (x:=p+1) (by omega) (by omega)]
  by_cases c:M p k=0
  ·rw [c,beq_self_eq_true,cond_true,cond_true]
   exact ih g (p+1) (by omega) (by omega) (by omega) (by omega) λi a b=>by
    by_cases e:i=p
    ·rw [e];exact c
    ·exact hz i a (by omega)
  ·rw [show (M p k==0)=false from beq_eq_false_iff_ne.mpr c,cond_false,cond_false]
   exact ⟨p,hp,hp2,hz,λ_=>c,rfl,rfl⟩
theorem swap_v {C':DI} (hn:n<=48) {s l k p:Int} (k0:0<=k) (hk:k<n) (p0:0<=p) (hp:p<n):∀ (d g:Nat) (A:Mat) (j:Int),n - j=d->d<g->0<=j ->
  cC.pl241131 F C' g n n (mk n n A) s l n k k p n j=cC.pj19 F C' n n (mk n n λa b=>if j<=b then A (sw p k a) b else A a b) s l k n k:=by
 intro d
 induction d with
 | zero=>
  intro g A j hd hg hj
  obtain ⟨g,rfl⟩:∃ g',g=g'+1:=⟨g - 1,by omega⟩
  rw [cC.pl241131,decide_eq_false (by omega),cond_false]
  congr 1
  apply cY
  intro a b _ _ _ _
  rw [if_neg (by omega)]
 | succ d ih=>
  intro g A j hd hg hj
  obtain ⟨g,rfl⟩:∃ g',g=g'+1:=⟨g - 1,by omega⟩
  rw [cC.pl241131,decide_eq_true (by omega),cond_true]
  simp (disch:=omega) only [eL,fj,jF,Option.bind_some,ap]
  rw [ih _ _ _ (by omega) (by omega) (by omega)]
  congr 1
  apply cY
  intro a b _ _ _ _
  unfold upd sw
  grind
def rowM (n:Nat) (M W:Mat) (k i j:Int):Mat:=λa b=>if k<a/\k<b/\b<n/\(a<i\/a=i/\b<j) then W a b else M a b
abbrev In9 (x:Int):Prop:=-1000000000<=x/\x<=1000000000
theorem cell_v {a b c d l w:Int} (ha:In9 a) (hb:In9 b) (hc:In9 c) (hd:In9 d) (hw:In9 w) (hl:l≠0) (e:a * b - c * d=l * w):IntKind.i64.wrap (Int.tdiv (IntKind.i64.wrap (IntKind.i64.wrap (a * b) - IntKind.i64.wrap (c * d))) l)=w:=by
 have h1:=mul_in ha hb
 have h2:=mul_in hc hd
 rw [ap (x:=a * b) (by omega) (by omega),ap (x:=c * d) (by omega) (by omega),ap (x:=a * b - c * d) (by omega) (by omega),e,Int.mul_tdiv_cancel_left _ hl,ap (by omega) (by omega)]
section
variable {M W:Mat} {s l k:Int} (hn:n<=48) (k0:0<=k) (hl:l≠0)
 (hM:∀ a b:Int,k<=a->a<n->k<=b->b<n->In9 (M a b)) (hW:∀ a b:Int,k<a->a<n->k<b->b<n->In9 (W a b))
 (hE:∀ a b:Int,k<a->a<n->k<b->b<n->M a b * M k k - M a k * M k b=l * W a b)
include hn k0 hl hM hW hE
theorem row_v {C:DS} {C':DI} {C2:DS2} {C2':DI2} {i:Int} (hi:k<i) (hi2:i<n):∀ (d g:Nat) (j:Int),n - j=d->d<g->k<j ->
  ak.pl1027029 F C C2 g n n (mk n n (rowM n M W k i j)) s l k i j=C2 n n (mk n n (rowM n M W k (i+1) (k+1))) s l k (i+1) /\
   cC.pl964565 F C' C2' g n n (mk n n (rowM n M W k i j)) s l n k k i j=C2' n n (mk n n (rowM n M W k (i+1) (k+1))) s l n k k (i+1):=by
 intro d
 induction d with
 | zero=>
  intro g j hd hg hj
  obtain ⟨g,rfl⟩:∃ g',g=g'+1:=⟨g - 1,by omega⟩
  have e:rowM n M W k i j=rowM n M W k (i+1) (k+1):=by
   funext a b
   unfold rowM
   by_cases h:k<a/\k<b/\b<n/\(a<i\/a=i/\b<j)
   ·rw [if_pos h,if_pos (by omega)]
   ·rw [if_neg h,if_neg (by omega)]
  rw [e,ak.pl1027029,decide_eq_false (by omega),cond_false,cC.pl964565,decide_eq_false (by omega),cond_false]
  unfold ak.pj15 ak.pj14 cC.pj17 cC.pj16
  rw [ap (x:=i+1) (by omega) (by omega)]
  exact ⟨rfl,rfl⟩
 | succ d ih=>
  intro g j hd hg hj
  obtain ⟨g,rfl⟩:∃ g',g=g'+1:=⟨g - 1,by omega⟩
  have r1:rowM n M W k i j i j=M i j:=if_neg (by omega)
  have r2:rowM n M W k i j k k=M k k:=if_neg (by omega)
  have r3:rowM n M W k i j i k=M i k:=if_neg (by omega)
  have r4:rowM n M W k i j k j=M k j:=if_neg (by omega)
  have c:=cell_v (hM i j (by omega) hi2 (by omega) (by omega)) (hM k k (by omega) (by omega) (by omega) (by omega)) (hM i k (by omega) hi2 (by omega) (by omega)) (hM k j (by omega) (by omega) (by omega) (by omega)) (hW i j hi hi2 hj (by omega)) hl (hE i j hi hi2 hj (by omega))
  have u:upd (rowM n M W k i j) i j (W i j)=rowM n M W k i (j+1):=by
   funext a b
   unfold upd rowM
   by_cases h:a=i/\b=j
   ·rw [if_pos h,if_pos (by omega),h.1,h.2]
   ·rw [if_neg h]
    by_cases h2:k<a/\k<b/\b<n/\(a<i\/a=i/\b<j)
    ·rw [if_pos h2,if_pos (by omega)]
    ·rw [if_neg h2,if_neg (by omega)]
  have ihh:=ih g (j+1) (by omega) (by omega) (by omega)
  rw [ak.pl1027029,decide_eq_true (by omega),cond_true,cC.pl964565,decide_eq_true (by omega),cond_true,ap (x:=j+1) (by omega) (by omega)]
  rw [at_mk (i:=i) (j:=j) (by omega) (by omega) (by omega) (by omega) (by omega) (by omega),Option.bind_some,at_mk (i:=k) (j:=k) (by omega) (by omega) (by omega) (by omega) (by omega) (by omega),Option.bind_some,
   at_mk (i:=i) (j:=k) (by omega) (by omega) (by omega) (by omega) (by omega) (by omega),Option.bind_some,at_mk (i:=k) (j:=j) (by omega) (by omega) (by omega) (by omega) (by omega) (by omega),Option.bind_some,if_neg hl,
   eL (i:=i) (j:=j) (by omega) (by omega) (by omega) (by omega) (by omega) (by omega),Option.bind_some,Option.bind_some,Option.bind_some,Option.bind_some,
   eL (i:=k) (j:=k) (by omega) (by omega) (by omega) (by omega) (by omega) (by omega),Option.bind_some,eL (i:=i) (j:=k) (by omega) (by omega) (by omega) (by omega) (by omega) (by omega),Option.bind_some,
   eL (i:=k) (j:=j) (by omega) (by omega) (by omega) (by omega) (by omega) (by omega),Option.bind_some,if_neg hl,Option.bind_some,
   fj (i:=i) (j:=j) (by omega) (by omega) (by omega) (by omega),fj (i:=k) (j:=k) (by omega) (by omega) (by omega) (by omega),fj (i:=i) (j:=k) (by omega) (by omega) (by omega) (by omega),fj (i:=k) (j:=j) (by omega) (by omega) (by omega) (by omega),
   r1,r2,r3,r4,c,jF (by omega) (by omega) (by omega) (by omega),u]
  exact ihh
theorem rows_v {C:DS} {C':DI} (hk:k<n) (hF:1000<F):∀ (d g:Nat) (i:Int),n - i=d->d<g->k<i->i<=n ->
  ak.pl64189 F C g n n (mk n n (rowM n M W k i (k+1))) s l k i=C n n (mk n n (rowM n M W k n (k+1))) s (M k k) (k+1) /\
   cC.pl60285 F C' g n n (mk n n (rowM n M W k i (k+1))) s l n k k i=C' n n (mk n n (rowM n M W k n (k+1))) s (M k k) n (k+1):=by
 intro d
 induction d with
 | zero=>
  intro g i hd hg hi hi2
  obtain ⟨g,rfl⟩:∃ g',g=g'+1:=⟨g - 1,by omega⟩
  obtain rfl:i=n:=by omega
  have r2:rowM n M W k n (k+1) k k=M k k:=if_neg (by omega)
  rw [ak.pl64189,decide_eq_false (by omega),cond_false,cC.pl60285,decide_eq_false (by omega),cond_false]
  unfold ak.pj13 ak.pj12 cC.pj15 cC.pj14
  rw [at_mk (by omega) (by omega) k0 hk k0 hk,Option.bind_some,eL (by omega) (by omega) k0 hk k0 hk,Option.bind_some,fj k0 hk k0 hk,r2,ap (x:=k+1) (by omega) (by omega)]
  exact ⟨rfl,rfl⟩
 | succ d ih=>
  intro g i hd hg hi hi2
  obtain ⟨g,rfl⟩:∃ g',g=g'+1:=⟨g - 1,by omega⟩
  obtain ⟨a1,a2⟩:=row_v (F:=F) (s:=s) hn k0 hl hM hW hE (C:=C) (C':=C') (C2:=ak.pl64189 F C g) (C2':=cC.pl60285 F C' g) hi (by omega) (n - (k+1)).toNat F (k+1) (by omega) (by omega) (by omega)
  rw [ak.pl64189,decide_eq_true (by omega),cond_true,cC.pl60285,decide_eq_true (by omega),cond_true,ap (x:=k+1) (by omega) (by omega),a1,a2]
  exact ih g (i+1) (by omega) (by omega) (by omega) (by omega)
end
theorem in9 {x:Int} (h:ab0 x<=1000000000):In9 x:=by unfold ab0 at h;split at h <;> constructor <;> omega
theorem det_v (hn:n<=48) (hF:1000<F) {A0:Mat}:∀ (d g k:Nat) (B M:Mat) (s:Int),n - k=d->d<g->k<=n->(s=1\/s=-1)->det n A0=s * det n B->Pi n (mx n B)<=1000000000->det k B≠0 ->
  (∀ i j:Int,k<=i->i<n->k<=j->j<n->M i j=bm B k i j) ->
  ak.pl125 F g n n (mk n n M) s (det k B) k=some (det n A0)/\∃ z,cC.pl29 F g n n (mk n n M) s (det k B) n k=some (det n A0,z):=by
 intro d
 induction d with
 | zero=>
  intro g k B M s hd hg hk hs h0 hV hl hM
  obtain ⟨g,rfl⟩:∃ g',g=g'+1:=⟨g - 1,by omega⟩
  obtain rfl:k=n:=by omega
  have hb:=in9 (Int.le_trans det_bound hV)
  rw [ak.pl125,decide_eq_false (by omega),cond_false,cC.pl29,decide_eq_false (by omega),cond_false]
  unfold ak.pj9 cC.pj11
  have e:IntKind.i64.wrap (s * det k B)=det k A0:=by
   rw [h0]
   rcases hs with e | e <;> subst e <;> exact ap (by omega) (by omega)
  rw [e]
  exact ⟨rfl,_,rfl⟩
 | succ d ih=>
  intro g k B M s hd hg hk hs h0 hV hl hM
  obtain ⟨g,rfl⟩:∃ g',g=g'+1:=⟨g - 1,by omega⟩
  have hk':k<n:=by omega
  -- the rows below,whatever the pivot's row was
  have go:∀ (B M:Mat) (s:Int),(s=1\/s=-1)->det n A0=s * det n B->Pi n (mx n B)<=1000000000->det k B≠0 ->
    (∀ i j:Int,k<=i->i<n->k<=j->j<n->M i j=bm B k i j)->M k k≠0 ->
    ak.pl64189 F (ak.pl125 F g) F n n (mk n n M) s (det k B) k (k+1)=some (det n A0)/\∃ z,cC.pl60285 F (cC.pl29 F g) F n n (mk n n M) s (det k B) n k k (k+1)=some (det n A0,z):=by
   intro B M s hs h0 hV hl hM hp
   have e0:rowM n M (bm B (k+1)) k ((k:Int)+1) ((k:Int)+1)=M:=by
    funext a b;exact if_neg (by omega)
   have hMk:M k k=det (k+1) B:=by rw [hM k k (by omega) (by omega) (by omega) (by omega),bm_kk]
   obtain ⟨a1,a2⟩:=rows_v (F:=F) (M:=M) (W:=bm B (k+1)) (s:=s) (l:=det k B) (k:=k) hn (by omega) hl
    (λa b h1 h2 h3 h4=>by rw [hM a b h1 h2 h3 h4];exact in9 (Int.le_trans (bm_bound h1 h2 h3 h4) hV))
    (λa b h1 h2 h3 h4=>in9 (Int.le_trans (bm_bound (by omega) h2 (by omega) h4) hV))
    (λa b h1 h2 h3 h4=>by
     rw [hM a b (by omega) h2 (by omega) h4,hM k k (by omega) (by omega) (by omega) (by omega),hM a k (by omega) h2 (by omega) (by omega),hM k b (by omega) (by omega) (by omega) h4]
     exact (sylv h1 h3 hl).symm)
    (C:=ak.pl125 F g) (C':=cC.pl29 F g) (by omega) hF (n - (k+1)) F ((k:Int)+1) (by omega) (by omega) (by omega) (by omega)
   rw [e0] at a1 a2
   rw [a1,a2,hMk]
   exact ih g (k+1) B _ s (by omega) (by omega) (by omega) hs h0 hV (by rw [<- hMk];exact hp) λi j h1 h2 h3 h4=>if_pos (by omega)
  obtain ⟨p,p1,p2,p3,p4,p5,p6⟩:=pivot_v (F:=F) (C:=ak.pl125 F g) (C':=cC.pl29 F g) (M:=M) hn (s:=s) (l:=det k B) (k:=k) (by omega) (by omega) (n - k) F k (by omega) (by omega) (by omega) (by omega) λi a b=>by omega
  rw [ak.pl125,decide_eq_true (by omega),cond_true,p5,cC.pl29,decide_eq_true (by omega),cond_true,p6]
  unfold ak.pj17 cC.pj21
  by_cases c:p=n
  ·rw [show (p==(n:Int))=true from beq_iff_eq.mpr c,cond_true,cond_true]
   have z:det n B=0:=no_pivot hk' hl λi h1 h2=>by
    rw [<- hM i k h1 h2 (by omega) (by omega)];exact p3 i h1 (by omega)
   rw [h0,z,Int.mul_zero]
   exact ⟨rfl,_,rfl⟩
  ·rw [show (p==(n:Int))=false from beq_eq_false_iff_ne.mpr c,cond_false,cond_false]
   have hp:=p4 (by omega)
   by_cases c2:p=k
   ·rw [show (p != (k:Int))=false by simp;omega,cond_false,cond_false]
    unfold ak.pj16 cC.pj20
    rw [ap (x:=(k:Int)+1) (by omega) (by omega)]
    exact go B M s hs h0 hV hl hM (by rw [<- c2] at hp ⊢;exact hp)
   ·rw [show (p != (k:Int))=true by simp;omega,cond_true,cond_true]
    rw [Ll (by omega) (by omega) (by omega) (by omega) (by omega) (by omega) (by omega),Option.bind_some]
    have sv:=swap_v (F:=F) (C':=cC.pl29 F g) hn (s:=IntKind.i64.wrap (0 - s)) (l:=det k B) (k:=k) (p:=p) (by omega) (by omega) (by omega) (by omega) n F M 0 (by omega) (by omega) (by omega)
    have e1:(mk n n λa b=>if (0:Int)<=b then M (sw p k a) b else M a b)=mk n n (swR M p k):=cY λa b _ _ h _=>if_pos h
    rw [sv,e1]
    unfold ak.pj16 cC.pj19 cC.pj18
    rw [ap (x:=(k:Int)+1) (by omega) (by omega)]
    have es:IntKind.i64.wrap (0 - s)=-s:=by rcases hs with e | e <;> subst e <;> rfl
    rw [es,<-det_lo_sw (B:=B) (k:=k) p1]
    refine go (swR B p k) (swR M p k) (-s) (by omega) ?_ ?_ (by rw [det_lo_sw p1];exact hl) (λi j h1 h2 h3 h4=>?_) ?_
    ·rw [det_ml.swp B p k ⟨by omega,by omega⟩ ⟨by omega,by omega⟩ c2,Int.neg_mul_neg];exact h0
    ·rw [vol_sw ⟨by omega,by omega⟩ ⟨by omega,by omega⟩];exact hV
    ·have q:=sw_hi (N:=n) p1 (by omega) (Int.le_refl (k:Int)) (by omega) h1 h2
     rw [bm_sw p1 h1]
     exact hM _ j q.1 q.2 h3 h4
    ·show M (sw p k k) k≠0
     have:sw p k k=p:=by unfold sw;rw [if_neg (by omega),if_pos rfl]
     rw [this];exact hp
theorem det_s (hn:n<=48) (hF:1000<F) {A:Mat} (hV:Pi n (mx n A)<=1000000000):ak.p F n (mk n n A)=some (det n A)/\∃ z,cC.p F n n (mk n n A)=some (det n A,z):=by
 have hm:n * n<=48 * 48:=Nat.mul_le_mul hn hn
 obtain ⟨h1,h2⟩:=det_v (F:=F) (A0:=A) hn hF n F 0 A A 1 (by omega) (by omega) (by omega) (.inl rfl) (by rw [Int.one_mul]) hV (by show (1:Int)≠0;omega) λi j _ _ _ _=>bm_zero.symm
 refine ⟨?_,h2⟩
 unfold ak.p
 have:apn ([]:List Int) (mk n n A)=some (mk n n A):=by unfold apn;rw [if_pos (by rw [dG];simp;omega)];rfl
 rw [this,Option.bind_some]
 exact h1
end Go.Proofs.Ytokekkacliomkaa.AE
end
section
namespace Go.Proofs.Ytokekkacliomkaa.AE
open Go Go.AE Go.Proofs
variable {F n:Nat} {A:Mat}
theorem rs_le (hb:Bd n n A) {i:Int} (i0:0<=i) (i1:i<n):∀ m:Nat,m<=n->0<=Sg m (λj=>ab0 (A i j))/\Sg m (λj=>ab0 (A i j))<=1000000000000 * m
 | 0,_=>by show (0:Int)<=0/\(0:Int)<=_;omega
 | m+1,h=>by
  have h1:=rs_le hb i0 i1 m (by omega)
  have h2:=hb i m i0 i1 (by omega) (by omega)
  have h3:0<=ab0 (A i m)/\ab0 (A i m)<=1000000000000:=by unfold ab0;split <;> omega
  show 0<=Sg m (λj=>ab0 (A i j))+ab0 (A i m)/\Sg m (λj=>ab0 (A i j))+ab0 (A i m)<=1000000000000 * ((m+1:Nat):Int)
  omega
theorem abs_i {x:Int} (h:-1000000000000<=x/\x<=1000000000000):cW.p F x=some (ab0 x):=by
 unfold cW.p ab0
 by_cases c:x<0
 ·rw [decide_eq_true c,cond_true,if_pos c,ap (by omega) (by omega),show 0 - x=-x by omega]
 ·rw [decide_eq_false c,cond_false,if_neg c]
theorem abs_s {x:Int} (h:-1000000000000<=x/\x<=1000000000000):fW.p F x=some (ab0 x):=by
 unfold fW.p ab0
 rw [ap (by omega) (by omega)]
 congr 1
 split <;> split <;> omega
theorem vrow_i (hn:n<=48) (hb:Bd n n A) {pC} {w x y i:Int} {l r:List Int} (i0:0<=i) (i1:i<n) (hr:r.length=n) (hg:∀ m:Nat,m<n->gt r m=A i m):∀ (d g m:Nat),n - m=d->d<g->m<=n ->
  bw.pl7533 F pC g w l x y i (Sg m λj=>ab0 (A i j)) r n m=bw.pj4 F pC w l x (rsum n A i) y i:=by
 intro d
 induction d with
 | zero=>
  intro g m hd hgg hm
  obtain ⟨g,rfl⟩:∃ g',g=g'+1:=⟨g - 1,by omega⟩
  obtain rfl:m=n:=by omega
  rw [bw.pl7533,decide_eq_false (by omega),cond_false];rfl
 | succ d ih=>
  intro g m hd hgg hm
  obtain ⟨g,rfl⟩:∃ g',g=g'+1:=⟨g - 1,by omega⟩
  have h1:=rs_le hb i0 i1 m hm
  have h2:=hb i m i0 i1 (by omega) (by omega)
  have h3:0<=ab0 (A i m)/\ab0 (A i m)<=1000000000000:=by unfold ab0;split <;> omega
  have hix:ix r (m:Int)=some m:=by unfold ix;rw [if_pos (by omega)];congr 1
  rw [bw.pl7533,decide_eq_true (by omega),cond_true,hix,Option.bind_some,hg m (by omega),abs_i h2,Option.bind_some,ap (x:=(m:Int)+1) (by omega) (by omega),ap (by omega) (by omega)]
  exact ih g (m+1) (by omega) (by omega) (by omega)
theorem vol_i (hn:n<=48) (hF:1000<F) (hb:Bd n n A):∀ (d g i:Nat),n - i=d->d<g->i<=n->Pi i (mx n A)<=1000000000 ->
  ∃ v,bw.pl29 F g n (mk n n A) (Pi i (mx n A)) n i=some v/\(v<=1000000000↔Pi n (mx n A)<=1000000000):=by
 intro d
 induction d with
 | zero=>
  intro g i hd hgg hi hp
  obtain ⟨g,rfl⟩:∃ g',g=g'+1:=⟨g - 1,by omega⟩
  obtain rfl:i=n:=by omega
  rw [bw.pl29,decide_eq_false (by omega),cond_false]
  exact ⟨_,rfl,Iff.rfl⟩
 | succ d ih=>
  intro g i hd hgg hi hp
  obtain ⟨g,rfl⟩:∃ g',g=g'+1:=⟨g - 1,by omega⟩
  obtain ⟨r,e1,e2,e3⟩:=cutf_row (F:=F) (A:=A) (R:=n) (C:=n) (k:=(i:Int)) (by omega) (by omega) (by omega) (by omega)
  have hv:=vrow_i (F:=F) (pC:=bw.pl29 F g) (w:=(n:Int)) (x:=Pi i (mx n A)) (y:=(n:Int)) (l:=mk n n A) hn hb (i:=(i:Int)) (by omega) (by omega) e2 e3 n F 0 (by omega) (by omega) (by omega)
  rw [bw.pl29,decide_eq_true (by omega),cond_true,e1,Option.bind_some,e2]
  have h0:(Sg 0 λj=>ab0 (A i j))=0:=rfl
  rw [h0] at hv
  rw [show ((0:Nat):Int)=0 from rfl] at hv
  rw [hv]
  have h1:=rs_le hb (i:=(i:Int)) (by omega) (by omega) n (Nat.le_refl n)
  have hp1:=Pi_pos (f:=mx n A) (λx=>(mx_le x).2) i
  have hm:=mx_le (n:=n) (B:=A) i
  unfold bw.pj4
  obtain ⟨t,ht⟩:∃ t,t=(if 1>(if 1000000001<rsum n A i then 1000000001 else rsum n A i) then 1 else (if 1000000001<rsum n A i then 1000000001 else rsum n A i)):=⟨_,rfl⟩
  rw [<- ht]
  have ht1:1<=t/\t<=1000000001:=by rw [ht];split <;> (try split) <;> omega
  have hpt:1 * 1<=Pi i (mx n A) * t/\Pi i (mx n A) * t<=1000000000 * 1000000001:=⟨Int.mul_le_mul hp1 ht1.1 (by omega) (by omega),Int.mul_le_mul hp ht1.2 (by omega) (by omega)⟩
  rw [ap (x:=Pi i (mx n A) * t) (by omega) (by omega)]
  have hnext:Pi (i+1) (mx n A)=Pi i (mx n A) * mx n A i:=rfl
  have up:Pi (i+1) (mx n A)<=Pi n (mx n A):=by
   rw [hnext];exact Pi_pick (λx=>(mx_le x).2) (Int.le_refl _) (by omega)
  by_cases c:rsum n A i<=1000000000
  ·have et:t=mx n A i:=by rw [ht];unfold mx;split <;> split <;> (try split) <;> omega
   rw [et,<-hnext]
   by_cases q:Pi (i+1) (mx n A)>1000000000
   ·rw [decide_eq_true q,cond_true]
    exact ⟨_,rfl,by omega⟩
   ·rw [decide_eq_false q,cond_false]
    unfold bw.pj3
    rw [ap (x:=(i:Int)+1) (by omega) (by omega)]
    exact ih g (i+1) (by omega) (by omega) (by omega) (by omega)
  ·have et:t=1000000001:=by rw [ht];split <;> (try split) <;> omega
   have k1:1 * 1000000001<=Pi i (mx n A) * t:=Int.mul_le_mul hp1 (by omega) (by omega) (by omega)
   have k2:1 * 1000000001<=Pi i (mx n A) * mx n A i:=Int.mul_le_mul hp1 (by omega) (by omega) (by omega)
   rw [decide_eq_true (by omega),cond_true]
   exact ⟨_,rfl,by omega⟩
theorem vrow_s (hn:n<=48) (hb:Bd n n A) {pC} {x i:Int} (i0:0<=i) (i1:i<n):∀ (d g m:Nat),n - m=d->d<g->m<=n ->
  bF.pl1877 F pC g n n (mk n n A) x i (Sg m λj=>ab0 (A i j)) m=bF.pj4 F pC n n (mk n n A) x i (rsum n A i):=by
 intro d
 induction d with
 | zero=>
  intro g m hd hgg hm
  obtain ⟨g,rfl⟩:∃ g',g=g'+1:=⟨g - 1,by omega⟩
  obtain rfl:m=n:=by omega
  rw [bF.pl1877,decide_eq_false (by omega),cond_false];rfl
 | succ d ih=>
  intro g m hd hgg hm
  obtain ⟨g,rfl⟩:∃ g',g=g'+1:=⟨g - 1,by omega⟩
  have h1:=rs_le hb i0 i1 m hm
  have h2:=hb i m i0 i1 (by omega) (by omega)
  have h3:0<=ab0 (A i m)/\ab0 (A i m)<=1000000000000:=by unfold ab0;split <;> omega
  rw [bF.pl1877,decide_eq_true (by omega),cond_true,at_mk (by omega) (by omega) i0 i1 (by omega) (by omega),Option.bind_some,abs_s h2,Option.bind_some,ap (x:=(m:Int)+1) (by omega) (by omega),ap (by omega) (by omega)]
  exact ih g (m+1) (by omega) (by omega) (by omega)
theorem vol_s (hn:n<=48) (hF:1000<F) (hb:Bd n n A):∀ (d g i:Nat),n - i=d->d<g->i<=n ->
  bF.pl29 F g n n (mk n n A) (1000000000 / Pi i (mx n A)) i=some (decide (Pi n (mx n A)<=1000000000)):=by
 intro d
 induction d with
 | zero=>
  intro g i hd hgg hi
  obtain ⟨g,rfl⟩:∃ g',g=g'+1:=⟨g - 1,by omega⟩
  obtain rfl:i=n:=by omega
  rw [bF.pl29,decide_eq_false (by omega),cond_false]
  have hp1:=Pi_pos (f:=mx i A) (λx=>(mx_le x).2) i
  have h:=Int.le_ediv_iff_mul_le (a:=1) (b:=1000000000) (c:=Pi i (mx i A)) (by omega)
  rw [Int.one_mul] at h
  congr 1
  rw [decide_eq_decide]
  exact ⟨λq=>h.1 q,λq=>h.2 q⟩
 | succ d ih=>
  intro g i hd hgg hi
  obtain ⟨g,rfl⟩:∃ g',g=g'+1:=⟨g - 1,by omega⟩
  have hv:=vrow_s (F:=F) (pC:=bF.pl29 F g) (x:=1000000000 / Pi i (mx n A)) hn hb (i:=(i:Int)) (by omega) (by omega) n F 0 (by omega) (by omega) (by omega)
  have h0:(Sg 0 λj=>ab0 (A i j))=0:=rfl
  rw [h0,show ((0:Nat):Int)=0 from rfl] at hv
  rw [bF.pl29,decide_eq_true (by omega),cond_true,hv]
  have hp1:=Pi_pos (f:=mx n A) (λx=>(mx_le x).2) i
  unfold bF.pj4 bF.pj3
  have em:(if rsum n A i>1 then rsum n A i else 1)=mx n A i:=by unfold mx;split <;> split <;> omega
  have hm:=mx_le (n:=n) (B:=A) i
  have q0:0<=1000000000 / Pi i (mx n A):=Int.ediv_nonneg (by omega) (by omega)
  have q1:1000000000 / Pi i (mx n A)<=1000000000:=Int.ediv_le_self _ (by omega)
  rw [em,if_neg (by omega),Int.tdiv_eq_ediv_of_nonneg q0,Int.ediv_ediv_of_nonneg (by omega)]
  have r0:0<=1000000000 / (Pi i (mx n A) * mx n A i):=Int.ediv_nonneg (by omega) (Int.mul_nonneg (by omega) (by omega))
  have r1:1000000000 / (Pi i (mx n A) * mx n A i)<=1000000000:=Int.ediv_le_self _ (by omega)
  rw [ap (by omega) (by omega),ap (x:=(i:Int)+1) (by omega) (by omega)]
  exact ih g (i+1) (by omega) (by omega) (by omega)
end Go.Proofs.Ytokekkacliomkaa.AE
end
section
namespace Go.Proofs.Ytokekkacliomkaa.AE
open Go Go.AE Go.Proofs
variable {F n:Nat} {A:Mat}
theorem ab0_add (x y:Int):ab0 (x+y)<=ab0 x+ab0 y:=by unfold ab0;split <;> split <;> split <;> omega
theorem Ss_bound {K:Int}:∀ {n:Nat} {f:(Int->Bool)->Int},(∀ S,Wi n S->ab0 (f S)<=K)->ab0 (Ss n f)<=((2 ^ n:Nat):Int) * K
 | 0,f,h=>by
  have:=h (λ_=>false) λx hx=>by cases hx
  show ab0 (f _)<=1 * K
  omega
 | n+1,f,h=>by
  have h1:=Ss_bound (n:=n) (f:=f) λS hS=>h S λx hx=>by have:=hS x hx;omega
  have h2:=Ss_bound (n:=n) (f:=λS=>f (ad1 S n)) λS hS=>h (ad1 S n) λx hx=>by
   by_cases e:x=n
   ·omega
   ·rw [ad1_ne e] at hx;have:=hS x hx;omega
  show ab0 (Ss n f+Ss n _)<=_
  have h3:=ab0_add (Ss n f) (Ss n λS=>f (ad1 S n))
  rw [Nat.pow_succ,show ((2 ^ n * 2:Nat):Int)=((2 ^ n:Nat):Int)+((2 ^ n:Nat):Int) by omega,Int.add_mul]
  omega
theorem Pi_le {f g:Int->Int}:∀ {n:Nat},(∀ i:Int,0<=i->i<n->0<=f i/\f i<=g i)->0<=Pi n f/\Pi n f<=Pi n g
 | 0,_=>by show (0:Int)<=1/\(1:Int)<=1;omega
 | n+1,h=>by
  have h1:=Pi_le (n:=n) λi a b=>h i a (by omega)
  have h2:=h n (by omega) (by omega)
  show 0<=Pi n f * f n/\Pi n f * f n<=Pi n g * g n
  exact ⟨Int.mul_nonneg h1.1 h2.1,Int.mul_le_mul h1.2 h2.2 h2.1 (by omega)⟩
theorem RS_row {S:Int->Bool} {i:Int} (i0:0<=i) (i1:i<n):rsum n (RS A S) i<=if S i=true then mx n A i else 1:=by
 by_cases h:S i=true
 ·rw [if_pos h]
  refine Int.le_trans (Int.le_of_eq (Sg_congr λb _ _=>?_)) (mx_le i).1
  unfold RS;rw [if_pos h]
 ·rw [if_neg h]
  have h2:=Sg_one (f:=λ_=>1) i0 (n:=n)
  rw [if_pos i1] at h2
  refine Int.le_of_eq (Eq.trans (Sg_congr λb _ _=>?_) h2)
  unfold RS;rw [if_neg h]
  by_cases e:b=i
  ·rw [if_pos e,if_pos e.symm];rfl
  ·rw [if_neg e,if_neg (Ne.symm e)];rfl
theorem RS_bound {S:Int->Bool}:ab0 (det n (RS A S))<=Pi n (mx n A):=dt_bound n _ λi i0 i1=>by
 have h1:=RS_row (A:=A) (S:=S) i0 i1
 have h2:=(mx_le (n:=n) (B:=A) i).2
 split at h1 <;> omega
theorem bord_bound {S:Int->Bool} {i j:Int} (i0:0<=i) (i1:i<n) (j0:0<=j) (j1:j<n) (hS:S j=true):ab0 (det n (rset (RS A S) j (A i)))<=Pi n (mx n A):=by
 have hp:=Pi_pos (f:=mx n A) (λx=>(mx_le x).2) n
 by_cases e:i=j
 ·subst e
  have:rset (RS A S) i (A i)=RS A S:=by
   funext a b
   unfold rset RS
   by_cases q:a=i
   ·rw [if_pos q,q,if_pos hS]
   ·rw [if_neg q]
  rw [this];exact RS_bound
 ·by_cases h:S i=true
  ·have:det n (rset (RS A S) j (A i))=0:=det_ml.alt' _ j i ⟨j0,j1⟩ ⟨i0,i1⟩ (Ne.symm e) λb _ _=>by
    unfold rset RS
    rw [if_pos rfl,if_neg e,if_pos h]
   rw [this]
   show ab0 0<=_
   have:ab0 0=0:=by decide
   omega
  ·have hd:=dt_bound (n:=n) (A:=rset (RS A S) j (A i)) (M:=λa=>if a=j then mx n A i else if a=i then 1 else mx n A a) n (λ_=>true) λa a0 a1=>by
    have h2:=mx_le (n:=n) (B:=A) i
    have h3:=mx_le (n:=n) (B:=A) a
    by_cases q:a=j
    ·simp only [if_pos q]
     refine ⟨Int.le_trans (Int.le_of_eq (Sg_congr λb _ _=>?_)) h2.1,by omega⟩
     unfold rset;rw [if_pos q]
    ·simp only [if_neg q]
     have h1:=RS_row (A:=A) (S:=S) a0 a1
     have h4:rsum n (rset (RS A S) j (A i)) a=rsum n (RS A S) a:=Sg_congr λb _ _=>by unfold rset;rw [if_neg q]
     rw [h4]
     by_cases q2:a=i
     ·rw [if_pos q2];rw [q2,if_neg h] at h1;rw [q2];omega
     ·rw [if_neg q2];split at h1 <;> omega
   refine Int.le_trans hd ?_
   rw [Pi_out (f:=λa=>if a=j then mx n A i else if a=i then 1 else mx n A a) j0 j1,Pi_out (f:=mx n A) i0 i1]
   simp only [if_pos]
   refine Int.mul_le_mul_of_nonneg_left (Pi_le λx _ _=>?_).2 (by have:=(mx_le (n:=n) (B:=A) i).2;omega)
   have h3:=(mx_le (n:=n) (B:=A) x).2
   by_cases q:x=j
   ·rw [if_pos q];split <;> omega
   ·rw [if_neg q,if_neg q];split <;> omega
theorem sml (hn:n<=12) (hV:Pi n (mx n A)<=1000000000):Sml n A:=by
 have h2:2 ^ n<=2 ^ 12:=Nat.pow_le_pow_right (by omega) hn
 have hp:=Pi_pos (f:=mx n A) (λx=>(mx_le x).2) n
 have hb:((2 ^ n:Nat):Int) * 1000000000<=10000000000000:=by
  have:(2:Nat) ^ 12=4096:=by decide
  omega
 have z:ab0 0=0:=by decide
 have un:∀ x:Int,ab0 x<=((2 ^ n:Nat):Int) * 1000000000->-10000000000000<=x/\x<=10000000000000:=λx h=>by
  unfold ab0 at h;split at h <;> omega
 refine ⟨λk=>un _ (Ss_bound λS _=>?_),λk i j i0 i1 j0 j1=>un _ (Ss_bound λS _=>?_)⟩
 ·split
  ·exact Int.le_trans RS_bound hV
  ·omega
 ·split
  ·rename_i h
   exact Int.le_trans (bord_bound i0 i1 j0 j1 h.1) hV
  ·omega
end Go.Proofs.Ytokekkacliomkaa.AE
end
